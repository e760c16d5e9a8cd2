/- The tied card of QuoteReads: for every input the law returns true; its arguments read as they did. Conditions: the library's variables that the row lists start as the program's text lays them. -/
import Derived.Test.YtcoippikicikoaaDoorProg
import Derived.Below
import Derived.Deep.Draws
import Derived.Deep.AppendLies
import Derived.Maps.AppendAt
import Derived.OwnWalk
import Derived.Laws.BytesArg
import Derived.Laws.MakeOwn
import Derived.Laws.OwnMore
import Derived.Deep.OwnRows
import Derived.Tactics
import Derived.Lib.ConvBytes
import Derived.Laws.Slices
import Derived.WalkKit
import Derived.KernelRfl
import Derived.RowKit3
import Derived.Deep.LoopGhost
import Derived.Deep.QuietTactic
import Derived.BigQuiet
import Derived.WideLaws
import Derived.Deep.DeepCutAuto
import Derived.Deep.CutBlock
import Derived.Deep.RegionHeld3
import Derived.Laws.Rows
import Derived.Lib.AppendStr
import Derived.ArgAppend
import Derived.Laws.IdiomCopy
import Derived.OrdersHeld
import Derived.Laws.BitsLemmas
import Derived.RowKit
import Derived.Test.YtcoippikicikoaaDoorCards
import Derived.Test.YtcoippikicikoaaDoorTie
import Derived.Shelf.Vars
import Derived.ProofKit
import Derived.OpenShut
import Derived.PinnedBridge
import Derived.Lay
import Derived.Lib.LaidU8
import Derived.SevenTiedAt
import Derived.Stop.Joined
import Derived.Test.YtcoippikicikoaaDoorZRe
namespace Go.Proofs.YtcoippikicikoaaDoor.PQGen
open Go.RowKit Go.Proofs.YtcoippikicikoaaDoorW.PrintWords Go.Proofs.YtcoippikicikoaaDoorW.PrintLast Go.Proofs.YtcoippikicikoaaDoorW.PrintMore
attribute [local go_sem] max2_int min2_int max_two min_two
set_option linter.unusedVariables false
set_option linter.unusedSimpArgs false
mutual
def quote_Text.j0 : Nat → ByteArray → Int → Bool → Bool → Bool → Bool → Bool → Bool → Int → Int → Int → Option (ByteArray × Bool)
 | 0, _, _, _, _, _, _, _, _, _, _, _ => none
 | k + 1, x0, x9, x10, x164000, x164001, x164002, x164003, x164004, x164005, x164006, x164007 => if x10 = true then (if x164007 = 118 then (quote_Text.j1 k x0 x164002 x164000 x164001 x164002 x164003 x164004 x164005 x164006 x164007) else (quote_Text.j1 k x0 false x164000 x164001 x164002 x164003 x164004 x164005 x164006 x164007)) else (if x9 = 113 then ((buf_Cut.f x0 x164006).bind fun t168 => (if x164002 = true then ((quote_Raw.f t168).bind fun bt169 => (if bt169.2 = true then ((buf_Pad.f bt169.1 x164000 x164001 x164002 x164003 x164004 x164005 x164006 x164007).bind fun t171 => (some (t171, true))) else ((quote_Quote.f t168 x164000).bind fun t172 => ((buf_Pad.f t172 x164000 x164001 x164002 x164003 x164004 x164005 x164006 x164007).bind fun t173 => (some (t173, true)))))) else ((quote_Quote.f t168 x164000).bind fun t174 => ((buf_Pad.f t174 x164000 x164001 x164002 x164003 x164004 x164005 x164006 x164007).bind fun t175 => (some (t175, true)))))) else (if x9 = 120 then ((quote_Hex.f k x0 x164000 x164001 x164002 x164003 x164004 x164005 x164006 x164007).bind fun t176 => (some (t176, true))) else (if x9 = 88 then ((quote_Hex.f k x0 x164000 x164001 x164002 x164003 x164004 x164005 x164006 x164007).bind fun t177 => (some (t177, true))) else (some ((⟨#[]⟩ : ByteArray), false)))))
def quote_Text.j1 : Nat → ByteArray → Bool → Bool → Bool → Bool → Bool → Bool → Int → Int → Int → Option (ByteArray × Bool)
 | 0, _, _, _, _, _, _, _, _, _, _ => none
 | k + 1, x0, x19, x164000, x164001, x164002, x164003, x164004, x164005, x164006, x164007 => if x19 = true then ((quote_Quote.f x0 false).bind fun t164 => ((buf_Pad.f t164 x164000 x164001 x164002 x164003 x164004 x164005 x164006 x164007).bind fun t165 => (some (t165, true)))) else ((buf_Cut.f x0 x164006).bind fun t166 => ((buf_Pad.f t166 x164000 x164001 x164002 x164003 x164004 x164005 x164006 x164007).bind fun t167 => (some (t167, true))))
end
def quote_Text.f (k : Nat) (a0 : ByteArray) (a1_0 : Bool) (a1_1 : Bool) (a1_2 : Bool) (a1_3 : Bool) (a1_4 : Bool) (a1_5 : Int) (a1_6 : Int) (a1_7 : Int) : Option (ByteArray × Bool) := if a1_7 = 118 then (quote_Text.j0 k a0 a1_7 (a1_7 == 118) a1_0 a1_1 a1_2 a1_3 a1_4 a1_5 a1_6 a1_7) else (quote_Text.j0 k a0 a1_7 (a1_7 == 115) a1_0 a1_1 a1_2 a1_3 a1_4 a1_5 a1_6 a1_7)
theorem quote_Text.mono_l : ∀ k, (∀ y0 y1 y2 y3 y4 y5 y6 y7 y8 y9 y10, LeO (quote_Text.j0 k y0 y1 y2 y3 y4 y5 y6 y7 y8 y9 y10) (quote_Text.j0 (k + 1) y0 y1 y2 y3 y4 y5 y6 y7 y8 y9 y10)) ∧ (∀ y0 y1 y2 y3 y4 y5 y6 y7 y8 y9, LeO (quote_Text.j1 k y0 y1 y2 y3 y4 y5 y6 y7 y8 y9) (quote_Text.j1 (k + 1) y0 y1 y2 y3 y4 y5 y6 y7 y8 y9))
 | 0 => ⟨fun _ _ _ _ _ _ _ _ _ _ _ r h => by simp [quote_Text.j0] at h, fun _ _ _ _ _ _ _ _ _ _ r h => by simp [quote_Text.j1] at h⟩
 | k + 1 => by
  obtain ⟨ih0, ih1⟩ := quote_Text.mono_l k
  refine ⟨?_, ?_⟩
  ·
   intro y0 y1 y2 y3 y4 y5 y6 y7 y8 y9 y10
   unfold quote_Text.j0
   repeat' first
   | (with_reducible exact ih0 _ _ _ _ _ _ _ _ _ _ _)
   | (with_reducible exact ih1 _ _ _ _ _ _ _ _ _ _)
   | (with_reducible exact quote_Hex.mono _ _ _ _ _ _ _ _ _ _)
   | (with_reducible exact LeO.refl _)
   | (with_reducible exact LeO.none _)
   | (with_reducible refine LeO.ite ?_ ?_)
   | (with_reducible refine LeO.bind ?_ (fun _ => ?_))
   | exact ih0 _ _ _ _ _ _ _ _ _ _ _
   | exact ih1 _ _ _ _ _ _ _ _ _ _
   | exact quote_Hex.mono _ _ _ _ _ _ _ _ _ _
   | exact LeO.none _
   | refine LeO.ite ?_ ?_
   | refine LeO.bind ?_ (fun _ => ?_)
  ·
   intro y0 y1 y2 y3 y4 y5 y6 y7 y8 y9
   unfold quote_Text.j1
   repeat' first
   | (with_reducible exact ih0 _ _ _ _ _ _ _ _ _ _ _)
   | (with_reducible exact ih1 _ _ _ _ _ _ _ _ _ _)
   | (with_reducible exact quote_Hex.mono _ _ _ _ _ _ _ _ _ _)
   | (with_reducible exact LeO.refl _)
   | (with_reducible exact LeO.none _)
   | (with_reducible refine LeO.ite ?_ ?_)
   | (with_reducible refine LeO.bind ?_ (fun _ => ?_))
   | exact ih0 _ _ _ _ _ _ _ _ _ _ _
   | exact ih1 _ _ _ _ _ _ _ _ _ _
   | exact quote_Hex.mono _ _ _ _ _ _ _ _ _ _
   | exact LeO.none _
   | refine LeO.ite ?_ ?_
   | refine LeO.bind ?_ (fun _ => ?_)
theorem quote_Text.mono : ∀ a0 a1 a2 a3 a4 a5 a6 a7 a8 k, LeO (quote_Text.f k a0 a1 a2 a3 a4 a5 a6 a7 a8) (quote_Text.f (k + 1) a0 a1 a2 a3 a4 a5 a6 a7 a8) := by
 intro a0 a1 a2 a3 a4 a5 a6 a7 a8 k
 obtain ⟨ih0, ih1⟩ := quote_Text.mono_l k
 unfold quote_Text.f
 repeat' first
  | (with_reducible exact ih0 _ _ _ _ _ _ _ _ _ _ _)
  | (with_reducible exact ih1 _ _ _ _ _ _ _ _ _ _)
  | (with_reducible exact quote_Hex.mono _ _ _ _ _ _ _ _ _ _)
  | (with_reducible exact LeO.refl _)
  | (with_reducible exact LeO.none _)
  | (with_reducible refine LeO.ite ?_ ?_)
  | (with_reducible refine LeO.bind ?_ (fun _ => ?_))
  | exact ih0 _ _ _ _ _ _ _ _ _ _ _
  | exact ih1 _ _ _ _ _ _ _ _ _ _
  | exact quote_Hex.mono _ _ _ _ _ _ _ _ _ _
  | exact LeO.none _
  | refine LeO.ite ?_ ?_
  | refine LeO.bind ?_ (fun _ => ?_)
def quote_Text.T6 : Bool × List (List Nat × List Nat) := (true, [([], []), ([], []), ([1], [1]), ([0, 2], [0, 2]), ([], []), ([3, 4, 3], [3, 4]), ([5, 5, 0, 1, 2, 3, 4, 5], [5]), ([6, 0, 1, 2, 3, 4, 5, 6], [])])
def quote_Text.B6 : List Nat := [0, 0, 2, 7, 0, 31, 63, 127]
theorem quote_Text.tab6 : rtab .any (opsOf Tryd.f17 6) = quote_Text.T6 := by kernel_rfl
theorem quote_Text.bits6 : waitsOk quote_Text.T6.2 quote_Text.B6 = true := by kernel_rfl
def quote_Text.T13 : Bool × List (List Nat × List Nat) := (true, [([], []), ([], []), ([1], [1]), ([0, 2], [0, 2]), ([], []), ([3, 4, 3], [3, 4]), ([5, 5, 0, 1, 2, 3, 4, 5], [5]), ([6, 0, 1, 2, 3, 4, 5, 6], [])])
def quote_Text.B13 : List Nat := [0, 0, 2, 7, 0, 31, 63, 127]
theorem quote_Text.tab13 : rtab .any (opsOf Tryd.f17 13) = quote_Text.T13 := by kernel_rfl
theorem quote_Text.bits13 : waitsOk quote_Text.T13.2 quote_Text.B13 = true := by kernel_rfl
set_option maxHeartbeats 8000000 in
set_option maxRecDepth 100000 in
theorem quote_Text.calls (k : Nat) (a0 : ByteArray) (a1_0 : Bool) (a1_1 : Bool) (a1_2 : Bool) (a1_3 : Bool) (a1_4 : Bool) (a1_5 : Int) (a1_6 : Int) (a1_7 : Int) (r1 : ByteArray) (r2 : Bool) (w : World) (hOK : Aside0 (Ok w)) (h : quote_Text.f k a0 a1_0 a1_1 a1_2 a1_3 a1_4 a1_5 a1_6 a1_7 = some (r1, r2)) :
 Calls Tryd.prog 17 #[.string a0, .agg #[.bool a1_0, .bool a1_1, .bool a1_2, .bool a1_3, .bool a1_4, .int .i64 a1_5, .int .i64 a1_6, .int .i32 a1_7]] w fun e w' => e = .returned (.tuple #[.string r1, .bool r2]) ∧ Below w.heap.size w w' := by
 have hu28 := Tryd.underlying28
 have HB := Aside0.mk (Below.refl w.heap.size w)
 have H : (if a1_7 = 118 then (quote_Text.j0 k a0 a1_7 (a1_7 == 118) a1_0 a1_1 a1_2 a1_3 a1_4 a1_5 a1_6 a1_7) else (quote_Text.j0 k a0 a1_7 (a1_7 == 115) a1_0 a1_1 a1_2 a1_3 a1_4 a1_5 a1_6 a1_7)) = some (r1, r2) := h
 clear h
 have HC3 := Aside0.mk H
 clear H
 go_enter Tryd.func17, Tryd.ntmps17
 go_upto_if 10 with (first | ((with_reducible refine gate_dst (N := 3) rfl ?_); refine box_event ?hg (N := 3) ?hd (cs := #[.bool a1_0, .bool a1_1, .bool a1_2, .bool a1_3, .bool a1_4, .int .i64 a1_5, .int .i64 a1_6, .int .i32 a1_7]) (t := 28) ?hr ?_; (case hd => rfl); (case hg => rfl); (case hr => first | (go_simp; done) | (go_simp; rfl)); intro gb163 hg w4 hbox hb; have n0_ := Aside0.mk (below_step (by repeat (first | (with_reducible first | exact HB.out | apply below_alloc | apply pw_below_drewN | apply below_drew1) | exact HB.out)) hb); have n1_ := Aside0.mk (hbox); have n2_ := Aside0.mk ((by rw [hg]; exact (below_size (by repeat (first | (with_reducible first | exact HB.out | apply below_alloc | apply pw_below_drewN | apply below_drew1) | exact HB.out))) : w.heap.size ≤ gb163)); have n3_ := Aside0.mk ((by rw [hg]; exact (below_size (by repeat (first | (with_reducible first | exact HB.out | apply below_alloc | apply pw_below_drewN | apply below_drew1) | exact HB.out))) : w.heap.size ≤ gb163)); clear HB; have HB := n0_; have BK163 := n1_; have GW163 := n2_; have GE163 := n3_; clear n0_ n1_ n2_ n3_; clear hb hbox hg; have hcz5_0 : w4.cell? ⟨gb163, 0, none⟩ = some (.bool a1_0) := (blk_cell BK163.out 0).trans rfl; have hcz5_1 : w4.cell? ⟨gb163, 1, none⟩ = some (.bool a1_1) := (blk_cell BK163.out 1).trans rfl; have hcz5_2 : w4.cell? ⟨gb163, 2, none⟩ = some (.bool a1_2) := (blk_cell BK163.out 2).trans rfl; have hcz5_3 : w4.cell? ⟨gb163, 3, none⟩ = some (.bool a1_3) := (blk_cell BK163.out 3).trans rfl; have hcz5_4 : w4.cell? ⟨gb163, 4, none⟩ = some (.bool a1_4) := (blk_cell BK163.out 4).trans rfl; have hcz5_5 : w4.cell? ⟨gb163, 5, none⟩ = some (.int .i64 a1_5) := (blk_cell BK163.out 5).trans rfl; have hcz5_6 : w4.cell? ⟨gb163, 6, none⟩ = some (.int .i64 a1_6) := (blk_cell BK163.out 6).trans rfl; have hcz5_7 : w4.cell? ⟨gb163, 7, none⟩ = some (.int .i32 a1_7) := (blk_cell BK163.out 7).trans rfl; have hfz5_0 := blk_frozen BK163.out 0; have hfz5_1 := blk_frozen BK163.out 1; have hfz5_2 := blk_frozen BK163.out 2; have hfz5_3 := blk_frozen BK163.out 3; have hfz5_4 := blk_frozen BK163.out 4; have hfz5_5 := blk_frozen BK163.out 5; have hfz5_6 := blk_frozen BK163.out 6; have hfz5_7 := blk_frozen BK163.out 7))
 (try simp only [Act.put, List.setIfInBounds_toArray, List.set_cons_zero, List.set_cons_succ])
 go_cut [10] (fun v10 wc => ∃ (kq : Nat) (x10_2 : Bool), v10 = .bool x10_2 ∧ Aside0 (quote_Text.j0 kq a0 a1_7 x10_2 a1_0 a1_1 a1_2 a1_3 a1_4 a1_5 a1_6 a1_7 = some (r1, r2)) ∧ Aside0 (kq ≤ k) ∧ Aside0 (wc.heap[gb163]? = some (.cells #[.bool a1_0, .bool a1_1, .bool a1_2, .bool a1_3, .bool a1_4, .int .i64 a1_5, .int .i64 a1_6, .int .i32 a1_7] 28 (0, 0))) ∧ Aside0 (Below w.heap.size w wc))
 case first =>
  have H := HC3.out
  clear HC3
  by_cases c6 : a1_7 = 118
  ·
   rw [if_pos c6] at H
   have c6b0 : (a1_7 == 118) = true := beq_iff_eq.mpr c6
   have c6b1 : (a1_7 != 118) = false := bne_eq_false_iff_eq.mpr c6
   clear c6
   (first | rw [c6b0] | (simp only [i64_w, i32_w]; rw [c6b0]) | skip)
   have H' := Aside0.mk H
   clear H
   go_wp2
   (first | go_meet | (refine Met.intro ?_; go_step; (repeat apply Exists.intro); refine ⟨?rel, (by first | rfl | (simp only [c6b0]; rfl))⟩))
   case rel => exact ⟨_, ((a1_7 == 118)), (by first | rfl | (simp; done) | (simp [*]; done)), H', ⟨by first | omega | exact Nat.le_refl _⟩, ⟨by (with_reducible repeat (first | refine blk_drewN ?_ _ | refine blk_drew ?_ | refine blk_alloc ?_ _)); exact BK163.out⟩, ⟨by repeat (first | (with_reducible first | exact HB.out | apply below_alloc | apply pw_below_drewN | apply below_drew1 | refine below_set ?_ GE163.out) | exact HB.out)⟩⟩
  ·
   rw [if_neg c6] at H
   have c6b0 : (a1_7 == 118) = false := beq_eq_false_iff_ne.mpr c6
   have c6b1 : (a1_7 != 118) = true := bne_iff_ne.mpr c6
   (first | rw [c6b0] | (simp only [i64_w, i32_w]; rw [c6b0]) | skip)
   have H' := Aside0.mk H
   clear H
   go_wp2
   (first | go_meet | (refine Met.intro ?_; go_step; (repeat apply Exists.intro); refine ⟨?rel, (by first | rfl | (simp only [c6b0]; rfl))⟩))
   case rel => exact ⟨_, ((a1_7 == 115)), (by first | rfl | (simp; done) | (simp [*]; done)), H', ⟨by first | omega | exact Nat.le_refl _⟩, ⟨by (with_reducible repeat (first | refine blk_drewN ?_ _ | refine blk_drew ?_ | refine blk_alloc ?_ _)); exact BK163.out⟩, ⟨by repeat (first | (with_reducible first | exact HB.out | apply below_alloc | apply pw_below_drewN | apply below_drew1 | refine below_set ?_ GE163.out) | exact HB.out)⟩⟩
 case rest =>
  clear HC3
  try clear c1
  try clear p2
  try clear c6
  try clear c6b0
  try clear c6b1
  try clear hcz5_0
  try clear hcz5_1
  try clear hcz5_2
  try clear hcz5_3
  try clear hcz5_4
  try clear hcz5_5
  try clear hcz5_6
  try clear hcz5_7
  try clear hfz5_0
  try clear hfz5_1
  try clear hfz5_2
  try clear hfz5_3
  try clear hfz5_4
  try clear hfz5_5
  try clear hfz5_6
  try clear hfz5_7
  obtain ⟨kq, x10_2, rfl, HA, HJ2, BK163, HB⟩ := hcut
  cases kq with
  | zero => exact absurd HA.out (by simp [quote_Text.j0])
  | succ kj2 =>
   have H := HA.out
   clear HA
   simp only [quote_Text.j0] at H
   by_cases c7 : x10_2 = true
   ·
    subst c7
    have H1 : (if a1_7 = 118 then (quote_Text.j1 kj2 a0 a1_2 a1_0 a1_1 a1_2 a1_3 a1_4 a1_5 a1_6 a1_7) else (quote_Text.j1 kj2 a0 false a1_0 a1_1 a1_2 a1_3 a1_4 a1_5 a1_6 a1_7)) = some (r1, r2) := by rw [if_pos rfl] at H; exact H
    clear H
    have H := H1
    clear H1
    have HC8 := Aside0.mk H
    clear H
    go_upto_region 4 with (fail)
    go_cut [19] (fun v19 wc => ∃ (kq : Nat) (x19_7 : Bool), v19 = .bool x19_7 ∧ Aside0 (quote_Text.j1 kq a0 x19_7 a1_0 a1_1 a1_2 a1_3 a1_4 a1_5 a1_6 a1_7 = some (r1, r2)) ∧ Aside0 (kq ≤ kj2) ∧ Aside0 (wc.heap[gb163]? = some (.cells #[.bool a1_0, .bool a1_1, .bool a1_2, .bool a1_3, .bool a1_4, .int .i64 a1_5, .int .i64 a1_6, .int .i32 a1_7] 28 (0, 0))) ∧ Aside0 (Below w.heap.size w wc))
    case first =>
     have H := HC8.out
     clear HC8
     by_cases c9 : a1_7 = 118
     ·
      rw [if_pos c9] at H
      have c9b0 : (a1_7 == 118) = true := beq_iff_eq.mpr c9
      have c9b1 : (a1_7 != 118) = false := bne_eq_false_iff_eq.mpr c9
      clear c9
      (first | rw [c9b0] | (simp only [i64_w, i32_w]; rw [c9b0]) | skip)
      have H' := Aside0.mk H
      clear H
      have hcz10_0 : wc.cell? ⟨gb163, 0, none⟩ = some (.bool a1_0) := (blk_cell BK163.out 0).trans rfl
      have hcz10_1 : wc.cell? ⟨gb163, 1, none⟩ = some (.bool a1_1) := (blk_cell BK163.out 1).trans rfl
      have hcz10_2 : wc.cell? ⟨gb163, 2, none⟩ = some (.bool a1_2) := (blk_cell BK163.out 2).trans rfl
      have hcz10_3 : wc.cell? ⟨gb163, 3, none⟩ = some (.bool a1_3) := (blk_cell BK163.out 3).trans rfl
      have hcz10_4 : wc.cell? ⟨gb163, 4, none⟩ = some (.bool a1_4) := (blk_cell BK163.out 4).trans rfl
      have hcz10_5 : wc.cell? ⟨gb163, 5, none⟩ = some (.int .i64 a1_5) := (blk_cell BK163.out 5).trans rfl
      have hcz10_6 : wc.cell? ⟨gb163, 6, none⟩ = some (.int .i64 a1_6) := (blk_cell BK163.out 6).trans rfl
      have hcz10_7 : wc.cell? ⟨gb163, 7, none⟩ = some (.int .i32 a1_7) := (blk_cell BK163.out 7).trans rfl
      have hfz10_0 := blk_frozen BK163.out 0
      have hfz10_1 := blk_frozen BK163.out 1
      have hfz10_2 := blk_frozen BK163.out 2
      have hfz10_3 := blk_frozen BK163.out 3
      have hfz10_4 := blk_frozen BK163.out 4
      have hfz10_5 := blk_frozen BK163.out 5
      have hfz10_6 := blk_frozen BK163.out 6
      have hfz10_7 := blk_frozen BK163.out 7
      go_wp2
      (first | go_meet | (refine Met.intro ?_; go_step; (repeat apply Exists.intro); refine ⟨?rel, (by first | rfl | (simp only [c9b0]; rfl))⟩))
      case rel => exact ⟨_, (a1_2), (by first | rfl | (simp; done) | (simp [*]; done)), H', ⟨by have := HJ2.out; first | omega | exact Nat.le_refl _⟩, ⟨by (with_reducible repeat (first | refine blk_drewN ?_ _ | refine blk_drew ?_ | refine blk_alloc ?_ _)); exact BK163.out⟩, ⟨by repeat (first | (with_reducible first | exact HB.out | apply below_alloc | apply pw_below_drewN | apply below_drew1 | refine below_set ?_ GE163.out) | exact HB.out)⟩⟩
     ·
      rw [if_neg c9] at H
      have c9b0 : (a1_7 == 118) = false := beq_eq_false_iff_ne.mpr c9
      have c9b1 : (a1_7 != 118) = true := bne_iff_ne.mpr c9
      (first | rw [c9b0] | (simp only [i64_w, i32_w]; rw [c9b0]) | skip)
      have H' := Aside0.mk H
      clear H
      have hcz11_0 : wc.cell? ⟨gb163, 0, none⟩ = some (.bool a1_0) := (blk_cell BK163.out 0).trans rfl
      have hcz11_1 : wc.cell? ⟨gb163, 1, none⟩ = some (.bool a1_1) := (blk_cell BK163.out 1).trans rfl
      have hcz11_2 : wc.cell? ⟨gb163, 2, none⟩ = some (.bool a1_2) := (blk_cell BK163.out 2).trans rfl
      have hcz11_3 : wc.cell? ⟨gb163, 3, none⟩ = some (.bool a1_3) := (blk_cell BK163.out 3).trans rfl
      have hcz11_4 : wc.cell? ⟨gb163, 4, none⟩ = some (.bool a1_4) := (blk_cell BK163.out 4).trans rfl
      have hcz11_5 : wc.cell? ⟨gb163, 5, none⟩ = some (.int .i64 a1_5) := (blk_cell BK163.out 5).trans rfl
      have hcz11_6 : wc.cell? ⟨gb163, 6, none⟩ = some (.int .i64 a1_6) := (blk_cell BK163.out 6).trans rfl
      have hcz11_7 : wc.cell? ⟨gb163, 7, none⟩ = some (.int .i32 a1_7) := (blk_cell BK163.out 7).trans rfl
      have hfz11_0 := blk_frozen BK163.out 0
      have hfz11_1 := blk_frozen BK163.out 1
      have hfz11_2 := blk_frozen BK163.out 2
      have hfz11_3 := blk_frozen BK163.out 3
      have hfz11_4 := blk_frozen BK163.out 4
      have hfz11_5 := blk_frozen BK163.out 5
      have hfz11_6 := blk_frozen BK163.out 6
      have hfz11_7 := blk_frozen BK163.out 7
      go_wp2
      (first | go_meet | (refine Met.intro ?_; go_step; (repeat apply Exists.intro); refine ⟨?rel, (by first | rfl | (simp only [c9b0]; rfl))⟩))
      case rel => exact ⟨_, (false), (by first | rfl | (simp; done) | (simp [*]; done)), H', ⟨by have := HJ2.out; first | omega | exact Nat.le_refl _⟩, ⟨by (with_reducible repeat (first | refine blk_drewN ?_ _ | refine blk_drew ?_ | refine blk_alloc ?_ _)); exact BK163.out⟩, ⟨by repeat (first | (with_reducible first | exact HB.out | apply below_alloc | apply pw_below_drewN | apply below_drew1 | refine below_set ?_ GE163.out) | exact HB.out)⟩⟩
    case rest =>
     clear HC8
     try clear c1
     try clear p2
     try clear c6
     try clear c6b0
     try clear c6b1
     try clear c7
     try clear c9
     try clear c9b0
     try clear c9b1
     try clear hcz10_0
     try clear hcz10_1
     try clear hcz10_2
     try clear hcz10_3
     try clear hcz10_4
     try clear hcz10_5
     try clear hcz10_6
     try clear hcz10_7
     try clear hcz11_0
     try clear hcz11_1
     try clear hcz11_2
     try clear hcz11_3
     try clear hcz11_4
     try clear hcz11_5
     try clear hcz11_6
     try clear hcz11_7
     try clear hcz5_0
     try clear hcz5_1
     try clear hcz5_2
     try clear hcz5_3
     try clear hcz5_4
     try clear hcz5_5
     try clear hcz5_6
     try clear hcz5_7
     try clear hfz10_0
     try clear hfz10_1
     try clear hfz10_2
     try clear hfz10_3
     try clear hfz10_4
     try clear hfz10_5
     try clear hfz10_6
     try clear hfz10_7
     try clear hfz11_0
     try clear hfz11_1
     try clear hfz11_2
     try clear hfz11_3
     try clear hfz11_4
     try clear hfz11_5
     try clear hfz11_6
     try clear hfz11_7
     try clear hfz5_0
     try clear hfz5_1
     try clear hfz5_2
     try clear hfz5_3
     try clear hfz5_4
     try clear hfz5_5
     try clear hfz5_6
     try clear hfz5_7
     try clear p2
     obtain ⟨kq, x19_7, rfl, HA, HJ7, BK163, HB⟩ := hcut
     cases kq with
     | zero => exact absurd HA.out (by simp [quote_Text.j1])
     | succ kj7 =>
      have H := HA.out
      clear HA
      simp only [quote_Text.j1] at H
      by_cases c12 : x19_7 = true
      ·
       subst c12
       have H1 : ((quote_Quote.f a0 false).bind fun t164 => ((buf_Pad.f t164 a1_0 a1_1 a1_2 a1_3 a1_4 a1_5 a1_6 a1_7).bind fun t165 => (some (t165, true)))) = some (r1, r2) := by rw [if_pos rfl] at H; exact H
       clear H
       have H := H1
       clear H1
       replace H := Option.bind_eq_some_iff.mp H
       obtain ⟨t164, A130, H⟩ := H
       replace H : ((buf_Pad.f t164 a1_0 a1_1 a1_2 a1_3 a1_4 a1_5 a1_6 a1_7).bind fun t165 => (some (t165, true))) = some (r1, r2) := H
       have A13 := Aside0.mk A130
       clear A130
       replace H := Option.bind_eq_some_iff.mp H
       obtain ⟨t165, A140, H⟩ := H
       replace H : (some (t165, true)) = some (r1, r2) := H
       have A14 := Aside0.mk A140
       clear A140
       simp only [Option.some.injEq, Prod.mk.injEq] at H
       obtain ⟨rfl, rfl⟩ := H
       try go_wp2
       have n0_ := Aside0.mk (blk_drew BK163.out)
       have n1_ := Aside0.mk (below_drew1 HB.out)
       clear BK163
       clear HB
       have BK163 := n0_
       have HB := n1_
       clear n0_ n1_
       refine start_ (n := 6) (S := fun w' => w'.cell? ⟨gb163, 0, none⟩ = some (.bool a1_0) ∧ w'.cell? ⟨gb163, 1, none⟩ = some (.bool a1_1) ∧ w'.cell? ⟨gb163, 2, none⟩ = some (.bool a1_2) ∧ w'.cell? ⟨gb163, 3, none⟩ = some (.bool a1_3) ∧ w'.cell? ⟨gb163, 4, none⟩ = some (.bool a1_4) ∧ w'.cell? ⟨gb163, 5, none⟩ = some (.int .i64 a1_5) ∧ w'.cell? ⟨gb163, 6, none⟩ = some (.int .i64 a1_6) ∧ w'.cell? ⟨gb163, 7, none⟩ = some (.int .i32 a1_7)) (ds := []) #[false, false, false, false, false, false] (by kernel_rfl) rfl rfl ⟨(blk_cell BK163.out 0).trans rfl, (blk_cell BK163.out 1).trans rfl, (blk_cell BK163.out 2).trans rfl, (blk_cell BK163.out 3).trans rfl, (blk_cell BK163.out 4).trans rfl, (blk_cell BK163.out 5).trans rfl, (blk_cell BK163.out 6).trans rfl, (blk_cell BK163.out 7).trans rfl⟩ (fun hHeld => ?_)
       generalize wc.drew = w15 at BK163 HB hHeld ⊢
       refine pure_ (i := 0) (N := some 20) (v := ?_) (a' := ?_) #[true, false, false, false, false, false] rfl rfl (by kernel_rfl) (fun _ _ _ h => h) (Or.inl ⟨by rfl, ?_⟩) ?_ ?_
       rotate_left
       ·
        intro w'
        go_simp
        with_reducible rfl
       rotate_left
       ·
        simp only [Act.put, List.setIfInBounds_toArray, List.set_cons_zero, List.set_cons_succ, i64_w, i32_w]
        rfl
       refine take_ (i := 2) (N := some 22) (v := ?_) (a' := ?_) #[true, false, true, false, false, false] rfl rfl (by kernel_rfl) (fun _ _ _ h => h) (Or.inl ⟨by rfl, ?_⟩) hHeld ?_ ?_
       rotate_left
       ·
        rintro w' ⟨s0, s1, s2, s3, s4, s5, s6, s7⟩
        go_simp
        with_reducible rfl
       rotate_left
       ·
        simp only [Act.put, List.setIfInBounds_toArray, List.set_cons_zero, List.set_cons_succ, i64_w, i32_w]
        rfl
       refine one_ (i := 1) (N := some 21) #[true, true, true, false, false, false] rfl rfl (by kernel_rfl) (by decide) (fun K hK => ?_)
       refine goes_ Tryd.func19 (by kernel_rfl) rfl #[.string a0, .bool false] (by rfl) rfl rfl (by (try simp only [List.map_toArray, List.map_cons, List.map_nil]); first | done | rfl | (simp only [List.length_drop, List.length_take]; rfl)) ?_
       with_reducible refine (quote_Quote.calls a0 false t164 _ (by (try refine Aside0.mk ?_); first | exact hOK.out | exact (hOK.out).drewN _ | (refine (hOK.out).later ?_; (repeat (first | (with_reducible first | exact HB.out | apply below_alloc | apply pw_below_drewN | apply below_drew1) | exact HB.out))) | (refine Ok.drewN ?_ _; exact hOK.out)) A13.out).mono ?_
       rintro e w16 ⟨rfl, hb⟩
       refine ⟨_, rfl, ?_⟩
       have n0_ := Aside0.mk (blk_below (g := gb163) (o := .cells #[.bool a1_0, .bool a1_1, .bool a1_2, .bool a1_3, .bool a1_4, .int .i64 a1_5, .int .i64 a1_6, .int .i32 a1_7] 28 (0, 0)) (by (with_reducible repeat (first | refine blk_drewN ?_ _ | refine blk_drew ?_ | refine blk_alloc ?_ _)); exact BK163.out) hb)
       have n1_ := Aside0.mk (below_step (by repeat (first | (with_reducible first | exact HB.out | apply below_alloc | apply pw_below_drewN | apply below_drew1 | refine below_set ?_ GE163.out) | exact HB.out)) hb)
       clear BK163
       clear HB
       have BK163 := n0_
       have HB := n1_
       clear n0_ n1_
       (try clear hb)
       (try clear hb2)
       (try clear hk)
       (try clear hi)
       refine hK.out _ _ ⟨(blk_cell BK163.out 0).trans rfl, (blk_cell BK163.out 1).trans rfl, (blk_cell BK163.out 2).trans rfl, (blk_cell BK163.out 3).trans rfl, (blk_cell BK163.out 4).trans rfl, (blk_cell BK163.out 5).trans rfl, (blk_cell BK163.out 6).trans rfl, (blk_cell BK163.out 7).trans rfl⟩ (fun hHeld => ?_)
       clear hK K
       refine norm_ (a' := ?_) ?_ ?_
       rotate_left
       ·
        show Act.put _ (some 21) _ = _
        simp only [Act.put, List.setIfInBounds_toArray, List.set_cons_zero, List.set_cons_succ, i64_w, i32_w]
        rfl
       refine one_ (i := 3) (N := some 23) #[true, true, true, true, false, false] rfl rfl (by kernel_rfl) (by decide) (fun K hK => ?_)
       refine goes_ Tryd.func32 (by kernel_rfl) rfl #[.string t164, .agg #[.bool a1_0, .bool a1_1, .bool a1_2, .bool a1_3, .bool a1_4, .int .i64 a1_5, .int .i64 a1_6, .int .i32 a1_7]] (by rfl) rfl rfl (by (try simp only [List.map_toArray, List.map_cons, List.map_nil]); first | done | rfl | (simp only [List.length_drop, List.length_take]; rfl)) ?_
       with_reducible refine (buf_Pad.calls t164 a1_0 a1_1 a1_2 a1_3 a1_4 a1_5 a1_6 a1_7 t165 _ A14.out).mono ?_
       rintro e w17 ⟨rfl, hb⟩
       refine ⟨_, rfl, ?_⟩
       have n0_ := Aside0.mk (blk_below (g := gb163) (o := .cells #[.bool a1_0, .bool a1_1, .bool a1_2, .bool a1_3, .bool a1_4, .int .i64 a1_5, .int .i64 a1_6, .int .i32 a1_7] 28 (0, 0)) (by (with_reducible repeat (first | refine blk_drewN ?_ _ | refine blk_drew ?_ | refine blk_alloc ?_ _)); exact BK163.out) hb)
       have n1_ := Aside0.mk (below_step (by repeat (first | (with_reducible first | exact HB.out | apply below_alloc | apply pw_below_drewN | apply below_drew1 | refine below_set ?_ GE163.out) | exact HB.out)) hb)
       clear BK163
       clear HB
       have BK163 := n0_
       have HB := n1_
       clear n0_ n1_
       (try clear hb)
       (try clear hb2)
       (try clear hk)
       (try clear hi)
       refine hK.out _ _ ⟨(blk_cell BK163.out 0).trans rfl, (blk_cell BK163.out 1).trans rfl, (blk_cell BK163.out 2).trans rfl, (blk_cell BK163.out 3).trans rfl, (blk_cell BK163.out 4).trans rfl, (blk_cell BK163.out 5).trans rfl, (blk_cell BK163.out 6).trans rfl, (blk_cell BK163.out 7).trans rfl⟩ (fun hHeld => ?_)
       clear hK K
       refine norm_ (a' := ?_) ?_ ?_
       rotate_left
       ·
        show Act.put _ (some 23) _ = _
        simp only [Act.put, List.setIfInBounds_toArray, List.set_cons_zero, List.set_cons_succ, i64_w, i32_w]
        rfl
       refine pure_ (i := 4) (N := some 4) (v := ?_) (a' := ?_) #[true, true, true, true, true, false] rfl rfl (by kernel_rfl) (fun _ _ _ h => h) (Or.inl ⟨by rfl, ?_⟩) ?_ ?_
       rotate_left
       ·
        intro w'
        go_simp
        with_reducible rfl
       rotate_left
       ·
        simp only [Act.put, List.setIfInBounds_toArray, List.set_cons_zero, List.set_cons_succ, i64_w, i32_w]
        rfl
       refine pure_ (i := 5) (N := some 5) (v := ?_) (a' := ?_) #[true, true, true, true, true, true] rfl rfl (by kernel_rfl) (fun _ _ _ h => h) (Or.inl ⟨by rfl, ?_⟩) ?_ ?_
       rotate_left
       ·
        intro w'
        go_simp
        with_reducible rfl
       rotate_left
       ·
        simp only [Act.put, List.setIfInBounds_toArray, List.set_cons_zero, List.set_cons_succ, i64_w, i32_w]
        rfl
       refine done_ (by kernel_rfl) ?_
       try go_wp2
       go_ret2
       exact ⟨by first | rfl | (simp [errW_none, errW_some] <;> rfl) | (simp [*, errW_none, errW_some] <;> rfl), by repeat (first | (with_reducible first | exact HB.out | apply below_alloc | apply pw_below_drewN | apply below_drew1 | refine below_set ?_ GE163.out) | exact HB.out)⟩
      ·
       replace c12 := Bool.eq_false_iff.mpr c12
       subst c12
       have H1 : ((buf_Cut.f a0 a1_6).bind fun t166 => ((buf_Pad.f t166 a1_0 a1_1 a1_2 a1_3 a1_4 a1_5 a1_6 a1_7).bind fun t167 => (some (t167, true)))) = some (r1, r2) := by rw [if_neg (show ¬ (false = true) by decide)] at H; exact H
       clear H
       have H := H1
       clear H1
       replace H := Option.bind_eq_some_iff.mp H
       obtain ⟨t166, A180, H⟩ := H
       replace H : ((buf_Pad.f t166 a1_0 a1_1 a1_2 a1_3 a1_4 a1_5 a1_6 a1_7).bind fun t167 => (some (t167, true))) = some (r1, r2) := H
       have A18 := Aside0.mk A180
       clear A180
       replace H := Option.bind_eq_some_iff.mp H
       obtain ⟨t167, A190, H⟩ := H
       replace H : (some (t167, true)) = some (r1, r2) := H
       have A19 := Aside0.mk A190
       clear A190
       simp only [Option.some.injEq, Prod.mk.injEq] at H
       obtain ⟨rfl, rfl⟩ := H
       try go_wp2
       have n0_ := Aside0.mk (blk_drew BK163.out)
       have n1_ := Aside0.mk (below_drew1 HB.out)
       clear BK163
       clear HB
       have BK163 := n0_
       have HB := n1_
       clear n0_ n1_
       refine start_ (n := 8) (S := fun w' => w'.cell? ⟨gb163, 0, none⟩ = some (.bool a1_0) ∧ w'.cell? ⟨gb163, 1, none⟩ = some (.bool a1_1) ∧ w'.cell? ⟨gb163, 2, none⟩ = some (.bool a1_2) ∧ w'.cell? ⟨gb163, 3, none⟩ = some (.bool a1_3) ∧ w'.cell? ⟨gb163, 4, none⟩ = some (.bool a1_4) ∧ w'.cell? ⟨gb163, 5, none⟩ = some (.int .i64 a1_5) ∧ w'.cell? ⟨gb163, 6, none⟩ = some (.int .i64 a1_6) ∧ w'.cell? ⟨gb163, 7, none⟩ = some (.int .i32 a1_7)) (ds := []) #[false, false, false, false, false, false, false, false] (by kernel_rfl) rfl rfl ⟨(blk_cell BK163.out 0).trans rfl, (blk_cell BK163.out 1).trans rfl, (blk_cell BK163.out 2).trans rfl, (blk_cell BK163.out 3).trans rfl, (blk_cell BK163.out 4).trans rfl, (blk_cell BK163.out 5).trans rfl, (blk_cell BK163.out 6).trans rfl, (blk_cell BK163.out 7).trans rfl⟩ (fun hHeld => ?_); refine with_tabW quote_Text.tab6 quote_Text.bits6 (fun HT_ HW_ => ?_)
       generalize wc.drew = w20 at BK163 HB hHeld ⊢
       refine pure_ (i := 0) (N := some 24) (v := ?_) (a' := ?_) #[true, false, false, false, false, false, false, false] rfl rfl (any_of HT_.out (by kernel_rfl)) (fun _ _ _ h => h) (Or.inl ⟨by rfl, ?_⟩) ?_ ?_
       rotate_left
       ·
        intro w'
        go_simp
        with_reducible rfl
       rotate_left
       ·
        simp only [Act.put, List.setIfInBounds_toArray, List.set_cons_zero, List.set_cons_succ, i64_w, i32_w]
        rfl
       refine pure_ (i := 1) (N := some 25) (v := ?_) (a' := ?_) #[true, true, false, false, false, false, false, false] rfl rfl (any_of HT_.out (by kernel_rfl)) (fun _ _ _ h => h) (Or.inl ⟨by rfl, ?_⟩) ?_ ?_
       rotate_left
       ·
        intro w'
        go_simp
        with_reducible rfl
       rotate_left
       ·
        simp only [Act.put, List.setIfInBounds_toArray, List.set_cons_zero, List.set_cons_succ, i64_w, i32_w]
        rfl
       refine take_ (i := 2) (N := some 26) (v := ?_) (a' := ?_) #[true, true, true, false, false, false, false, false] rfl rfl (take_ofW HT_.out HW_.out (by kernel_rfl)) (fun _ _ _ h => h) (Or.inl ⟨by rfl, ?_⟩) hHeld ?_ ?_
       rotate_left
       ·
        rintro w' ⟨s0, s1, s2, s3, s4, s5, s6, s7⟩
        go_simp
        with_reducible rfl
       rotate_left
       ·
        simp only [Act.put, List.setIfInBounds_toArray, List.set_cons_zero, List.set_cons_succ, i64_w, i32_w]
        rfl
       refine take_ (i := 4) (N := some 28) (v := ?_) (a' := ?_) #[true, true, true, false, true, false, false, false] rfl rfl (take_ofW HT_.out HW_.out (by kernel_rfl)) (fun _ _ _ h => h) (Or.inl ⟨by rfl, ?_⟩) hHeld ?_ ?_
       rotate_left
       ·
        rintro w' ⟨s0, s1, s2, s3, s4, s5, s6, s7⟩
        go_simp
        with_reducible rfl
       rotate_left
       ·
        simp only [Act.put, List.setIfInBounds_toArray, List.set_cons_zero, List.set_cons_succ, i64_w, i32_w]
        rfl
       refine one_ (i := 3) (N := some 27) #[true, true, true, true, true, false, false, false] rfl rfl (one_of HT_.out (by kernel_rfl)) (by decide) (fun K hK => ?_)
       refine goes_ Tryd.func35 (by kernel_rfl) rfl #[.string a0, .int .i64 a1_6] (by rfl) rfl rfl (by (try simp only [List.map_toArray, List.map_cons, List.map_nil]); first | done | rfl | (simp only [List.length_drop, List.length_take]; rfl)) ?_
       with_reducible refine (buf_Cut.calls a0 a1_6 t166 _ A18.out).mono ?_
       rintro e w21 ⟨rfl, hb⟩
       refine ⟨_, rfl, ?_⟩
       have n0_ := Aside0.mk (blk_below (g := gb163) (o := .cells #[.bool a1_0, .bool a1_1, .bool a1_2, .bool a1_3, .bool a1_4, .int .i64 a1_5, .int .i64 a1_6, .int .i32 a1_7] 28 (0, 0)) (by (with_reducible repeat (first | refine blk_drewN ?_ _ | refine blk_drew ?_ | refine blk_alloc ?_ _)); exact BK163.out) hb)
       have n1_ := Aside0.mk (below_step (by repeat (first | (with_reducible first | exact HB.out | apply below_alloc | apply pw_below_drewN | apply below_drew1 | refine below_set ?_ GE163.out) | exact HB.out)) hb)
       clear BK163
       clear HB
       have BK163 := n0_
       have HB := n1_
       clear n0_ n1_
       (try clear hb)
       (try clear hb2)
       (try clear hk)
       (try clear hi)
       refine hK.out _ _ ⟨(blk_cell BK163.out 0).trans rfl, (blk_cell BK163.out 1).trans rfl, (blk_cell BK163.out 2).trans rfl, (blk_cell BK163.out 3).trans rfl, (blk_cell BK163.out 4).trans rfl, (blk_cell BK163.out 5).trans rfl, (blk_cell BK163.out 6).trans rfl, (blk_cell BK163.out 7).trans rfl⟩ (fun hHeld => ?_)
       clear hK K
       refine norm_ (a' := ?_) ?_ ?_
       rotate_left
       ·
        show Act.put _ (some 27) _ = _
        simp only [Act.put, List.setIfInBounds_toArray, List.set_cons_zero, List.set_cons_succ, i64_w, i32_w]
        rfl
       refine one_ (i := 5) (N := some 29) #[true, true, true, true, true, true, false, false] rfl rfl (one_of HT_.out (by kernel_rfl)) (by decide) (fun K hK => ?_)
       refine goes_ Tryd.func32 (by kernel_rfl) rfl #[.string t166, .agg #[.bool a1_0, .bool a1_1, .bool a1_2, .bool a1_3, .bool a1_4, .int .i64 a1_5, .int .i64 a1_6, .int .i32 a1_7]] (by rfl) rfl rfl (by (try simp only [List.map_toArray, List.map_cons, List.map_nil]); first | done | rfl | (simp only [List.length_drop, List.length_take]; rfl)) ?_
       with_reducible refine (buf_Pad.calls t166 a1_0 a1_1 a1_2 a1_3 a1_4 a1_5 a1_6 a1_7 t167 _ A19.out).mono ?_
       rintro e w22 ⟨rfl, hb⟩
       refine ⟨_, rfl, ?_⟩
       have n0_ := Aside0.mk (blk_below (g := gb163) (o := .cells #[.bool a1_0, .bool a1_1, .bool a1_2, .bool a1_3, .bool a1_4, .int .i64 a1_5, .int .i64 a1_6, .int .i32 a1_7] 28 (0, 0)) (by (with_reducible repeat (first | refine blk_drewN ?_ _ | refine blk_drew ?_ | refine blk_alloc ?_ _)); exact BK163.out) hb)
       have n1_ := Aside0.mk (below_step (by repeat (first | (with_reducible first | exact HB.out | apply below_alloc | apply pw_below_drewN | apply below_drew1 | refine below_set ?_ GE163.out) | exact HB.out)) hb)
       clear BK163
       clear HB
       have BK163 := n0_
       have HB := n1_
       clear n0_ n1_
       (try clear hb)
       (try clear hb2)
       (try clear hk)
       (try clear hi)
       refine hK.out _ _ ⟨(blk_cell BK163.out 0).trans rfl, (blk_cell BK163.out 1).trans rfl, (blk_cell BK163.out 2).trans rfl, (blk_cell BK163.out 3).trans rfl, (blk_cell BK163.out 4).trans rfl, (blk_cell BK163.out 5).trans rfl, (blk_cell BK163.out 6).trans rfl, (blk_cell BK163.out 7).trans rfl⟩ (fun hHeld => ?_)
       clear hK K
       refine norm_ (a' := ?_) ?_ ?_
       rotate_left
       ·
        show Act.put _ (some 29) _ = _
        simp only [Act.put, List.setIfInBounds_toArray, List.set_cons_zero, List.set_cons_succ, i64_w, i32_w]
        rfl
       refine pure_ (i := 6) (N := some 4) (v := ?_) (a' := ?_) #[true, true, true, true, true, true, true, false] rfl rfl (any_of HT_.out (by kernel_rfl)) (fun _ _ _ h => h) (Or.inl ⟨by rfl, ?_⟩) ?_ ?_
       rotate_left
       ·
        intro w'
        go_simp
        with_reducible rfl
       rotate_left
       ·
        simp only [Act.put, List.setIfInBounds_toArray, List.set_cons_zero, List.set_cons_succ, i64_w, i32_w]
        rfl
       refine pure_ (i := 7) (N := some 5) (v := ?_) (a' := ?_) #[true, true, true, true, true, true, true, true] rfl rfl (any_of HT_.out (by kernel_rfl)) (fun _ _ _ h => h) (Or.inl ⟨by rfl, ?_⟩) ?_ ?_
       rotate_left
       ·
        intro w'
        go_simp
        with_reducible rfl
       rotate_left
       ·
        simp only [Act.put, List.setIfInBounds_toArray, List.set_cons_zero, List.set_cons_succ, i64_w, i32_w]
        rfl
       refine done_ (done_of HT_.out (by kernel_rfl)) ?_
       try go_wp2
       go_ret2
       exact ⟨by first | rfl | (simp [errW_none, errW_some] <;> rfl) | (simp [*, errW_none, errW_some] <;> rfl), by repeat (first | (with_reducible first | exact HB.out | apply below_alloc | apply pw_below_drewN | apply below_drew1 | refine below_set ?_ GE163.out) | exact HB.out)⟩
   ·
    replace c7 := Bool.eq_false_iff.mpr c7
    subst c7
    have H1 : (if a1_7 = 113 then ((buf_Cut.f a0 a1_6).bind fun t168 => (if a1_2 = true then ((quote_Raw.f t168).bind fun bt169 => (if bt169.2 = true then ((buf_Pad.f bt169.1 a1_0 a1_1 a1_2 a1_3 a1_4 a1_5 a1_6 a1_7).bind fun t171 => (some (t171, true))) else ((quote_Quote.f t168 a1_0).bind fun t172 => ((buf_Pad.f t172 a1_0 a1_1 a1_2 a1_3 a1_4 a1_5 a1_6 a1_7).bind fun t173 => (some (t173, true)))))) else ((quote_Quote.f t168 a1_0).bind fun t174 => ((buf_Pad.f t174 a1_0 a1_1 a1_2 a1_3 a1_4 a1_5 a1_6 a1_7).bind fun t175 => (some (t175, true)))))) else (if a1_7 = 120 then ((quote_Hex.f kj2 a0 a1_0 a1_1 a1_2 a1_3 a1_4 a1_5 a1_6 a1_7).bind fun t176 => (some (t176, true))) else (if a1_7 = 88 then ((quote_Hex.f kj2 a0 a1_0 a1_1 a1_2 a1_3 a1_4 a1_5 a1_6 a1_7).bind fun t177 => (some (t177, true))) else (some ((⟨#[]⟩ : ByteArray), false))))) = some (r1, r2) := by rw [if_neg (show ¬ (false = true) by decide)] at H; exact H
    clear H
    have H := H1
    clear H1
    by_cases c23 : a1_7 = 113
    ·
     rw [if_pos c23] at H
     have c23b0 : (a1_7 == 113) = true := beq_iff_eq.mpr c23
     have c23b1 : (a1_7 != 113) = false := bne_eq_false_iff_eq.mpr c23
     clear c23
     replace H := Option.bind_eq_some_iff.mp H
     obtain ⟨t168, A240, H⟩ := H
     replace H : (if a1_2 = true then ((quote_Raw.f t168).bind fun bt169 => (if bt169.2 = true then ((buf_Pad.f bt169.1 a1_0 a1_1 a1_2 a1_3 a1_4 a1_5 a1_6 a1_7).bind fun t171 => (some (t171, true))) else ((quote_Quote.f t168 a1_0).bind fun t172 => ((buf_Pad.f t172 a1_0 a1_1 a1_2 a1_3 a1_4 a1_5 a1_6 a1_7).bind fun t173 => (some (t173, true)))))) else ((quote_Quote.f t168 a1_0).bind fun t174 => ((buf_Pad.f t174 a1_0 a1_1 a1_2 a1_3 a1_4 a1_5 a1_6 a1_7).bind fun t175 => (some (t175, true))))) = some (r1, r2) := H
     have A24 := Aside0.mk A240
     clear A240
     by_cases c25 : a1_2 = true
     ·
      subst c25
      have H1 : ((quote_Raw.f t168).bind fun bt169 => (if bt169.2 = true then ((buf_Pad.f bt169.1 a1_0 a1_1 true a1_3 a1_4 a1_5 a1_6 a1_7).bind fun t171 => (some (t171, true))) else ((quote_Quote.f t168 a1_0).bind fun t172 => ((buf_Pad.f t172 a1_0 a1_1 true a1_3 a1_4 a1_5 a1_6 a1_7).bind fun t173 => (some (t173, true)))))) = some (r1, r2) := by rw [if_pos rfl] at H; exact H
      clear H
      have H := H1
      clear H1
      replace H := Option.bind_eq_some_iff.mp H
      obtain ⟨⟨t169, t170⟩, A260, H⟩ := H
      replace H : (if t170 = true then ((buf_Pad.f t169 a1_0 a1_1 true a1_3 a1_4 a1_5 a1_6 a1_7).bind fun t171 => (some (t171, true))) else ((quote_Quote.f t168 a1_0).bind fun t172 => ((buf_Pad.f t172 a1_0 a1_1 true a1_3 a1_4 a1_5 a1_6 a1_7).bind fun t173 => (some (t173, true))))) = some (r1, r2) := H
      have A26 := Aside0.mk A260
      clear A260
      by_cases c27 : t170 = true
      ·
       subst c27
       have H1 : ((buf_Pad.f t169 a1_0 a1_1 true a1_3 a1_4 a1_5 a1_6 a1_7).bind fun t171 => (some (t171, true))) = some (r1, r2) := by rw [if_pos rfl] at H; exact H
       clear H
       have H := H1
       clear H1
       replace H := Option.bind_eq_some_iff.mp H
       obtain ⟨t171, A280, H⟩ := H
       replace H : (some (t171, true)) = some (r1, r2) := H
       have A28 := Aside0.mk A280
       clear A280
       simp only [Option.some.injEq, Prod.mk.injEq] at H
       obtain ⟨rfl, rfl⟩ := H
       have hcz29_0 : wc.cell? ⟨gb163, 0, none⟩ = some (.bool a1_0) := (blk_cell BK163.out 0).trans rfl
       have hcz29_1 : wc.cell? ⟨gb163, 1, none⟩ = some (.bool a1_1) := (blk_cell BK163.out 1).trans rfl
       have hcz29_2 : wc.cell? ⟨gb163, 2, none⟩ = some (.bool true) := (blk_cell BK163.out 2).trans rfl
       have hcz29_3 : wc.cell? ⟨gb163, 3, none⟩ = some (.bool a1_3) := (blk_cell BK163.out 3).trans rfl
       have hcz29_4 : wc.cell? ⟨gb163, 4, none⟩ = some (.bool a1_4) := (blk_cell BK163.out 4).trans rfl
       have hcz29_5 : wc.cell? ⟨gb163, 5, none⟩ = some (.int .i64 a1_5) := (blk_cell BK163.out 5).trans rfl
       have hcz29_6 : wc.cell? ⟨gb163, 6, none⟩ = some (.int .i64 a1_6) := (blk_cell BK163.out 6).trans rfl
       have hcz29_7 : wc.cell? ⟨gb163, 7, none⟩ = some (.int .i32 a1_7) := (blk_cell BK163.out 7).trans rfl
       have hfz29_0 := blk_frozen BK163.out 0
       have hfz29_1 := blk_frozen BK163.out 1
       have hfz29_2 := blk_frozen BK163.out 2
       have hfz29_3 := blk_frozen BK163.out 3
       have hfz29_4 := blk_frozen BK163.out 4
       have hfz29_5 := blk_frozen BK163.out 5
       have hfz29_6 := blk_frozen BK163.out 6
       have hfz29_7 := blk_frozen BK163.out 7
       go_wp2_with (first | ((with_reducible refine gate_callee (f := 35) rfl ?_); refine goesL_ (some 35) rfl rfl Tryd.func35 (by kernel_rfl) rfl #[.string a0, .int .i64 a1_6] rfl (by (try simp only [List.map_toArray, List.map_cons, List.map_nil]); first | done | rfl | (simp only [List.length_drop, List.length_take]; rfl)) ?_; (with_reducible refine (buf_Cut.calls a0 a1_6 t168 _ A24.out).mono ?_); rintro e w30 ⟨rfl, hb⟩; refine ⟨_, rfl, ?_⟩; have n0_ := Aside0.mk (blk_below (g := gb163) (o := .cells #[.bool a1_0, .bool a1_1, .bool true, .bool a1_3, .bool a1_4, .int .i64 a1_5, .int .i64 a1_6, .int .i32 a1_7] 28 (0, 0)) (by (with_reducible repeat (first | refine blk_drewN ?_ _ | refine blk_drew ?_ | refine blk_alloc ?_ _)); exact BK163.out) hb); have n1_ := Aside0.mk (below_step (by repeat (first | (with_reducible first | exact HB.out | apply below_alloc | apply pw_below_drewN | apply below_drew1 | refine below_set ?_ GE163.out) | exact HB.out)) hb); clear BK163; clear HB; have BK163 := n0_; have HB := n1_; clear n0_ n1_; (try clear hb); (try clear hb2); (try clear hk); (try clear hi); have hcz31_0 : w30.cell? ⟨gb163, 0, none⟩ = some (.bool a1_0) := (blk_cell BK163.out 0).trans rfl; have hcz31_1 : w30.cell? ⟨gb163, 1, none⟩ = some (.bool a1_1) := (blk_cell BK163.out 1).trans rfl; have hcz31_2 : w30.cell? ⟨gb163, 2, none⟩ = some (.bool true) := (blk_cell BK163.out 2).trans rfl; have hcz31_3 : w30.cell? ⟨gb163, 3, none⟩ = some (.bool a1_3) := (blk_cell BK163.out 3).trans rfl; have hcz31_4 : w30.cell? ⟨gb163, 4, none⟩ = some (.bool a1_4) := (blk_cell BK163.out 4).trans rfl; have hcz31_5 : w30.cell? ⟨gb163, 5, none⟩ = some (.int .i64 a1_5) := (blk_cell BK163.out 5).trans rfl; have hcz31_6 : w30.cell? ⟨gb163, 6, none⟩ = some (.int .i64 a1_6) := (blk_cell BK163.out 6).trans rfl; have hcz31_7 : w30.cell? ⟨gb163, 7, none⟩ = some (.int .i32 a1_7) := (blk_cell BK163.out 7).trans rfl; have hfz31_0 := blk_frozen BK163.out 0; have hfz31_1 := blk_frozen BK163.out 1; have hfz31_2 := blk_frozen BK163.out 2; have hfz31_3 := blk_frozen BK163.out 3; have hfz31_4 := blk_frozen BK163.out 4; have hfz31_5 := blk_frozen BK163.out 5; have hfz31_6 := blk_frozen BK163.out 6; have hfz31_7 := blk_frozen BK163.out 7) | ((with_reducible refine gate_callee (f := 36) rfl ?_); refine goesL_ (some 40) rfl rfl Tryd.func36 (by kernel_rfl) rfl #[.string t168] rfl (by (try simp only [List.map_toArray, List.map_cons, List.map_nil]); first | done | rfl | (simp only [List.length_drop, List.length_take]; rfl)) ?_; (with_reducible refine (quote_Raw.calls t168 t169 true _ (by (try refine Aside0.mk ?_); first | exact hOK.out | exact (hOK.out).drewN _ | (refine (hOK.out).later ?_; (repeat (first | (with_reducible first | exact HB.out | apply below_alloc | apply pw_below_drewN | apply below_drew1) | exact HB.out))) | (refine Ok.drewN ?_ _; exact hOK.out)) A26.out).mono ?_); rintro e w32 ⟨rfl, hb⟩; refine ⟨_, rfl, ?_⟩; have n0_ := Aside0.mk (blk_below (g := gb163) (o := .cells #[.bool a1_0, .bool a1_1, .bool true, .bool a1_3, .bool a1_4, .int .i64 a1_5, .int .i64 a1_6, .int .i32 a1_7] 28 (0, 0)) (by (with_reducible repeat (first | refine blk_drewN ?_ _ | refine blk_drew ?_ | refine blk_alloc ?_ _)); exact BK163.out) hb); have n1_ := Aside0.mk (below_step (by repeat (first | (with_reducible first | exact HB.out | apply below_alloc | apply pw_below_drewN | apply below_drew1 | refine below_set ?_ GE163.out) | exact HB.out)) hb); clear BK163; clear HB; have BK163 := n0_; have HB := n1_; clear n0_ n1_; (try clear hb); (try clear hb2); (try clear hk); (try clear hi); have hcz33_0 : w32.cell? ⟨gb163, 0, none⟩ = some (.bool a1_0) := (blk_cell BK163.out 0).trans rfl; have hcz33_1 : w32.cell? ⟨gb163, 1, none⟩ = some (.bool a1_1) := (blk_cell BK163.out 1).trans rfl; have hcz33_2 : w32.cell? ⟨gb163, 2, none⟩ = some (.bool true) := (blk_cell BK163.out 2).trans rfl; have hcz33_3 : w32.cell? ⟨gb163, 3, none⟩ = some (.bool a1_3) := (blk_cell BK163.out 3).trans rfl; have hcz33_4 : w32.cell? ⟨gb163, 4, none⟩ = some (.bool a1_4) := (blk_cell BK163.out 4).trans rfl; have hcz33_5 : w32.cell? ⟨gb163, 5, none⟩ = some (.int .i64 a1_5) := (blk_cell BK163.out 5).trans rfl; have hcz33_6 : w32.cell? ⟨gb163, 6, none⟩ = some (.int .i64 a1_6) := (blk_cell BK163.out 6).trans rfl; have hcz33_7 : w32.cell? ⟨gb163, 7, none⟩ = some (.int .i32 a1_7) := (blk_cell BK163.out 7).trans rfl; have hfz33_0 := blk_frozen BK163.out 0; have hfz33_1 := blk_frozen BK163.out 1; have hfz33_2 := blk_frozen BK163.out 2; have hfz33_3 := blk_frozen BK163.out 3; have hfz33_4 := blk_frozen BK163.out 4; have hfz33_5 := blk_frozen BK163.out 5; have hfz33_6 := blk_frozen BK163.out 6; have hfz33_7 := blk_frozen BK163.out 7) | ((with_reducible refine gate_callee (f := 32) rfl ?_); refine goesL_ (some 46) rfl rfl Tryd.func32 (by kernel_rfl) rfl #[.string t169, .agg #[.bool a1_0, .bool a1_1, .bool true, .bool a1_3, .bool a1_4, .int .i64 a1_5, .int .i64 a1_6, .int .i32 a1_7]] rfl (by (try simp only [List.map_toArray, List.map_cons, List.map_nil]); first | done | rfl | (simp only [List.length_drop, List.length_take]; rfl)) ?_; (with_reducible refine (buf_Pad.calls t169 a1_0 a1_1 true a1_3 a1_4 a1_5 a1_6 a1_7 t171 _ A28.out).mono ?_); rintro e w34 ⟨rfl, hb⟩; refine ⟨_, rfl, ?_⟩; have n0_ := Aside0.mk (blk_below (g := gb163) (o := .cells #[.bool a1_0, .bool a1_1, .bool true, .bool a1_3, .bool a1_4, .int .i64 a1_5, .int .i64 a1_6, .int .i32 a1_7] 28 (0, 0)) (by (with_reducible repeat (first | refine blk_drewN ?_ _ | refine blk_drew ?_ | refine blk_alloc ?_ _)); exact BK163.out) hb); have n1_ := Aside0.mk (below_step (by repeat (first | (with_reducible first | exact HB.out | apply below_alloc | apply pw_below_drewN | apply below_drew1 | refine below_set ?_ GE163.out) | exact HB.out)) hb); clear BK163; clear HB; have BK163 := n0_; have HB := n1_; clear n0_ n1_; (try clear hb); (try clear hb2); (try clear hk); (try clear hi)))
       go_ret2
       exact ⟨by first | rfl | (simp [errW_none, errW_some] <;> rfl) | (simp [*, errW_none, errW_some] <;> rfl), by repeat (first | (with_reducible first | exact HB.out | apply below_alloc | apply pw_below_drewN | apply below_drew1 | refine below_set ?_ GE163.out) | exact HB.out)⟩
      ·
       replace c27 := Bool.eq_false_iff.mpr c27
       subst c27
       have H1 : ((quote_Quote.f t168 a1_0).bind fun t172 => ((buf_Pad.f t172 a1_0 a1_1 true a1_3 a1_4 a1_5 a1_6 a1_7).bind fun t173 => (some (t173, true)))) = some (r1, r2) := by rw [if_neg (show ¬ (false = true) by decide)] at H; exact H
       clear H
       have H := H1
       clear H1
       replace H := Option.bind_eq_some_iff.mp H
       obtain ⟨t172, A350, H⟩ := H
       replace H : ((buf_Pad.f t172 a1_0 a1_1 true a1_3 a1_4 a1_5 a1_6 a1_7).bind fun t173 => (some (t173, true))) = some (r1, r2) := H
       have A35 := Aside0.mk A350
       clear A350
       replace H := Option.bind_eq_some_iff.mp H
       obtain ⟨t173, A360, H⟩ := H
       replace H : (some (t173, true)) = some (r1, r2) := H
       have A36 := Aside0.mk A360
       clear A360
       simp only [Option.some.injEq, Prod.mk.injEq] at H
       obtain ⟨rfl, rfl⟩ := H
       have hcz37_0 : wc.cell? ⟨gb163, 0, none⟩ = some (.bool a1_0) := (blk_cell BK163.out 0).trans rfl
       have hcz37_1 : wc.cell? ⟨gb163, 1, none⟩ = some (.bool a1_1) := (blk_cell BK163.out 1).trans rfl
       have hcz37_2 : wc.cell? ⟨gb163, 2, none⟩ = some (.bool true) := (blk_cell BK163.out 2).trans rfl
       have hcz37_3 : wc.cell? ⟨gb163, 3, none⟩ = some (.bool a1_3) := (blk_cell BK163.out 3).trans rfl
       have hcz37_4 : wc.cell? ⟨gb163, 4, none⟩ = some (.bool a1_4) := (blk_cell BK163.out 4).trans rfl
       have hcz37_5 : wc.cell? ⟨gb163, 5, none⟩ = some (.int .i64 a1_5) := (blk_cell BK163.out 5).trans rfl
       have hcz37_6 : wc.cell? ⟨gb163, 6, none⟩ = some (.int .i64 a1_6) := (blk_cell BK163.out 6).trans rfl
       have hcz37_7 : wc.cell? ⟨gb163, 7, none⟩ = some (.int .i32 a1_7) := (blk_cell BK163.out 7).trans rfl
       have hfz37_0 := blk_frozen BK163.out 0
       have hfz37_1 := blk_frozen BK163.out 1
       have hfz37_2 := blk_frozen BK163.out 2
       have hfz37_3 := blk_frozen BK163.out 3
       have hfz37_4 := blk_frozen BK163.out 4
       have hfz37_5 := blk_frozen BK163.out 5
       have hfz37_6 := blk_frozen BK163.out 6
       have hfz37_7 := blk_frozen BK163.out 7
       try go_wp2_with (first | ((with_reducible refine gate_callee (f := 35) rfl ?_); refine goesL_ (some 35) rfl rfl Tryd.func35 (by kernel_rfl) rfl #[.string a0, .int .i64 a1_6] rfl (by (try simp only [List.map_toArray, List.map_cons, List.map_nil]); first | done | rfl | (simp only [List.length_drop, List.length_take]; rfl)) ?_; (with_reducible refine (buf_Cut.calls a0 a1_6 t168 _ A24.out).mono ?_); rintro e w38 ⟨rfl, hb⟩; refine ⟨_, rfl, ?_⟩; have n0_ := Aside0.mk (blk_below (g := gb163) (o := .cells #[.bool a1_0, .bool a1_1, .bool true, .bool a1_3, .bool a1_4, .int .i64 a1_5, .int .i64 a1_6, .int .i32 a1_7] 28 (0, 0)) (by (with_reducible repeat (first | refine blk_drewN ?_ _ | refine blk_drew ?_ | refine blk_alloc ?_ _)); exact BK163.out) hb); have n1_ := Aside0.mk (below_step (by repeat (first | (with_reducible first | exact HB.out | apply below_alloc | apply pw_below_drewN | apply below_drew1 | refine below_set ?_ GE163.out) | exact HB.out)) hb); clear BK163; clear HB; have BK163 := n0_; have HB := n1_; clear n0_ n1_; (try clear hb); (try clear hb2); (try clear hk); (try clear hi); have hcz39_0 : w38.cell? ⟨gb163, 0, none⟩ = some (.bool a1_0) := (blk_cell BK163.out 0).trans rfl; have hcz39_1 : w38.cell? ⟨gb163, 1, none⟩ = some (.bool a1_1) := (blk_cell BK163.out 1).trans rfl; have hcz39_2 : w38.cell? ⟨gb163, 2, none⟩ = some (.bool true) := (blk_cell BK163.out 2).trans rfl; have hcz39_3 : w38.cell? ⟨gb163, 3, none⟩ = some (.bool a1_3) := (blk_cell BK163.out 3).trans rfl; have hcz39_4 : w38.cell? ⟨gb163, 4, none⟩ = some (.bool a1_4) := (blk_cell BK163.out 4).trans rfl; have hcz39_5 : w38.cell? ⟨gb163, 5, none⟩ = some (.int .i64 a1_5) := (blk_cell BK163.out 5).trans rfl; have hcz39_6 : w38.cell? ⟨gb163, 6, none⟩ = some (.int .i64 a1_6) := (blk_cell BK163.out 6).trans rfl; have hcz39_7 : w38.cell? ⟨gb163, 7, none⟩ = some (.int .i32 a1_7) := (blk_cell BK163.out 7).trans rfl; have hfz39_0 := blk_frozen BK163.out 0; have hfz39_1 := blk_frozen BK163.out 1; have hfz39_2 := blk_frozen BK163.out 2; have hfz39_3 := blk_frozen BK163.out 3; have hfz39_4 := blk_frozen BK163.out 4; have hfz39_5 := blk_frozen BK163.out 5; have hfz39_6 := blk_frozen BK163.out 6; have hfz39_7 := blk_frozen BK163.out 7) | ((with_reducible refine gate_callee (f := 36) rfl ?_); refine goesL_ (some 40) rfl rfl Tryd.func36 (by kernel_rfl) rfl #[.string t168] rfl (by (try simp only [List.map_toArray, List.map_cons, List.map_nil]); first | done | rfl | (simp only [List.length_drop, List.length_take]; rfl)) ?_; (with_reducible refine (quote_Raw.calls t168 t169 false _ (by (try refine Aside0.mk ?_); first | exact hOK.out | exact (hOK.out).drewN _ | (refine (hOK.out).later ?_; (repeat (first | (with_reducible first | exact HB.out | apply below_alloc | apply pw_below_drewN | apply below_drew1) | exact HB.out))) | (refine Ok.drewN ?_ _; exact hOK.out)) A26.out).mono ?_); rintro e w40 ⟨rfl, hb⟩; refine ⟨_, rfl, ?_⟩; have n0_ := Aside0.mk (blk_below (g := gb163) (o := .cells #[.bool a1_0, .bool a1_1, .bool true, .bool a1_3, .bool a1_4, .int .i64 a1_5, .int .i64 a1_6, .int .i32 a1_7] 28 (0, 0)) (by (with_reducible repeat (first | refine blk_drewN ?_ _ | refine blk_drew ?_ | refine blk_alloc ?_ _)); exact BK163.out) hb); have n1_ := Aside0.mk (below_step (by repeat (first | (with_reducible first | exact HB.out | apply below_alloc | apply pw_below_drewN | apply below_drew1 | refine below_set ?_ GE163.out) | exact HB.out)) hb); clear BK163; clear HB; have BK163 := n0_; have HB := n1_; clear n0_ n1_; (try clear hb); (try clear hb2); (try clear hk); (try clear hi)))
       have n0_ := Aside0.mk (blk_drew BK163.out)
       have n1_ := Aside0.mk (below_drew1 HB.out)
       clear BK163
       clear HB
       have BK163 := n0_
       have HB := n1_
       clear n0_ n1_
       refine start_ (n := 8) (S := fun w' => w'.cell? ⟨gb163, 0, none⟩ = some (.bool a1_0) ∧ w'.cell? ⟨gb163, 1, none⟩ = some (.bool a1_1) ∧ w'.cell? ⟨gb163, 2, none⟩ = some (.bool true) ∧ w'.cell? ⟨gb163, 3, none⟩ = some (.bool a1_3) ∧ w'.cell? ⟨gb163, 4, none⟩ = some (.bool a1_4) ∧ w'.cell? ⟨gb163, 5, none⟩ = some (.int .i64 a1_5) ∧ w'.cell? ⟨gb163, 6, none⟩ = some (.int .i64 a1_6) ∧ w'.cell? ⟨gb163, 7, none⟩ = some (.int .i32 a1_7)) (ds := []) #[false, false, false, false, false, false, false, false] (by kernel_rfl) rfl rfl ⟨(blk_cell BK163.out 0).trans rfl, (blk_cell BK163.out 1).trans rfl, (blk_cell BK163.out 2).trans rfl, (blk_cell BK163.out 3).trans rfl, (blk_cell BK163.out 4).trans rfl, (blk_cell BK163.out 5).trans rfl, (blk_cell BK163.out 6).trans rfl, (blk_cell BK163.out 7).trans rfl⟩ (fun hHeld => ?_); refine with_tabW quote_Text.tab13 quote_Text.bits13 (fun HT_ HW_ => ?_)
       generalize w40.drew = w41 at BK163 HB hHeld ⊢
       refine pure_ (i := 0) (N := some 47) (v := ?_) (a' := ?_) #[true, false, false, false, false, false, false, false] rfl rfl (any_of HT_.out (by kernel_rfl)) (fun _ _ _ h => h) (Or.inl ⟨by rfl, ?_⟩) ?_ ?_
       rotate_left
       ·
        intro w'
        go_simp
        with_reducible rfl
       rotate_left
       ·
        simp only [Act.put, List.setIfInBounds_toArray, List.set_cons_zero, List.set_cons_succ, i64_w, i32_w]
        rfl
       refine pure_ (i := 1) (N := some 48) (v := ?_) (a' := ?_) #[true, true, false, false, false, false, false, false] rfl rfl (any_of HT_.out (by kernel_rfl)) (fun _ _ _ h => h) (Or.inl ⟨by rfl, ?_⟩) ?_ ?_
       rotate_left
       ·
        intro w'
        go_simp
        with_reducible rfl
       rotate_left
       ·
        simp only [Act.put, List.setIfInBounds_toArray, List.set_cons_zero, List.set_cons_succ, i64_w, i32_w]
        rfl
       refine take_ (i := 2) (N := some 49) (v := ?_) (a' := ?_) #[true, true, true, false, false, false, false, false] rfl rfl (take_ofW HT_.out HW_.out (by kernel_rfl)) (fun _ _ _ h => h) (Or.inl ⟨by rfl, ?_⟩) hHeld ?_ ?_
       rotate_left
       ·
        rintro w' ⟨s0, s1, s2, s3, s4, s5, s6, s7⟩
        go_simp
        with_reducible rfl
       rotate_left
       ·
        simp only [Act.put, List.setIfInBounds_toArray, List.set_cons_zero, List.set_cons_succ, i64_w, i32_w]
        rfl
       refine take_ (i := 4) (N := some 51) (v := ?_) (a' := ?_) #[true, true, true, false, true, false, false, false] rfl rfl (take_ofW HT_.out HW_.out (by kernel_rfl)) (fun _ _ _ h => h) (Or.inl ⟨by rfl, ?_⟩) hHeld ?_ ?_
       rotate_left
       ·
        rintro w' ⟨s0, s1, s2, s3, s4, s5, s6, s7⟩
        go_simp
        with_reducible rfl
       rotate_left
       ·
        simp only [Act.put, List.setIfInBounds_toArray, List.set_cons_zero, List.set_cons_succ, i64_w, i32_w]
        rfl
       refine one_ (i := 3) (N := some 50) #[true, true, true, true, true, false, false, false] rfl rfl (one_of HT_.out (by kernel_rfl)) (by decide) (fun K hK => ?_)
       refine goes_ Tryd.func19 (by kernel_rfl) rfl #[.string t168, .bool a1_0] (by rfl) rfl rfl (by (try simp only [List.map_toArray, List.map_cons, List.map_nil]); first | done | rfl | (simp only [List.length_drop, List.length_take]; rfl)) ?_
       with_reducible refine (quote_Quote.calls t168 a1_0 t172 _ (by (try refine Aside0.mk ?_); first | exact hOK.out | exact (hOK.out).drewN _ | (refine (hOK.out).later ?_; (repeat (first | (with_reducible first | exact HB.out | apply below_alloc | apply pw_below_drewN | apply below_drew1) | exact HB.out))) | (refine Ok.drewN ?_ _; exact hOK.out)) A35.out).mono ?_
       rintro e w42 ⟨rfl, hb⟩
       refine ⟨_, rfl, ?_⟩
       have n0_ := Aside0.mk (blk_below (g := gb163) (o := .cells #[.bool a1_0, .bool a1_1, .bool true, .bool a1_3, .bool a1_4, .int .i64 a1_5, .int .i64 a1_6, .int .i32 a1_7] 28 (0, 0)) (by (with_reducible repeat (first | refine blk_drewN ?_ _ | refine blk_drew ?_ | refine blk_alloc ?_ _)); exact BK163.out) hb)
       have n1_ := Aside0.mk (below_step (by repeat (first | (with_reducible first | exact HB.out | apply below_alloc | apply pw_below_drewN | apply below_drew1 | refine below_set ?_ GE163.out) | exact HB.out)) hb)
       clear BK163
       clear HB
       have BK163 := n0_
       have HB := n1_
       clear n0_ n1_
       (try clear hb)
       (try clear hb2)
       (try clear hk)
       (try clear hi)
       refine hK.out _ _ ⟨(blk_cell BK163.out 0).trans rfl, (blk_cell BK163.out 1).trans rfl, (blk_cell BK163.out 2).trans rfl, (blk_cell BK163.out 3).trans rfl, (blk_cell BK163.out 4).trans rfl, (blk_cell BK163.out 5).trans rfl, (blk_cell BK163.out 6).trans rfl, (blk_cell BK163.out 7).trans rfl⟩ (fun hHeld => ?_)
       clear hK K
       refine norm_ (a' := ?_) ?_ ?_
       rotate_left
       ·
        show Act.put _ (some 50) _ = _
        simp only [Act.put, List.setIfInBounds_toArray, List.set_cons_zero, List.set_cons_succ, i64_w, i32_w]
        rfl
       refine one_ (i := 5) (N := some 52) #[true, true, true, true, true, true, false, false] rfl rfl (one_of HT_.out (by kernel_rfl)) (by decide) (fun K hK => ?_)
       refine goes_ Tryd.func32 (by kernel_rfl) rfl #[.string t172, .agg #[.bool a1_0, .bool a1_1, .bool true, .bool a1_3, .bool a1_4, .int .i64 a1_5, .int .i64 a1_6, .int .i32 a1_7]] (by rfl) rfl rfl (by (try simp only [List.map_toArray, List.map_cons, List.map_nil]); first | done | rfl | (simp only [List.length_drop, List.length_take]; rfl)) ?_
       with_reducible refine (buf_Pad.calls t172 a1_0 a1_1 true a1_3 a1_4 a1_5 a1_6 a1_7 t173 _ A36.out).mono ?_
       rintro e w43 ⟨rfl, hb⟩
       refine ⟨_, rfl, ?_⟩
       have n0_ := Aside0.mk (blk_below (g := gb163) (o := .cells #[.bool a1_0, .bool a1_1, .bool true, .bool a1_3, .bool a1_4, .int .i64 a1_5, .int .i64 a1_6, .int .i32 a1_7] 28 (0, 0)) (by (with_reducible repeat (first | refine blk_drewN ?_ _ | refine blk_drew ?_ | refine blk_alloc ?_ _)); exact BK163.out) hb)
       have n1_ := Aside0.mk (below_step (by repeat (first | (with_reducible first | exact HB.out | apply below_alloc | apply pw_below_drewN | apply below_drew1 | refine below_set ?_ GE163.out) | exact HB.out)) hb)
       clear BK163
       clear HB
       have BK163 := n0_
       have HB := n1_
       clear n0_ n1_
       (try clear hb)
       (try clear hb2)
       (try clear hk)
       (try clear hi)
       refine hK.out _ _ ⟨(blk_cell BK163.out 0).trans rfl, (blk_cell BK163.out 1).trans rfl, (blk_cell BK163.out 2).trans rfl, (blk_cell BK163.out 3).trans rfl, (blk_cell BK163.out 4).trans rfl, (blk_cell BK163.out 5).trans rfl, (blk_cell BK163.out 6).trans rfl, (blk_cell BK163.out 7).trans rfl⟩ (fun hHeld => ?_)
       clear hK K
       refine norm_ (a' := ?_) ?_ ?_
       rotate_left
       ·
        show Act.put _ (some 52) _ = _
        simp only [Act.put, List.setIfInBounds_toArray, List.set_cons_zero, List.set_cons_succ, i64_w, i32_w]
        rfl
       refine pure_ (i := 6) (N := some 4) (v := ?_) (a' := ?_) #[true, true, true, true, true, true, true, false] rfl rfl (any_of HT_.out (by kernel_rfl)) (fun _ _ _ h => h) (Or.inl ⟨by rfl, ?_⟩) ?_ ?_
       rotate_left
       ·
        intro w'
        go_simp
        with_reducible rfl
       rotate_left
       ·
        simp only [Act.put, List.setIfInBounds_toArray, List.set_cons_zero, List.set_cons_succ, i64_w, i32_w]
        rfl
       refine pure_ (i := 7) (N := some 5) (v := ?_) (a' := ?_) #[true, true, true, true, true, true, true, true] rfl rfl (any_of HT_.out (by kernel_rfl)) (fun _ _ _ h => h) (Or.inl ⟨by rfl, ?_⟩) ?_ ?_
       rotate_left
       ·
        intro w'
        go_simp
        with_reducible rfl
       rotate_left
       ·
        simp only [Act.put, List.setIfInBounds_toArray, List.set_cons_zero, List.set_cons_succ, i64_w, i32_w]
        rfl
       refine done_ (done_of HT_.out (by kernel_rfl)) ?_
       try go_wp2
       go_ret2
       exact ⟨by first | rfl | (simp [errW_none, errW_some] <;> rfl) | (simp [*, errW_none, errW_some] <;> rfl), by repeat (first | (with_reducible first | exact HB.out | apply below_alloc | apply pw_below_drewN | apply below_drew1 | refine below_set ?_ GE163.out) | exact HB.out)⟩
     ·
      replace c25 := Bool.eq_false_iff.mpr c25
      subst c25
      have H1 : ((quote_Quote.f t168 a1_0).bind fun t174 => ((buf_Pad.f t174 a1_0 a1_1 false a1_3 a1_4 a1_5 a1_6 a1_7).bind fun t175 => (some (t175, true)))) = some (r1, r2) := by rw [if_neg (show ¬ (false = true) by decide)] at H; exact H
      clear H
      have H := H1
      clear H1
      replace H := Option.bind_eq_some_iff.mp H
      obtain ⟨t174, A440, H⟩ := H
      replace H : ((buf_Pad.f t174 a1_0 a1_1 false a1_3 a1_4 a1_5 a1_6 a1_7).bind fun t175 => (some (t175, true))) = some (r1, r2) := H
      have A44 := Aside0.mk A440
      clear A440
      replace H := Option.bind_eq_some_iff.mp H
      obtain ⟨t175, A450, H⟩ := H
      replace H : (some (t175, true)) = some (r1, r2) := H
      have A45 := Aside0.mk A450
      clear A450
      simp only [Option.some.injEq, Prod.mk.injEq] at H
      obtain ⟨rfl, rfl⟩ := H
      have hcz46_0 : wc.cell? ⟨gb163, 0, none⟩ = some (.bool a1_0) := (blk_cell BK163.out 0).trans rfl
      have hcz46_1 : wc.cell? ⟨gb163, 1, none⟩ = some (.bool a1_1) := (blk_cell BK163.out 1).trans rfl
      have hcz46_2 : wc.cell? ⟨gb163, 2, none⟩ = some (.bool false) := (blk_cell BK163.out 2).trans rfl
      have hcz46_3 : wc.cell? ⟨gb163, 3, none⟩ = some (.bool a1_3) := (blk_cell BK163.out 3).trans rfl
      have hcz46_4 : wc.cell? ⟨gb163, 4, none⟩ = some (.bool a1_4) := (blk_cell BK163.out 4).trans rfl
      have hcz46_5 : wc.cell? ⟨gb163, 5, none⟩ = some (.int .i64 a1_5) := (blk_cell BK163.out 5).trans rfl
      have hcz46_6 : wc.cell? ⟨gb163, 6, none⟩ = some (.int .i64 a1_6) := (blk_cell BK163.out 6).trans rfl
      have hcz46_7 : wc.cell? ⟨gb163, 7, none⟩ = some (.int .i32 a1_7) := (blk_cell BK163.out 7).trans rfl
      have hfz46_0 := blk_frozen BK163.out 0
      have hfz46_1 := blk_frozen BK163.out 1
      have hfz46_2 := blk_frozen BK163.out 2
      have hfz46_3 := blk_frozen BK163.out 3
      have hfz46_4 := blk_frozen BK163.out 4
      have hfz46_5 := blk_frozen BK163.out 5
      have hfz46_6 := blk_frozen BK163.out 6
      have hfz46_7 := blk_frozen BK163.out 7
      try go_wp2_with (first | ((with_reducible refine gate_callee (f := 35) rfl ?_); refine goesL_ (some 35) rfl rfl Tryd.func35 (by kernel_rfl) rfl #[.string a0, .int .i64 a1_6] rfl (by (try simp only [List.map_toArray, List.map_cons, List.map_nil]); first | done | rfl | (simp only [List.length_drop, List.length_take]; rfl)) ?_; (with_reducible refine (buf_Cut.calls a0 a1_6 t168 _ A24.out).mono ?_); rintro e w47 ⟨rfl, hb⟩; refine ⟨_, rfl, ?_⟩; have n0_ := Aside0.mk (blk_below (g := gb163) (o := .cells #[.bool a1_0, .bool a1_1, .bool false, .bool a1_3, .bool a1_4, .int .i64 a1_5, .int .i64 a1_6, .int .i32 a1_7] 28 (0, 0)) (by (with_reducible repeat (first | refine blk_drewN ?_ _ | refine blk_drew ?_ | refine blk_alloc ?_ _)); exact BK163.out) hb); have n1_ := Aside0.mk (below_step (by repeat (first | (with_reducible first | exact HB.out | apply below_alloc | apply pw_below_drewN | apply below_drew1 | refine below_set ?_ GE163.out) | exact HB.out)) hb); clear BK163; clear HB; have BK163 := n0_; have HB := n1_; clear n0_ n1_; (try clear hb); (try clear hb2); (try clear hk); (try clear hi); have hcz48_0 : w47.cell? ⟨gb163, 0, none⟩ = some (.bool a1_0) := (blk_cell BK163.out 0).trans rfl; have hcz48_1 : w47.cell? ⟨gb163, 1, none⟩ = some (.bool a1_1) := (blk_cell BK163.out 1).trans rfl; have hcz48_2 : w47.cell? ⟨gb163, 2, none⟩ = some (.bool false) := (blk_cell BK163.out 2).trans rfl; have hcz48_3 : w47.cell? ⟨gb163, 3, none⟩ = some (.bool a1_3) := (blk_cell BK163.out 3).trans rfl; have hcz48_4 : w47.cell? ⟨gb163, 4, none⟩ = some (.bool a1_4) := (blk_cell BK163.out 4).trans rfl; have hcz48_5 : w47.cell? ⟨gb163, 5, none⟩ = some (.int .i64 a1_5) := (blk_cell BK163.out 5).trans rfl; have hcz48_6 : w47.cell? ⟨gb163, 6, none⟩ = some (.int .i64 a1_6) := (blk_cell BK163.out 6).trans rfl; have hcz48_7 : w47.cell? ⟨gb163, 7, none⟩ = some (.int .i32 a1_7) := (blk_cell BK163.out 7).trans rfl; have hfz48_0 := blk_frozen BK163.out 0; have hfz48_1 := blk_frozen BK163.out 1; have hfz48_2 := blk_frozen BK163.out 2; have hfz48_3 := blk_frozen BK163.out 3; have hfz48_4 := blk_frozen BK163.out 4; have hfz48_5 := blk_frozen BK163.out 5; have hfz48_6 := blk_frozen BK163.out 6; have hfz48_7 := blk_frozen BK163.out 7))
      have n0_ := Aside0.mk (blk_drew BK163.out)
      have n1_ := Aside0.mk (below_drew1 HB.out)
      clear BK163
      clear HB
      have BK163 := n0_
      have HB := n1_
      clear n0_ n1_
      refine start_ (n := 8) (S := fun w' => w'.cell? ⟨gb163, 0, none⟩ = some (.bool a1_0) ∧ w'.cell? ⟨gb163, 1, none⟩ = some (.bool a1_1) ∧ w'.cell? ⟨gb163, 2, none⟩ = some (.bool false) ∧ w'.cell? ⟨gb163, 3, none⟩ = some (.bool a1_3) ∧ w'.cell? ⟨gb163, 4, none⟩ = some (.bool a1_4) ∧ w'.cell? ⟨gb163, 5, none⟩ = some (.int .i64 a1_5) ∧ w'.cell? ⟨gb163, 6, none⟩ = some (.int .i64 a1_6) ∧ w'.cell? ⟨gb163, 7, none⟩ = some (.int .i32 a1_7)) (ds := []) #[false, false, false, false, false, false, false, false] (by kernel_rfl) rfl rfl ⟨(blk_cell BK163.out 0).trans rfl, (blk_cell BK163.out 1).trans rfl, (blk_cell BK163.out 2).trans rfl, (blk_cell BK163.out 3).trans rfl, (blk_cell BK163.out 4).trans rfl, (blk_cell BK163.out 5).trans rfl, (blk_cell BK163.out 6).trans rfl, (blk_cell BK163.out 7).trans rfl⟩ (fun hHeld => ?_); refine with_tabW quote_Text.tab13 quote_Text.bits13 (fun HT_ HW_ => ?_)
      generalize w47.drew = w49 at BK163 HB hHeld ⊢
      refine pure_ (i := 0) (N := some 47) (v := ?_) (a' := ?_) #[true, false, false, false, false, false, false, false] rfl rfl (any_of HT_.out (by kernel_rfl)) (fun _ _ _ h => h) (Or.inl ⟨by rfl, ?_⟩) ?_ ?_
      rotate_left
      ·
       intro w'
       go_simp
       with_reducible rfl
      rotate_left
      ·
       simp only [Act.put, List.setIfInBounds_toArray, List.set_cons_zero, List.set_cons_succ, i64_w, i32_w]
       rfl
      refine pure_ (i := 1) (N := some 48) (v := ?_) (a' := ?_) #[true, true, false, false, false, false, false, false] rfl rfl (any_of HT_.out (by kernel_rfl)) (fun _ _ _ h => h) (Or.inl ⟨by rfl, ?_⟩) ?_ ?_
      rotate_left
      ·
       intro w'
       go_simp
       with_reducible rfl
      rotate_left
      ·
       simp only [Act.put, List.setIfInBounds_toArray, List.set_cons_zero, List.set_cons_succ, i64_w, i32_w]
       rfl
      refine take_ (i := 2) (N := some 49) (v := ?_) (a' := ?_) #[true, true, true, false, false, false, false, false] rfl rfl (take_ofW HT_.out HW_.out (by kernel_rfl)) (fun _ _ _ h => h) (Or.inl ⟨by rfl, ?_⟩) hHeld ?_ ?_
      rotate_left
      ·
       rintro w' ⟨s0, s1, s2, s3, s4, s5, s6, s7⟩
       go_simp
       with_reducible rfl
      rotate_left
      ·
       simp only [Act.put, List.setIfInBounds_toArray, List.set_cons_zero, List.set_cons_succ, i64_w, i32_w]
       rfl
      refine take_ (i := 4) (N := some 51) (v := ?_) (a' := ?_) #[true, true, true, false, true, false, false, false] rfl rfl (take_ofW HT_.out HW_.out (by kernel_rfl)) (fun _ _ _ h => h) (Or.inl ⟨by rfl, ?_⟩) hHeld ?_ ?_
      rotate_left
      ·
       rintro w' ⟨s0, s1, s2, s3, s4, s5, s6, s7⟩
       go_simp
       with_reducible rfl
      rotate_left
      ·
       simp only [Act.put, List.setIfInBounds_toArray, List.set_cons_zero, List.set_cons_succ, i64_w, i32_w]
       rfl
      refine one_ (i := 3) (N := some 50) #[true, true, true, true, true, false, false, false] rfl rfl (one_of HT_.out (by kernel_rfl)) (by decide) (fun K hK => ?_)
      refine goes_ Tryd.func19 (by kernel_rfl) rfl #[.string t168, .bool a1_0] (by rfl) rfl rfl (by (try simp only [List.map_toArray, List.map_cons, List.map_nil]); first | done | rfl | (simp only [List.length_drop, List.length_take]; rfl)) ?_
      with_reducible refine (quote_Quote.calls t168 a1_0 t174 _ (by (try refine Aside0.mk ?_); first | exact hOK.out | exact (hOK.out).drewN _ | (refine (hOK.out).later ?_; (repeat (first | (with_reducible first | exact HB.out | apply below_alloc | apply pw_below_drewN | apply below_drew1) | exact HB.out))) | (refine Ok.drewN ?_ _; exact hOK.out)) A44.out).mono ?_
      rintro e w50 ⟨rfl, hb⟩
      refine ⟨_, rfl, ?_⟩
      have n0_ := Aside0.mk (blk_below (g := gb163) (o := .cells #[.bool a1_0, .bool a1_1, .bool false, .bool a1_3, .bool a1_4, .int .i64 a1_5, .int .i64 a1_6, .int .i32 a1_7] 28 (0, 0)) (by (with_reducible repeat (first | refine blk_drewN ?_ _ | refine blk_drew ?_ | refine blk_alloc ?_ _)); exact BK163.out) hb)
      have n1_ := Aside0.mk (below_step (by repeat (first | (with_reducible first | exact HB.out | apply below_alloc | apply pw_below_drewN | apply below_drew1 | refine below_set ?_ GE163.out) | exact HB.out)) hb)
      clear BK163
      clear HB
      have BK163 := n0_
      have HB := n1_
      clear n0_ n1_
      (try clear hb)
      (try clear hb2)
      (try clear hk)
      (try clear hi)
      refine hK.out _ _ ⟨(blk_cell BK163.out 0).trans rfl, (blk_cell BK163.out 1).trans rfl, (blk_cell BK163.out 2).trans rfl, (blk_cell BK163.out 3).trans rfl, (blk_cell BK163.out 4).trans rfl, (blk_cell BK163.out 5).trans rfl, (blk_cell BK163.out 6).trans rfl, (blk_cell BK163.out 7).trans rfl⟩ (fun hHeld => ?_)
      clear hK K
      refine norm_ (a' := ?_) ?_ ?_
      rotate_left
      ·
       show Act.put _ (some 50) _ = _
       simp only [Act.put, List.setIfInBounds_toArray, List.set_cons_zero, List.set_cons_succ, i64_w, i32_w]
       rfl
      refine one_ (i := 5) (N := some 52) #[true, true, true, true, true, true, false, false] rfl rfl (one_of HT_.out (by kernel_rfl)) (by decide) (fun K hK => ?_)
      refine goes_ Tryd.func32 (by kernel_rfl) rfl #[.string t174, .agg #[.bool a1_0, .bool a1_1, .bool false, .bool a1_3, .bool a1_4, .int .i64 a1_5, .int .i64 a1_6, .int .i32 a1_7]] (by rfl) rfl rfl (by (try simp only [List.map_toArray, List.map_cons, List.map_nil]); first | done | rfl | (simp only [List.length_drop, List.length_take]; rfl)) ?_
      with_reducible refine (buf_Pad.calls t174 a1_0 a1_1 false a1_3 a1_4 a1_5 a1_6 a1_7 t175 _ A45.out).mono ?_
      rintro e w51 ⟨rfl, hb⟩
      refine ⟨_, rfl, ?_⟩
      have n0_ := Aside0.mk (blk_below (g := gb163) (o := .cells #[.bool a1_0, .bool a1_1, .bool false, .bool a1_3, .bool a1_4, .int .i64 a1_5, .int .i64 a1_6, .int .i32 a1_7] 28 (0, 0)) (by (with_reducible repeat (first | refine blk_drewN ?_ _ | refine blk_drew ?_ | refine blk_alloc ?_ _)); exact BK163.out) hb)
      have n1_ := Aside0.mk (below_step (by repeat (first | (with_reducible first | exact HB.out | apply below_alloc | apply pw_below_drewN | apply below_drew1 | refine below_set ?_ GE163.out) | exact HB.out)) hb)
      clear BK163
      clear HB
      have BK163 := n0_
      have HB := n1_
      clear n0_ n1_
      (try clear hb)
      (try clear hb2)
      (try clear hk)
      (try clear hi)
      refine hK.out _ _ ⟨(blk_cell BK163.out 0).trans rfl, (blk_cell BK163.out 1).trans rfl, (blk_cell BK163.out 2).trans rfl, (blk_cell BK163.out 3).trans rfl, (blk_cell BK163.out 4).trans rfl, (blk_cell BK163.out 5).trans rfl, (blk_cell BK163.out 6).trans rfl, (blk_cell BK163.out 7).trans rfl⟩ (fun hHeld => ?_)
      clear hK K
      refine norm_ (a' := ?_) ?_ ?_
      rotate_left
      ·
       show Act.put _ (some 52) _ = _
       simp only [Act.put, List.setIfInBounds_toArray, List.set_cons_zero, List.set_cons_succ, i64_w, i32_w]
       rfl
      refine pure_ (i := 6) (N := some 4) (v := ?_) (a' := ?_) #[true, true, true, true, true, true, true, false] rfl rfl (any_of HT_.out (by kernel_rfl)) (fun _ _ _ h => h) (Or.inl ⟨by rfl, ?_⟩) ?_ ?_
      rotate_left
      ·
       intro w'
       go_simp
       with_reducible rfl
      rotate_left
      ·
       simp only [Act.put, List.setIfInBounds_toArray, List.set_cons_zero, List.set_cons_succ, i64_w, i32_w]
       rfl
      refine pure_ (i := 7) (N := some 5) (v := ?_) (a' := ?_) #[true, true, true, true, true, true, true, true] rfl rfl (any_of HT_.out (by kernel_rfl)) (fun _ _ _ h => h) (Or.inl ⟨by rfl, ?_⟩) ?_ ?_
      rotate_left
      ·
       intro w'
       go_simp
       with_reducible rfl
      rotate_left
      ·
       simp only [Act.put, List.setIfInBounds_toArray, List.set_cons_zero, List.set_cons_succ, i64_w, i32_w]
       rfl
      refine done_ (done_of HT_.out (by kernel_rfl)) ?_
      try go_wp2
      go_ret2
      exact ⟨by first | rfl | (simp [errW_none, errW_some] <;> rfl) | (simp [*, errW_none, errW_some] <;> rfl), by repeat (first | (with_reducible first | exact HB.out | apply below_alloc | apply pw_below_drewN | apply below_drew1 | refine below_set ?_ GE163.out) | exact HB.out)⟩
    ·
     rw [if_neg c23] at H
     have c23b0 : (a1_7 == 113) = false := beq_eq_false_iff_ne.mpr c23
     have c23b1 : (a1_7 != 113) = true := bne_iff_ne.mpr c23
     by_cases c52 : a1_7 = 120
     ·
      rw [if_pos c52] at H
      have c52b0 : (a1_7 == 120) = true := beq_iff_eq.mpr c52
      have c52b1 : (a1_7 != 120) = false := bne_eq_false_iff_eq.mpr c52
      clear c52
      replace H := Option.bind_eq_some_iff.mp H
      obtain ⟨t176, A530, H⟩ := H
      replace H : (some (t176, true)) = some (r1, r2) := H
      have A53 := Aside0.mk A530
      clear A530
      simp only [Option.some.injEq, Prod.mk.injEq] at H
      obtain ⟨rfl, rfl⟩ := H
      have hcz54_0 : wc.cell? ⟨gb163, 0, none⟩ = some (.bool a1_0) := (blk_cell BK163.out 0).trans rfl
      have hcz54_1 : wc.cell? ⟨gb163, 1, none⟩ = some (.bool a1_1) := (blk_cell BK163.out 1).trans rfl
      have hcz54_2 : wc.cell? ⟨gb163, 2, none⟩ = some (.bool a1_2) := (blk_cell BK163.out 2).trans rfl
      have hcz54_3 : wc.cell? ⟨gb163, 3, none⟩ = some (.bool a1_3) := (blk_cell BK163.out 3).trans rfl
      have hcz54_4 : wc.cell? ⟨gb163, 4, none⟩ = some (.bool a1_4) := (blk_cell BK163.out 4).trans rfl
      have hcz54_5 : wc.cell? ⟨gb163, 5, none⟩ = some (.int .i64 a1_5) := (blk_cell BK163.out 5).trans rfl
      have hcz54_6 : wc.cell? ⟨gb163, 6, none⟩ = some (.int .i64 a1_6) := (blk_cell BK163.out 6).trans rfl
      have hcz54_7 : wc.cell? ⟨gb163, 7, none⟩ = some (.int .i32 a1_7) := (blk_cell BK163.out 7).trans rfl
      have hfz54_0 := blk_frozen BK163.out 0
      have hfz54_1 := blk_frozen BK163.out 1
      have hfz54_2 := blk_frozen BK163.out 2
      have hfz54_3 := blk_frozen BK163.out 3
      have hfz54_4 := blk_frozen BK163.out 4
      have hfz54_5 := blk_frozen BK163.out 5
      have hfz54_6 := blk_frozen BK163.out 6
      have hfz54_7 := blk_frozen BK163.out 7
      go_wp2_with (first | ((with_reducible refine gate_callee (f := 15) rfl ?_); refine goesL_ (some 58) rfl rfl Tryd.func15 (by kernel_rfl) rfl #[.string a0, .agg #[.bool a1_0, .bool a1_1, .bool a1_2, .bool a1_3, .bool a1_4, .int .i64 a1_5, .int .i64 a1_6, .int .i32 a1_7]] rfl (by (try simp only [List.map_toArray, List.map_cons, List.map_nil]); first | done | rfl | (simp only [List.length_drop, List.length_take]; rfl)) ?_; (with_reducible refine (quote_Hex.calls kj2 a0 a1_0 a1_1 a1_2 a1_3 a1_4 a1_5 a1_6 a1_7 t176 _ A53.out).mono ?_); rintro e w55 ⟨rfl, hb⟩; refine ⟨_, rfl, ?_⟩; have n0_ := Aside0.mk (blk_below (g := gb163) (o := .cells #[.bool a1_0, .bool a1_1, .bool a1_2, .bool a1_3, .bool a1_4, .int .i64 a1_5, .int .i64 a1_6, .int .i32 a1_7] 28 (0, 0)) (by (with_reducible repeat (first | refine blk_drewN ?_ _ | refine blk_drew ?_ | refine blk_alloc ?_ _)); exact BK163.out) hb); have n1_ := Aside0.mk (below_step (by repeat (first | (with_reducible first | exact HB.out | apply below_alloc | apply pw_below_drewN | apply below_drew1 | refine below_set ?_ GE163.out) | exact HB.out)) hb); clear BK163; clear HB; have BK163 := n0_; have HB := n1_; clear n0_ n1_; (try clear hb); (try clear hb2); (try clear hk); (try clear hi)))
      go_ret2
      exact ⟨by first | rfl | (simp [errW_none, errW_some] <;> rfl) | (simp [*, errW_none, errW_some] <;> rfl), by repeat (first | (with_reducible first | exact HB.out | apply below_alloc | apply pw_below_drewN | apply below_drew1 | refine below_set ?_ GE163.out) | exact HB.out)⟩
     ·
      rw [if_neg c52] at H
      have c52b0 : (a1_7 == 120) = false := beq_eq_false_iff_ne.mpr c52
      have c52b1 : (a1_7 != 120) = true := bne_iff_ne.mpr c52
      by_cases c56 : a1_7 = 88
      ·
       rw [if_pos c56] at H
       have c56b0 : (a1_7 == 88) = true := beq_iff_eq.mpr c56
       have c56b1 : (a1_7 != 88) = false := bne_eq_false_iff_eq.mpr c56
       clear c56
       replace H := Option.bind_eq_some_iff.mp H
       obtain ⟨t177, A570, H⟩ := H
       replace H : (some (t177, true)) = some (r1, r2) := H
       have A57 := Aside0.mk A570
       clear A570
       simp only [Option.some.injEq, Prod.mk.injEq] at H
       obtain ⟨rfl, rfl⟩ := H
       have hcz58_0 : wc.cell? ⟨gb163, 0, none⟩ = some (.bool a1_0) := (blk_cell BK163.out 0).trans rfl
       have hcz58_1 : wc.cell? ⟨gb163, 1, none⟩ = some (.bool a1_1) := (blk_cell BK163.out 1).trans rfl
       have hcz58_2 : wc.cell? ⟨gb163, 2, none⟩ = some (.bool a1_2) := (blk_cell BK163.out 2).trans rfl
       have hcz58_3 : wc.cell? ⟨gb163, 3, none⟩ = some (.bool a1_3) := (blk_cell BK163.out 3).trans rfl
       have hcz58_4 : wc.cell? ⟨gb163, 4, none⟩ = some (.bool a1_4) := (blk_cell BK163.out 4).trans rfl
       have hcz58_5 : wc.cell? ⟨gb163, 5, none⟩ = some (.int .i64 a1_5) := (blk_cell BK163.out 5).trans rfl
       have hcz58_6 : wc.cell? ⟨gb163, 6, none⟩ = some (.int .i64 a1_6) := (blk_cell BK163.out 6).trans rfl
       have hcz58_7 : wc.cell? ⟨gb163, 7, none⟩ = some (.int .i32 a1_7) := (blk_cell BK163.out 7).trans rfl
       have hfz58_0 := blk_frozen BK163.out 0
       have hfz58_1 := blk_frozen BK163.out 1
       have hfz58_2 := blk_frozen BK163.out 2
       have hfz58_3 := blk_frozen BK163.out 3
       have hfz58_4 := blk_frozen BK163.out 4
       have hfz58_5 := blk_frozen BK163.out 5
       have hfz58_6 := blk_frozen BK163.out 6
       have hfz58_7 := blk_frozen BK163.out 7
       go_wp2_with (first | ((with_reducible refine gate_callee (f := 15) rfl ?_); refine goesL_ (some 58) rfl rfl Tryd.func15 (by kernel_rfl) rfl #[.string a0, .agg #[.bool a1_0, .bool a1_1, .bool a1_2, .bool a1_3, .bool a1_4, .int .i64 a1_5, .int .i64 a1_6, .int .i32 a1_7]] rfl (by (try simp only [List.map_toArray, List.map_cons, List.map_nil]); first | done | rfl | (simp only [List.length_drop, List.length_take]; rfl)) ?_; (with_reducible refine (quote_Hex.calls kj2 a0 a1_0 a1_1 a1_2 a1_3 a1_4 a1_5 a1_6 a1_7 t177 _ A57.out).mono ?_); rintro e w59 ⟨rfl, hb⟩; refine ⟨_, rfl, ?_⟩; have n0_ := Aside0.mk (blk_below (g := gb163) (o := .cells #[.bool a1_0, .bool a1_1, .bool a1_2, .bool a1_3, .bool a1_4, .int .i64 a1_5, .int .i64 a1_6, .int .i32 a1_7] 28 (0, 0)) (by (with_reducible repeat (first | refine blk_drewN ?_ _ | refine blk_drew ?_ | refine blk_alloc ?_ _)); exact BK163.out) hb); have n1_ := Aside0.mk (below_step (by repeat (first | (with_reducible first | exact HB.out | apply below_alloc | apply pw_below_drewN | apply below_drew1 | refine below_set ?_ GE163.out) | exact HB.out)) hb); clear BK163; clear HB; have BK163 := n0_; have HB := n1_; clear n0_ n1_; (try clear hb); (try clear hb2); (try clear hk); (try clear hi)))
       go_ret2
       exact ⟨by first | rfl | (simp [errW_none, errW_some] <;> rfl) | (simp [*, errW_none, errW_some] <;> rfl), by repeat (first | (with_reducible first | exact HB.out | apply below_alloc | apply pw_below_drewN | apply below_drew1 | refine below_set ?_ GE163.out) | exact HB.out)⟩
      ·
       rw [if_neg c56] at H
       have c56b0 : (a1_7 == 88) = false := beq_eq_false_iff_ne.mpr c56
       have c56b1 : (a1_7 != 88) = true := bne_iff_ne.mpr c56
       simp only [Option.some.injEq, Prod.mk.injEq] at H
       obtain ⟨rfl, rfl⟩ := H
       go_wp2
       go_ret2
       exact ⟨by first | rfl | (simp [errW_none, errW_some] <;> rfl) | (simp [*, errW_none, errW_some] <;> rfl), by repeat (first | (with_reducible first | exact HB.out | apply below_alloc | apply pw_below_drewN | apply below_drew1 | refine below_set ?_ GE163.out) | exact HB.out)⟩
end Go.Proofs.YtcoippikicikoaaDoor.PQGen
namespace Go.Proofs.YtcoippikicikoaaDoor.PQGen
open Go.RowKit Go.Proofs.YtcoippikicikoaaDoorW.PrintWords Go.Proofs.YtcoippikicikoaaDoorW.PrintLast Go.Proofs.YtcoippikicikoaaDoorW.PrintMore
attribute [local go_sem] max2_int min2_int max_two min_two
set_option linter.unusedVariables false
set_option linter.unusedSimpArgs false
def platenlaw02_lives.f (k : Nat)  : Option (Bool) := (quote_Text.f k (⟨#[195, 169]⟩ : ByteArray) true false false false false (-1) (-1) 113).bind fun bt178 => ((quote_Unquote.f (⟨#[34, 92, 120, 54, 49, 34]⟩ : ByteArray)).bind fun bt180 => (if bt178.2 = true then (if bt180.2 = true then (some false) else (if bt178.1.toList = ([34, 92, 117, 48, 48, 101, 57, 34] : List UInt8) then ((quote_Quote.f (⟨#[255]⟩ : ByteArray) false).bind fun t182 => (if t182.toList = ([34, 92, 120, 102, 102, 34] : List UInt8) then ((quote_Hex.f k (⟨#[97, 98]⟩ : ByteArray) false false true true false (-1) (-1) 120).bind fun t183 => (some (t183.toList == ([48, 120, 54, 49, 32, 48, 120, 54, 50] : List UInt8)))) else (some false))) else (some false))) else (some false)))
theorem platenlaw02_lives.mono : ∀ k, LeO (platenlaw02_lives.f k ) (platenlaw02_lives.f (k + 1) ) := by
 intro  k
 unfold platenlaw02_lives.f
 repeat' first
  | (with_reducible exact quote_Hex.mono _ _ _ _ _ _ _ _ _ _)
  | (with_reducible exact quote_Text.mono _ _ _ _ _ _ _ _ _ _)
  | (with_reducible exact LeO.refl _)
  | (with_reducible exact LeO.none _)
  | (with_reducible refine LeO.ite ?_ ?_)
  | (with_reducible refine LeO.bind ?_ (fun _ => ?_))
  | exact quote_Hex.mono _ _ _ _ _ _ _ _ _ _
  | exact quote_Text.mono _ _ _ _ _ _ _ _ _ _
  | exact LeO.none _
  | refine LeO.ite ?_ ?_
  | refine LeO.bind ?_ (fun _ => ?_)
set_option maxHeartbeats 8000000 in
set_option maxRecDepth 100000 in
theorem platenlaw02_lives.calls (k : Nat)  (r : Bool) (w : World) (hOK : Aside0 (Ok w)) (h : platenlaw02_lives.f k  = some r) :
 Calls Tryd.prog 14 #[] w fun e w' => e = .returned (.bool r) ∧ Below w.heap.size w w' := by
 have hu28 := Tryd.underlying28
 have HB := Aside0.mk (Below.refl w.heap.size w)
 have H : ((quote_Text.f k (⟨#[195, 169]⟩ : ByteArray) true false false false false (-1) (-1) 113).bind fun bt178 => ((quote_Unquote.f (⟨#[34, 92, 120, 54, 49, 34]⟩ : ByteArray)).bind fun bt180 => (if bt178.2 = true then (if bt180.2 = true then (some false) else (if bt178.1.toList = ([34, 92, 117, 48, 48, 101, 57, 34] : List UInt8) then ((quote_Quote.f (⟨#[255]⟩ : ByteArray) false).bind fun t182 => (if t182.toList = ([34, 92, 120, 102, 102, 34] : List UInt8) then ((quote_Hex.f k (⟨#[97, 98]⟩ : ByteArray) false false true true false (-1) (-1) 120).bind fun t183 => (some (t183.toList == ([48, 120, 54, 49, 32, 48, 120, 54, 50] : List UInt8)))) else (some false))) else (some false))) else (some false)))) = some r := h
 clear h
 replace H := Option.bind_eq_some_iff.mp H
 obtain ⟨⟨t178, t179⟩, A10, H⟩ := H
 replace H : ((quote_Unquote.f (⟨#[34, 92, 120, 54, 49, 34]⟩ : ByteArray)).bind fun bt180 => (if t179 = true then (if bt180.2 = true then (some false) else (if t178.toList = ([34, 92, 117, 48, 48, 101, 57, 34] : List UInt8) then ((quote_Quote.f (⟨#[255]⟩ : ByteArray) false).bind fun t182 => (if t182.toList = ([34, 92, 120, 102, 102, 34] : List UInt8) then ((quote_Hex.f k (⟨#[97, 98]⟩ : ByteArray) false false true true false (-1) (-1) 120).bind fun t183 => (some (t183.toList == ([48, 120, 54, 49, 32, 48, 120, 54, 50] : List UInt8)))) else (some false))) else (some false))) else (some false))) = some r := H
 have A1 := Aside0.mk A10
 clear A10
 replace H := Option.bind_eq_some_iff.mp H
 obtain ⟨⟨t180, t181⟩, A20, H⟩ := H
 replace H : (if t179 = true then (if t181 = true then (some false) else (if t178.toList = ([34, 92, 117, 48, 48, 101, 57, 34] : List UInt8) then ((quote_Quote.f (⟨#[255]⟩ : ByteArray) false).bind fun t182 => (if t182.toList = ([34, 92, 120, 102, 102, 34] : List UInt8) then ((quote_Hex.f k (⟨#[97, 98]⟩ : ByteArray) false false true true false (-1) (-1) 120).bind fun t183 => (some (t183.toList == ([48, 120, 54, 49, 32, 48, 120, 54, 50] : List UInt8)))) else (some false))) else (some false))) else (some false)) = some r := H
 have A2 := Aside0.mk A20
 clear A20
 by_cases c3 : t179 = true
 ·
  subst c3
  have H1 : (if t181 = true then (some false) else (if t178.toList = ([34, 92, 117, 48, 48, 101, 57, 34] : List UInt8) then ((quote_Quote.f (⟨#[255]⟩ : ByteArray) false).bind fun t182 => (if t182.toList = ([34, 92, 120, 102, 102, 34] : List UInt8) then ((quote_Hex.f k (⟨#[97, 98]⟩ : ByteArray) false false true true false (-1) (-1) 120).bind fun t183 => (some (t183.toList == ([48, 120, 54, 49, 32, 48, 120, 54, 50] : List UInt8)))) else (some false))) else (some false))) = some r := by rw [if_pos rfl] at H; exact H
  clear H
  have H := H1
  clear H1
  by_cases c4 : t181 = true
  ·
   subst c4
   have H1 : (some false) = some r := by rw [if_pos rfl] at H; exact H
   clear H
   have H := H1
   clear H1
   obtain rfl := Option.some.inj H
   go_enter Tryd.func14, Tryd.ntmps14
   go_wp2_with (first | ((with_reducible refine gate_callee (f := 17) rfl ?_); refine goesL_ (some 7) rfl rfl Tryd.func17 (by kernel_rfl) rfl #[.string (⟨#[195, 169]⟩ : ByteArray), .agg #[.bool true, .bool false, .bool false, .bool false, .bool false, .int .i64 (-1), .int .i64 (-1), .int .i32 113]] rfl (by (try simp only [List.map_toArray, List.map_cons, List.map_nil]); first | done | rfl | (simp only [List.length_drop, List.length_take]; rfl)) ?_; (with_reducible refine (quote_Text.calls k (⟨#[195, 169]⟩ : ByteArray) true false false false false (-1) (-1) 113 t178 true _ (by (try refine Aside0.mk ?_); first | exact hOK.out | exact (hOK.out).drewN _ | (refine (hOK.out).later ?_; (repeat (first | (with_reducible first | exact HB.out | apply below_alloc | apply pw_below_drewN | apply below_drew1) | exact HB.out))) | (refine Ok.drewN ?_ _; exact hOK.out)) A1.out).mono ?_); rintro e w5 ⟨rfl, hb⟩; refine ⟨_, rfl, ?_⟩; have n0_ := Aside0.mk (below_step (by repeat (first | (with_reducible first | exact HB.out | apply below_alloc | apply pw_below_drewN | apply below_drew1) | exact HB.out)) hb); clear HB; have HB := n0_; clear n0_; (try clear hb); (try clear hb2); (try clear hk); (try clear hi)) | ((with_reducible refine gate_callee (f := 12) rfl ?_); refine goesL_ (some 11) rfl rfl Tryd.func12 (by kernel_rfl) rfl #[.string (⟨#[34, 92, 120, 54, 49, 34]⟩ : ByteArray)] rfl (by (try simp only [List.map_toArray, List.map_cons, List.map_nil]); first | done | rfl | (simp only [List.length_drop, List.length_take]; rfl)) ?_; (with_reducible refine (quote_Unquote.calls (⟨#[34, 92, 120, 54, 49, 34]⟩ : ByteArray) t180 true _ (by (try refine Aside0.mk ?_); first | exact hOK.out | exact (hOK.out).drewN _ | (refine (hOK.out).later ?_; (repeat (first | (with_reducible first | exact HB.out | apply below_alloc | apply pw_below_drewN | apply below_drew1) | exact HB.out))) | (refine Ok.drewN ?_ _; exact hOK.out)) A2.out).mono ?_); rintro e w6 ⟨rfl, hb⟩; refine ⟨_, rfl, ?_⟩; have n0_ := Aside0.mk (below_step (by repeat (first | (with_reducible first | exact HB.out | apply below_alloc | apply pw_below_drewN | apply below_drew1) | exact HB.out)) hb); clear HB; have HB := n0_; clear n0_; (try clear hb); (try clear hb2); (try clear hk); (try clear hi)))
   go_ret
   exact ⟨by first | rfl | (simp [errW_none, errW_some] <;> rfl) | (simp [*, errW_none, errW_some] <;> rfl), by repeat (first | (with_reducible first | exact HB.out | apply below_alloc | apply pw_below_drewN | apply below_drew1) | exact HB.out)⟩
  ·
   replace c4 := Bool.eq_false_iff.mpr c4
   subst c4
   have H1 : (if t178.toList = ([34, 92, 117, 48, 48, 101, 57, 34] : List UInt8) then ((quote_Quote.f (⟨#[255]⟩ : ByteArray) false).bind fun t182 => (if t182.toList = ([34, 92, 120, 102, 102, 34] : List UInt8) then ((quote_Hex.f k (⟨#[97, 98]⟩ : ByteArray) false false true true false (-1) (-1) 120).bind fun t183 => (some (t183.toList == ([48, 120, 54, 49, 32, 48, 120, 54, 50] : List UInt8)))) else (some false))) else (some false)) = some r := by rw [if_neg (show ¬ (false = true) by decide)] at H; exact H
   clear H
   have H := H1
   clear H1
   by_cases c7 : t178.toList = ([34, 92, 117, 48, 48, 101, 57, 34] : List UInt8)
   ·
    rw [if_pos c7] at H
    have c7b0 : (t178.toList == ([34, 92, 117, 48, 48, 101, 57, 34] : List UInt8)) = true := beq_iff_eq.mpr c7
    have c7b1 : (t178.toList != ([34, 92, 117, 48, 48, 101, 57, 34] : List UInt8)) = false := bne_eq_false_iff_eq.mpr c7
    clear c7
    replace H := Option.bind_eq_some_iff.mp H
    obtain ⟨t182, A80, H⟩ := H
    replace H : (if t182.toList = ([34, 92, 120, 102, 102, 34] : List UInt8) then ((quote_Hex.f k (⟨#[97, 98]⟩ : ByteArray) false false true true false (-1) (-1) 120).bind fun t183 => (some (t183.toList == ([48, 120, 54, 49, 32, 48, 120, 54, 50] : List UInt8)))) else (some false)) = some r := H
    have A8 := Aside0.mk A80
    clear A80
    by_cases c9 : t182.toList = ([34, 92, 120, 102, 102, 34] : List UInt8)
    ·
     rw [if_pos c9] at H
     have c9b0 : (t182.toList == ([34, 92, 120, 102, 102, 34] : List UInt8)) = true := beq_iff_eq.mpr c9
     have c9b1 : (t182.toList != ([34, 92, 120, 102, 102, 34] : List UInt8)) = false := bne_eq_false_iff_eq.mpr c9
     clear c9
     replace H := Option.bind_eq_some_iff.mp H
     obtain ⟨t183, A100, H⟩ := H
     replace H : (some (t183.toList == ([48, 120, 54, 49, 32, 48, 120, 54, 50] : List UInt8))) = some r := H
     have A10 := Aside0.mk A100
     clear A100
     obtain rfl := Option.some.inj H
     go_enter Tryd.func14, Tryd.ntmps14
     go_wp2_with (first | ((with_reducible refine gate_callee (f := 17) rfl ?_); refine goesL_ (some 7) rfl rfl Tryd.func17 (by kernel_rfl) rfl #[.string (⟨#[195, 169]⟩ : ByteArray), .agg #[.bool true, .bool false, .bool false, .bool false, .bool false, .int .i64 (-1), .int .i64 (-1), .int .i32 113]] rfl (by (try simp only [List.map_toArray, List.map_cons, List.map_nil]); first | done | rfl | (simp only [List.length_drop, List.length_take]; rfl)) ?_; (with_reducible refine (quote_Text.calls k (⟨#[195, 169]⟩ : ByteArray) true false false false false (-1) (-1) 113 t178 true _ (by (try refine Aside0.mk ?_); first | exact hOK.out | exact (hOK.out).drewN _ | (refine (hOK.out).later ?_; (repeat (first | (with_reducible first | exact HB.out | apply below_alloc | apply pw_below_drewN | apply below_drew1) | exact HB.out))) | (refine Ok.drewN ?_ _; exact hOK.out)) A1.out).mono ?_); rintro e w11 ⟨rfl, hb⟩; refine ⟨_, rfl, ?_⟩; have n0_ := Aside0.mk (below_step (by repeat (first | (with_reducible first | exact HB.out | apply below_alloc | apply pw_below_drewN | apply below_drew1) | exact HB.out)) hb); clear HB; have HB := n0_; clear n0_; (try clear hb); (try clear hb2); (try clear hk); (try clear hi)) | ((with_reducible refine gate_callee (f := 12) rfl ?_); refine goesL_ (some 11) rfl rfl Tryd.func12 (by kernel_rfl) rfl #[.string (⟨#[34, 92, 120, 54, 49, 34]⟩ : ByteArray)] rfl (by (try simp only [List.map_toArray, List.map_cons, List.map_nil]); first | done | rfl | (simp only [List.length_drop, List.length_take]; rfl)) ?_; (with_reducible refine (quote_Unquote.calls (⟨#[34, 92, 120, 54, 49, 34]⟩ : ByteArray) t180 false _ (by (try refine Aside0.mk ?_); first | exact hOK.out | exact (hOK.out).drewN _ | (refine (hOK.out).later ?_; (repeat (first | (with_reducible first | exact HB.out | apply below_alloc | apply pw_below_drewN | apply below_drew1) | exact HB.out))) | (refine Ok.drewN ?_ _; exact hOK.out)) A2.out).mono ?_); rintro e w12 ⟨rfl, hb⟩; refine ⟨_, rfl, ?_⟩; have n0_ := Aside0.mk (below_step (by repeat (first | (with_reducible first | exact HB.out | apply below_alloc | apply pw_below_drewN | apply below_drew1) | exact HB.out)) hb); clear HB; have HB := n0_; clear n0_; (try clear hb); (try clear hb2); (try clear hk); (try clear hi)) | (go_at_call 19; (with_reducible refine (quote_Quote.calls (⟨#[255]⟩ : ByteArray) false t182 _ (by (try refine Aside0.mk ?_); first | exact hOK.out | exact (hOK.out).drewN _ | (refine (hOK.out).later ?_; (repeat (first | (with_reducible first | exact HB.out | apply below_alloc | apply pw_below_drewN | apply below_drew1) | exact HB.out))) | (refine Ok.drewN ?_ _; exact hOK.out)) A8.out).mono ?_); rintro e w13 ⟨rfl, hb⟩; have n0_ := Aside0.mk (below_step (by repeat (first | (with_reducible first | exact HB.out | apply below_alloc | apply pw_below_drewN | apply below_drew1) | exact HB.out)) hb); clear HB; have HB := n0_; clear n0_; (try clear hb); (try clear hb2); (try clear hk); (try clear hi)) | (go_at_call 15; (with_reducible refine (quote_Hex.calls k (⟨#[97, 98]⟩ : ByteArray) false false true true false (-1) (-1) 120 t183 _ A10.out).mono ?_); rintro e w14 ⟨rfl, hb⟩; have n0_ := Aside0.mk (below_step (by repeat (first | (with_reducible first | exact HB.out | apply below_alloc | apply pw_below_drewN | apply below_drew1) | exact HB.out)) hb); clear HB; have HB := n0_; clear n0_; (try clear hb); (try clear hb2); (try clear hk); (try clear hi)))
     go_ret
     exact ⟨by first | rfl | (simp [errW_none, errW_some] <;> rfl) | (simp [*, errW_none, errW_some] <;> rfl), by repeat (first | (with_reducible first | exact HB.out | apply below_alloc | apply pw_below_drewN | apply below_drew1) | exact HB.out)⟩
    ·
     rw [if_neg c9] at H
     have c9b0 : (t182.toList == ([34, 92, 120, 102, 102, 34] : List UInt8)) = false := beq_eq_false_iff_ne.mpr c9
     have c9b1 : (t182.toList != ([34, 92, 120, 102, 102, 34] : List UInt8)) = true := bne_iff_ne.mpr c9
     obtain rfl := Option.some.inj H
     go_enter Tryd.func14, Tryd.ntmps14
     go_wp2_with (first | ((with_reducible refine gate_callee (f := 17) rfl ?_); refine goesL_ (some 7) rfl rfl Tryd.func17 (by kernel_rfl) rfl #[.string (⟨#[195, 169]⟩ : ByteArray), .agg #[.bool true, .bool false, .bool false, .bool false, .bool false, .int .i64 (-1), .int .i64 (-1), .int .i32 113]] rfl (by (try simp only [List.map_toArray, List.map_cons, List.map_nil]); first | done | rfl | (simp only [List.length_drop, List.length_take]; rfl)) ?_; (with_reducible refine (quote_Text.calls k (⟨#[195, 169]⟩ : ByteArray) true false false false false (-1) (-1) 113 t178 true _ (by (try refine Aside0.mk ?_); first | exact hOK.out | exact (hOK.out).drewN _ | (refine (hOK.out).later ?_; (repeat (first | (with_reducible first | exact HB.out | apply below_alloc | apply pw_below_drewN | apply below_drew1) | exact HB.out))) | (refine Ok.drewN ?_ _; exact hOK.out)) A1.out).mono ?_); rintro e w15 ⟨rfl, hb⟩; refine ⟨_, rfl, ?_⟩; have n0_ := Aside0.mk (below_step (by repeat (first | (with_reducible first | exact HB.out | apply below_alloc | apply pw_below_drewN | apply below_drew1) | exact HB.out)) hb); clear HB; have HB := n0_; clear n0_; (try clear hb); (try clear hb2); (try clear hk); (try clear hi)) | ((with_reducible refine gate_callee (f := 12) rfl ?_); refine goesL_ (some 11) rfl rfl Tryd.func12 (by kernel_rfl) rfl #[.string (⟨#[34, 92, 120, 54, 49, 34]⟩ : ByteArray)] rfl (by (try simp only [List.map_toArray, List.map_cons, List.map_nil]); first | done | rfl | (simp only [List.length_drop, List.length_take]; rfl)) ?_; (with_reducible refine (quote_Unquote.calls (⟨#[34, 92, 120, 54, 49, 34]⟩ : ByteArray) t180 false _ (by (try refine Aside0.mk ?_); first | exact hOK.out | exact (hOK.out).drewN _ | (refine (hOK.out).later ?_; (repeat (first | (with_reducible first | exact HB.out | apply below_alloc | apply pw_below_drewN | apply below_drew1) | exact HB.out))) | (refine Ok.drewN ?_ _; exact hOK.out)) A2.out).mono ?_); rintro e w16 ⟨rfl, hb⟩; refine ⟨_, rfl, ?_⟩; have n0_ := Aside0.mk (below_step (by repeat (first | (with_reducible first | exact HB.out | apply below_alloc | apply pw_below_drewN | apply below_drew1) | exact HB.out)) hb); clear HB; have HB := n0_; clear n0_; (try clear hb); (try clear hb2); (try clear hk); (try clear hi)) | (go_at_call 19; (with_reducible refine (quote_Quote.calls (⟨#[255]⟩ : ByteArray) false t182 _ (by (try refine Aside0.mk ?_); first | exact hOK.out | exact (hOK.out).drewN _ | (refine (hOK.out).later ?_; (repeat (first | (with_reducible first | exact HB.out | apply below_alloc | apply pw_below_drewN | apply below_drew1) | exact HB.out))) | (refine Ok.drewN ?_ _; exact hOK.out)) A8.out).mono ?_); rintro e w17 ⟨rfl, hb⟩; have n0_ := Aside0.mk (below_step (by repeat (first | (with_reducible first | exact HB.out | apply below_alloc | apply pw_below_drewN | apply below_drew1) | exact HB.out)) hb); clear HB; have HB := n0_; clear n0_; (try clear hb); (try clear hb2); (try clear hk); (try clear hi)))
     go_ret
     exact ⟨by first | rfl | (simp [errW_none, errW_some] <;> rfl) | (simp [*, errW_none, errW_some] <;> rfl), by repeat (first | (with_reducible first | exact HB.out | apply below_alloc | apply pw_below_drewN | apply below_drew1) | exact HB.out)⟩
   ·
    rw [if_neg c7] at H
    have c7b0 : (t178.toList == ([34, 92, 117, 48, 48, 101, 57, 34] : List UInt8)) = false := beq_eq_false_iff_ne.mpr c7
    have c7b1 : (t178.toList != ([34, 92, 117, 48, 48, 101, 57, 34] : List UInt8)) = true := bne_iff_ne.mpr c7
    obtain rfl := Option.some.inj H
    go_enter Tryd.func14, Tryd.ntmps14
    go_wp2_with (first | ((with_reducible refine gate_callee (f := 17) rfl ?_); refine goesL_ (some 7) rfl rfl Tryd.func17 (by kernel_rfl) rfl #[.string (⟨#[195, 169]⟩ : ByteArray), .agg #[.bool true, .bool false, .bool false, .bool false, .bool false, .int .i64 (-1), .int .i64 (-1), .int .i32 113]] rfl (by (try simp only [List.map_toArray, List.map_cons, List.map_nil]); first | done | rfl | (simp only [List.length_drop, List.length_take]; rfl)) ?_; (with_reducible refine (quote_Text.calls k (⟨#[195, 169]⟩ : ByteArray) true false false false false (-1) (-1) 113 t178 true _ (by (try refine Aside0.mk ?_); first | exact hOK.out | exact (hOK.out).drewN _ | (refine (hOK.out).later ?_; (repeat (first | (with_reducible first | exact HB.out | apply below_alloc | apply pw_below_drewN | apply below_drew1) | exact HB.out))) | (refine Ok.drewN ?_ _; exact hOK.out)) A1.out).mono ?_); rintro e w18 ⟨rfl, hb⟩; refine ⟨_, rfl, ?_⟩; have n0_ := Aside0.mk (below_step (by repeat (first | (with_reducible first | exact HB.out | apply below_alloc | apply pw_below_drewN | apply below_drew1) | exact HB.out)) hb); clear HB; have HB := n0_; clear n0_; (try clear hb); (try clear hb2); (try clear hk); (try clear hi)) | ((with_reducible refine gate_callee (f := 12) rfl ?_); refine goesL_ (some 11) rfl rfl Tryd.func12 (by kernel_rfl) rfl #[.string (⟨#[34, 92, 120, 54, 49, 34]⟩ : ByteArray)] rfl (by (try simp only [List.map_toArray, List.map_cons, List.map_nil]); first | done | rfl | (simp only [List.length_drop, List.length_take]; rfl)) ?_; (with_reducible refine (quote_Unquote.calls (⟨#[34, 92, 120, 54, 49, 34]⟩ : ByteArray) t180 false _ (by (try refine Aside0.mk ?_); first | exact hOK.out | exact (hOK.out).drewN _ | (refine (hOK.out).later ?_; (repeat (first | (with_reducible first | exact HB.out | apply below_alloc | apply pw_below_drewN | apply below_drew1) | exact HB.out))) | (refine Ok.drewN ?_ _; exact hOK.out)) A2.out).mono ?_); rintro e w19 ⟨rfl, hb⟩; refine ⟨_, rfl, ?_⟩; have n0_ := Aside0.mk (below_step (by repeat (first | (with_reducible first | exact HB.out | apply below_alloc | apply pw_below_drewN | apply below_drew1) | exact HB.out)) hb); clear HB; have HB := n0_; clear n0_; (try clear hb); (try clear hb2); (try clear hk); (try clear hi)))
    go_ret
    exact ⟨by first | rfl | (simp [errW_none, errW_some] <;> rfl) | (simp [*, errW_none, errW_some] <;> rfl), by repeat (first | (with_reducible first | exact HB.out | apply below_alloc | apply pw_below_drewN | apply below_drew1) | exact HB.out)⟩
 ·
  replace c3 := Bool.eq_false_iff.mpr c3
  subst c3
  have H1 : (some false) = some r := by rw [if_neg (show ¬ (false = true) by decide)] at H; exact H
  clear H
  have H := H1
  clear H1
  obtain rfl := Option.some.inj H
  go_enter Tryd.func14, Tryd.ntmps14
  go_wp2_with (first | ((with_reducible refine gate_callee (f := 17) rfl ?_); refine goesL_ (some 7) rfl rfl Tryd.func17 (by kernel_rfl) rfl #[.string (⟨#[195, 169]⟩ : ByteArray), .agg #[.bool true, .bool false, .bool false, .bool false, .bool false, .int .i64 (-1), .int .i64 (-1), .int .i32 113]] rfl (by (try simp only [List.map_toArray, List.map_cons, List.map_nil]); first | done | rfl | (simp only [List.length_drop, List.length_take]; rfl)) ?_; (with_reducible refine (quote_Text.calls k (⟨#[195, 169]⟩ : ByteArray) true false false false false (-1) (-1) 113 t178 false _ (by (try refine Aside0.mk ?_); first | exact hOK.out | exact (hOK.out).drewN _ | (refine (hOK.out).later ?_; (repeat (first | (with_reducible first | exact HB.out | apply below_alloc | apply pw_below_drewN | apply below_drew1) | exact HB.out))) | (refine Ok.drewN ?_ _; exact hOK.out)) A1.out).mono ?_); rintro e w20 ⟨rfl, hb⟩; refine ⟨_, rfl, ?_⟩; have n0_ := Aside0.mk (below_step (by repeat (first | (with_reducible first | exact HB.out | apply below_alloc | apply pw_below_drewN | apply below_drew1) | exact HB.out)) hb); clear HB; have HB := n0_; clear n0_; (try clear hb); (try clear hb2); (try clear hk); (try clear hi)) | ((with_reducible refine gate_callee (f := 12) rfl ?_); refine goesL_ (some 11) rfl rfl Tryd.func12 (by kernel_rfl) rfl #[.string (⟨#[34, 92, 120, 54, 49, 34]⟩ : ByteArray)] rfl (by (try simp only [List.map_toArray, List.map_cons, List.map_nil]); first | done | rfl | (simp only [List.length_drop, List.length_take]; rfl)) ?_; (with_reducible refine (quote_Unquote.calls (⟨#[34, 92, 120, 54, 49, 34]⟩ : ByteArray) t180 t181 _ (by (try refine Aside0.mk ?_); first | exact hOK.out | exact (hOK.out).drewN _ | (refine (hOK.out).later ?_; (repeat (first | (with_reducible first | exact HB.out | apply below_alloc | apply pw_below_drewN | apply below_drew1) | exact HB.out))) | (refine Ok.drewN ?_ _; exact hOK.out)) A2.out).mono ?_); rintro e w21 ⟨rfl, hb⟩; refine ⟨_, rfl, ?_⟩; have n0_ := Aside0.mk (below_step (by repeat (first | (with_reducible first | exact HB.out | apply below_alloc | apply pw_below_drewN | apply below_drew1) | exact HB.out)) hb); clear HB; have HB := n0_; clear n0_; (try clear hb); (try clear hb2); (try clear hk); (try clear hi)))
  go_ret
  exact ⟨by first | rfl | (simp [errW_none, errW_some] <;> rfl) | (simp [*, errW_none, errW_some] <;> rfl), by repeat (first | (with_reducible first | exact HB.out | apply below_alloc | apply pw_below_drewN | apply below_drew1) | exact HB.out)⟩
end Go.Proofs.YtcoippikicikoaaDoor.PQGen
namespace Go.Proofs.YtcoippikicikoaaDoor.PQGen
open Go.RowKit Go.Proofs.YtcoippikicikoaaDoorW.PrintWords Go.Proofs.YtcoippikicikoaaDoorW.PrintLast Go.Proofs.YtcoippikicikoaaDoorW.PrintMore
attribute [local go_sem] max2_int min2_int max_two min_two
set_option linter.unusedVariables false
set_option linter.unusedSimpArgs false
end Go.Proofs.YtcoippikicikoaaDoor.PQGen
namespace Go.Proofs.YtcoippikicikoaaDoor.PQGen
open Go.RowKit Go.Proofs.YtcoippikicikoaaDoorW.PrintWords Go.Proofs.YtcoippikicikoaaDoorW.PrintLast Go.Proofs.YtcoippikicikoaaDoorW.PrintMore
attribute [local go_sem] max2_int min2_int max_two min_two
set_option linter.unusedVariables false
set_option linter.unusedSimpArgs false
end Go.Proofs.YtcoippikicikoaaDoor.PQGen
namespace Go.Proofs.YtcoippikicikoaaDoor.PQChars
open Go.RowKit Go.Proofs.YtcoippikicikoaaDoorW.PrintWords Go.Proofs.YtcoippikicikoaaDoorW.PrintLast Go.Proofs.YtcoippikicikoaaDoorW.PrintMore
attribute [local go_sem] max2_int min2_int max_two min_two
set_option linter.unusedVariables false
set_option linter.unusedSimpArgs false
def errW : Option Int → Value
 | none => .nilIface
 | some c => .iface 0 (.int .i64 c)
theorem errW_none : errW none = .nilIface := rfl
theorem errW_some (c : Int) : errW (some c) = .iface 0 (.int .i64 c) := rfl
end Go.Proofs.YtcoippikicikoaaDoor.PQChars
namespace Go.Proofs.YtcoippikicikoaaDoor.PQChars
open Go.RowKit Go.Proofs.YtcoippikicikoaaDoorW.PrintWords Go.Proofs.YtcoippikicikoaaDoorW.PrintLast Go.Proofs.YtcoippikicikoaaDoorW.PrintMore
attribute [local go_sem] max2_int min2_int max_two min_two
set_option linter.unusedVariables false
set_option linter.unusedSimpArgs false
end Go.Proofs.YtcoippikicikoaaDoor.PQChars
namespace Go.Proofs.YtcoippikicikoaaDoor.PQChars
open Go.RowKit Go.Proofs.YtcoippikicikoaaDoorW.PrintWords Go.Proofs.YtcoippikicikoaaDoorW.PrintLast Go.Proofs.YtcoippikicikoaaDoorW.PrintMore
attribute [local go_sem] max2_int min2_int max_two min_two
set_option linter.unusedVariables false
set_option linter.unusedSimpArgs false
end Go.Proofs.YtcoippikicikoaaDoor.PQChars
namespace Go.Proofs.YtcoippikicikoaaDoor
open Go.RowKit Go.Proofs.YtcoippikicikoaaDoorW.PrintWords Go.Proofs.YtcoippikicikoaaDoorW.PrintMore Go.Proofs.YtcoippikicikoaaDoor.PQRef
open Go.Proofs.YtcoippikicikoaaDoor.PQPut (quote_put.f quote_escape.f)
theorem lives_a : PQGen.platenlaw02_lives.f 100 = some true := by decide +kernel
theorem lives_f (k : Nat) : PQGen.platenlaw02_lives.f (k + 100) = some true :=
  at_rounds (fun k => PQGen.platenlaw02_lives.mono k) (Nat.le_add_left 100 k) lives_a
theorem putL_length (c q : Nat) (asc : Bool) : 1 ≤ (putL c q asc).length ∧ (putL c q asc).length ≤ 10 := by
  have := enc_length (c : Int)
  unfold putL
  repeat' split
  all_goals first | exact ⟨by omega, by omega⟩ | (simp [hexL_length])
end Go.Proofs.YtcoippikicikoaaDoor
namespace Go.Proofs.YtcoippikicikoaaDoor
open Go.RowKit Go.Proofs.YtcoippikicikoaaDoorW.PrintWords Go.Proofs.YtcoippikicikoaaDoorW.PrintMore Go.Proofs.YtcoippikicikoaaDoor.PQRef
open Go.Proofs.YtcoippikicikoaaDoor.PQPut (quote_put.f quote_escape.f)
theorem decN_small (n b0 b1 b2 b3 : Nat) : (Lib.decodeN n b0 b1 b2 b3).1 ≤ 1114111 := by
  unfold Lib.decodeN
  repeat' split
  all_goals simp only []
  all_goals omega
theorem dec_small (s : ByteArray) (p : Nat) : (Utf8.decode s p).1 ≤ 1114111 := by
  rw [Lib.decode_at]; exact decN_small _ _ _ _ _
def part (s : ByteArray) (asc : Bool) (p : Nat) : List UInt8 :=
  if (Utf8.decode s p).1 = 65533 ∧ (Utf8.decode s p).2 = 1 then [92, 120] ++ hexL 2 (s.get! p).toNat else putL (Utf8.decode s p).1 34 asc
theorem part_length (s : ByteArray) (asc : Bool) (p : Nat) : 1 ≤ (part s asc p).length ∧ (part s asc p).length ≤ 10 := by
  unfold part
  split
  · simp [hexL_length]
  · exact putL_length _ _ _
def qparts (s : ByteArray) (asc : Bool) : Nat → Nat → List UInt8
  | 0, _ => []
  | f + 1, p => if p < s.size then part s asc p ++ qparts s asc f (p + (Utf8.decode s p).2) else []
theorem part_f (s : ByteArray) (asc : Bool) (p : Nat) (l : List Int) (hl : l.length ≤ 10000000) :
    (if (Utf8.decode s p).1 = 65533 ∧ (Utf8.decode s p).2 = 1 then quote_escape.f 100 l 120 (bt s (p : Int)) 2 else quote_put.f 100 l ((Utf8.decode s p).1 : Int) 34 asc) = some (l ++ ints (part s asc p)) := by
  unfold part
  have hb : (s.get! p).toNat < 256 := bt_lt s p
  by_cases h : (Utf8.decode s p).1 = 65533 ∧ (Utf8.decode s p).2 = 1
  · rw [if_pos h, if_pos h, bt_get, show (120 : Int) = ((120 : Nat) : Int) from rfl, show (2 : Int) = ((2 : Nat) : Int) from rfl, escape_f 100 (by omega) _ 120 2 (by omega) l (by omega) (by omega) (by omega)]
    rfl
  · rw [if_neg h, if_neg h, show (34 : Int) = ((34 : Nat) : Int) from rfl, put_f _ 34 asc (dec_small s p) l hl]
theorem quoteGo_f (s : ByteArray) (asc : Bool) : ∀ (f p : Nat) (l : List Int), s.size ≤ p + f → l.length + 10 * f ≤ 10000000 → quoteGo s asc f p l = some (l ++ ints (qparts s asc f p)) := by
  intro f
  induction f with
  | zero =>
    intro p l h1 _
    rw [quoteGo_end _ _ _ _ _ (by omega)]
    simp [qparts, ints]
  | succ f ih =>
    intro p l h1 h2
    by_cases hp : p < s.size
    · have hw := dec_pos s p hp
      obtain ⟨l1, l2⟩ := part_length s asc p
      unfold quoteGo qparts
      rw [if_pos hp, if_pos hp, part_f s asc p l (by omega), Option.bind_some, ih _ _ (by omega) (by rw [List.length_append, ints_length]; omega), ints_append, List.append_assoc]
    · rw [quoteGo_end _ _ _ _ _ hp]
      unfold qparts
      rw [if_neg hp]
      simp [ints]
def quoteB (s : ByteArray) (asc : Bool) : List UInt8 := [34] ++ qparts s asc s.size 0 ++ [34]
theorem qparts_length (s : ByteArray) (asc : Bool) : ∀ f p, (qparts s asc f p).length ≤ 10 * f := by
  intro f
  induction f with
  | zero => intro p; simp [qparts]
  | succ f ih =>
    intro p
    unfold qparts
    split
    · have := part_length s asc p
      have := ih (p + (Utf8.decode s p).2)
      rw [List.length_append]; omega
    · simp
theorem Quote_f (s : ByteArray) (asc : Bool) (h : s.size ≤ 100000) : quote_Quote.f s asc = some (T (quoteB s asc)) := by
  have hq := qparts_length s asc s.size 0
  unfold quote_Quote.f
  rw [if_pos (by omega), quoteGo_f s asc s.size 0 [34] (by omega) (by simp; omega), Option.bind_some, if_pos (by rw [List.length_append, ints_length, List.length_singleton]; omega)]
  have := strOfNums_ints (quoteB s asc)
  unfold quoteB at this ⊢
  rw [← this, ints_append, ints_append]
  rfl
end Go.Proofs.YtcoippikicikoaaDoor
namespace Go.Proofs.YtcoippikicikoaaDoor
open Go.RowKit Go.Proofs.YtcoippikicikoaaDoorW.PrintWords Go.Proofs.YtcoippikicikoaaDoorW.PrintMore Go.Proofs.YtcoippikicikoaaDoor.PQRef
theorem bnd (a b : Nat) (ha : a ≤ 10000000) (hb : b ≤ 1000) : a + b ≤ 9223372036854775807 := by omega
theorem ext_ext (s : ByteArray) (p n : Nat) : (s.extract p s.size).extract n (s.extract p s.size).size = s.extract (p + n) s.size :=
  bytes_ext (by rw [Lib.extract_to_end, Lib.extract_to_end, Lib.extract_to_end, List.drop_drop])
theorem ext_decode (s : ByteArray) (p : Nat) (h : p < s.size) : Utf8.decode (s.extract p s.size) 0 = Utf8.decode s p := by
  have := dec_extract s p h
  unfold Lib.decodeGo at this
  rwa [if_neg (by rw [size_extract]; omega)] at this
theorem RQuote_l0 (s : ByteArray) (asc : Bool) (hs : s.size ≤ 100000) : ∀ (f p k : Nat) (l : List UInt8), s.size ≤ p + f → 200 + f ≤ k → l.length + 10 * f ≤ 5000000 →
    platenref02_Quote.l0 k (s.extract p s.size) asc (T l) = some (T (l ++ qparts s asc f p ++ [34])) := by
  intro f
  induction f with
  | zero =>
    intro p k l h1 hk hl
    obtain ⟨k, rfl⟩ : ∃ k', k = k' + 1 := ⟨k - 1, by omega⟩
    have e : s.extract p s.size = ⟨#[]⟩ := bytes_ext (by rw [Lib.extract_to_end]; exact List.drop_eq_nil_of_le (by rw [← Lib.size_eq]; omega))
    simp only [platenref02_Quote.l0]
    have z : (T l).size + 1 ≤ 9223372036854775807 := bnd _ 1 (by rw [T_size]; omega) (by omega)
    rw [e, if_pos (by rw [Lib.toList_data]), if_pos z]
    have := T_append l [34]
    rw [show (⟨#[34]⟩ : ByteArray) = T [34] from rfl, this]
    simp [qparts]
  | succ f ih =>
    intro p k l h1 hk hl
    by_cases hp : p < s.size
    · obtain ⟨k, rfl⟩ : ∃ k', k = k' + 1 := ⟨k - 1, by omega⟩
      have hw := dec_pos s p hp
      have hsz := size_extract s p
      have hle : (Utf8.decode s p).2 ≤ s.size - p := by
        have := decB_le (s.extract p s.size)
        unfold decB at this
        rw [if_neg (by omega), ext_decode s p hp, hsz] at this
        exact this
      obtain ⟨l1, l2⟩ := part_length s asc p
      have hd := decode_f (k - 30) (s.extract p s.size) (by omega)
      rw [show k - 30 + 30 = k by omega, ext_decode s p hp] at hd
      have n1 : ¬ ((s.extract p s.size).toList = ([] : List UInt8)) := by
        rw [Lib.toList_data]; intro e
        have : (s.extract p s.size).size = 0 := by rw [Lib.size_eq, e]; rfl
        omega
      have hnext := ih (p + (Utf8.decode s p).2) k (l ++ part s asc p) (by omega) (by omega) (by rw [List.length_append]; omega)
      have hext := ext_ext s p (Utf8.decode s p).2
      have q1 : (0 : Int) ≤ ((Utf8.decode s p).2 : Int) := by omega
      have q2 : ((Utf8.decode s p).2 : Int) ≤ ((s.extract p s.size).size : Int) := by omega
      have hfin : T l ++ T (part s asc p) = T (l ++ part s asc p) := T_append _ _
      have zz : (T l).size + (T (part s asc p)).size ≤ 9223372036854775807 := bnd _ _ (by rw [T_size]; omega) (by rw [T_size]; omega)
      simp only [platenref02_Quote.l0]
      rw [if_neg n1, hd, Option.bind_some]
      have hq : qparts s asc (f + 1) p = part s asc p ++ qparts s asc f (p + (Utf8.decode s p).2) := by
        rw [qparts, if_pos hp]
      rw [hq]
      have hres : l ++ (part s asc p ++ qparts s asc f (p + (Utf8.decode s p).2)) ++ [34] = l ++ part s asc p ++ qparts s asc f (p + (Utf8.decode s p).2) ++ [34] := by
        simp only [List.append_assoc]
      rw [hres, ← hnext]
      by_cases hbr : Utf8.decode s p = (65533, 1)
      · have hc : (Utf8.decode s p).1 = 65533 ∧ (Utf8.decode s p).2 = 1 := by rw [hbr]; exact ⟨rfl, rfl⟩
        have hpart : part s asc p = [92, 120] ++ hexL 2 (s.get! p).toNat := by unfold part; rw [if_pos hc]
        have hb : (s.get! p).toNat < 256 := bt_lt s p
        have hbt : wrap64 (bt (s.extract p s.size) 0) = (((s.get! p).toNat : Nat) : Int) := by
          rw [show (0 : Int) = ((0 : Nat) : Int) from rfl, bt_get, get_extract, Nat.add_zero, wrap64_id (by omega) (by omega)]
        have hdig := digits_f k (s.get! p).toNat 2 (by omega) (by omega) (by omega)
        have hjoin : strOfNums [92, 120] ++ T (hexL 2 (s.get! p).toNat) = T (part s asc p) := by
          rw [hpart]; exact esc_T 120 120 _ (strOfNums_ints [92, 120])
        have z0 : (0 : Int) < ((s.extract p s.size).size : Int) := by omega
        have z1 : (strOfNums [92, 120]).size + (T (hexL 2 (s.get! p).toNat)).size ≤ 9223372036854775807 := small2 _ _ 2 (str2 92 120) (by rw [T_size, hexL_length]) (by omega)
        rw [if_pos (decide_eq_true hbr), Option.bind_some, if_pos z0, hbt, show (2 : Int) = ((2 : Nat) : Int) from rfl, hdig, Option.bind_some, if_pos z1, hjoin, if_pos zz, if_pos q1, if_pos q2, Int.toNat_natCast, hext, hfin]
      · have hpart : part s asc p = putL (Utf8.decode s p).1 34 asc := by
          unfold part
          rw [if_neg (fun h => hbr (Prod.ext h.1 h.2))]
        have hIn := In_f k (Utf8.decode s p).1 34 asc (dec_small s p) (by omega) (by omega)
        rw [← hpart] at hIn
        rw [if_neg (by rw [decide_eq_false hbr]; exact Bool.false_ne_true), show (34 : Int) = ((34 : Nat) : Int) from rfl, hIn, Option.bind_some, if_pos zz, if_pos q1, if_pos q2, Int.toNat_natCast, hext, hfin]
    · have := ih p k l (by omega) (by omega) (by omega)
      rw [this]
      have e0 : qparts s asc (f + 1) p = [] := by rw [qparts, if_neg hp]
      have e1 : qparts s asc f p = [] := by cases f <;> simp [qparts, hp]
      rw [e0, e1]
theorem ext_zero (s : ByteArray) : s.extract 0 s.size = s := extract_all s
theorem RQuote_f (k : Nat) (s : ByteArray) (asc : Bool) (hs : s.size ≤ 100000) (hk : 200 + s.size ≤ k) : platenref02_Quote.f k s asc = some (T (quoteB s asc)) := by
  have := RQuote_l0 s asc hs s.size 0 k [34] (by omega) hk (by simp; omega)
  rw [ext_zero] at this
  unfold platenref02_Quote.f
  exact this
end Go.Proofs.YtcoippikicikoaaDoor
namespace Go.Proofs.YtcoippikicikoaaDoor
open Go.RowKit Go.Proofs.YtcoippikicikoaaDoorW.PrintWords Go.Proofs.YtcoippikicikoaaDoorW.PrintMore Go.Proofs.YtcoippikicikoaaDoor.PQRef
theorem getT (l : List UInt8) (i : Nat) : (T l).get! i = l.getD i 0 := by
  show (l.toArray)[i]! = _
  rw [Array.getElem!_eq_getD]
  simp [List.getD]
  rfl
theorem toNat_ofNat (x : Nat) (h : x < 256) : (UInt8.ofNat x).toNat = x := by rw [UInt8.toNat_ofNat']; omega
theorem extT (l : List UInt8) (i j : Nat) : (T l).extract i j = T ((l.take j).drop i) := by
  refine bytes_ext ?_
  rw [ByteArray.data_extract, Array.toList_extract, List.extract_eq_take_drop, List.drop_take]
theorem T_self (s : ByteArray) : T s.data.toList = s := bytes_ext rfl
theorem dec_enc (c : Nat) (hv : Utf8.valid (c : Int) = true) (rest : List UInt8) : Utf8.decode (T (encN c ++ rest)) 0 = (c, (encN c).length) := by
  rw [valid_nat] at hv
  rw [Lib.decode_at, T_size]
  simp only [getT, Nat.zero_add, Nat.sub_zero]
  unfold encN
  by_cases h1 : c < 128
  · simp only [if_pos h1, List.cons_append, List.nil_append, List.getD_cons_zero, List.getD_cons_succ, List.length_cons, List.length_nil]
    rw [toNat_ofNat c (by omega)]
    unfold Lib.decodeN
    rw [if_pos h1]
  by_cases h2 : c < 2048
  · simp only [if_neg h1, if_pos h2, List.cons_append, List.nil_append, List.getD_cons_zero, List.getD_cons_succ, List.length_cons, List.length_nil]
    rw [toNat_ofNat (192 + c / 64) (by omega), toNat_ofNat (128 + c % 64) (by omega)]
    unfold Lib.decodeN
    rw [if_neg (by omega), if_pos (by omega), if_pos (by omega)]
    apply Prod.ext <;> simp only <;> omega
  by_cases h3 : c < 65536
  · simp only [if_neg h1, if_neg h2, if_pos h3, List.cons_append, List.nil_append, List.getD_cons_zero, List.getD_cons_succ, List.length_cons, List.length_nil]
    rw [toNat_ofNat (224 + c / 4096) (by omega), toNat_ofNat (128 + c / 64 % 64) (by omega), toNat_ofNat (128 + c % 64) (by omega)]
    unfold Lib.decodeN
    rw [if_neg (by omega), if_neg (by omega), if_pos (by omega), if_pos (by omega)]
    apply Prod.ext <;> simp only <;> omega
  · simp only [if_neg h1, if_neg h2, if_neg h3, List.cons_append, List.nil_append, List.getD_cons_zero, List.getD_cons_succ, List.length_cons, List.length_nil]
    rw [toNat_ofNat (240 + c / 262144) (by omega), toNat_ofNat (128 + c / 4096 % 64) (by omega), toNat_ofNat (128 + c / 64 % 64) (by omega), toNat_ofNat (128 + c % 64) (by omega)]
    unfold Lib.decodeN
    rw [if_neg (by omega), if_neg (by omega), if_neg (by omega), if_pos (by omega), if_pos (by omega)]
    apply Prod.ext <;> simp only <;> omega
theorem dec_bytes0 (s : ByteArray) (h : 0 < s.size) (hb : ¬ Utf8.decode s 0 = (65533, 1)) :
    Utf8.valid ((Utf8.decode s 0).1 : Int) = true ∧ encN (Utf8.decode s 0).1 = s.data.toList.take (Utf8.decode s 0).2 := by
  have hd := Lib.decode_at s 0
  simp only [Nat.zero_add, Nat.sub_zero] at hd
  rw [hd] at hb ⊢
  clear hd
  unfold Lib.decodeN at hb ⊢
  by_cases c1 : (s.get! 0).toNat < 128
  · simp only [if_pos c1]
    rw [take_1 s (by omega)]
    exact (try1 (s.get! 0)).2 c1
  simp only [if_neg c1] at hb ⊢
  by_cases c2 : (s.get! 0).toNat / 32 = 6 ∧ (1 < s.size ∧ (s.get! 1).toNat / 64 = 2)
  · simp only [if_pos c2] at hb ⊢
    by_cases d2 : (s.get! 0).toNat % 32 * 64 + (s.get! 1).toNat % 64 ≥ 128
    · simp only [if_pos d2]
      rw [take_2 s (by omega), show (s.get! 0).toNat % 32 * 64 + (s.get! 1).toNat % 64 = 64 * ((s.get! 0).toNat % 32) + (s.get! 1).toNat % 64 by omega]
      exact (try2 (s.get! 0) (s.get! 1)).2 ⟨c2.1, c2.2.2, d2⟩
    · exact absurd (by rw [if_neg d2]) hb
  simp only [if_neg c2] at hb ⊢
  by_cases c3 : (s.get! 0).toNat / 16 = 14 ∧ (1 < s.size ∧ (s.get! 1).toNat / 64 = 2) ∧ (2 < s.size ∧ (s.get! 2).toNat / 64 = 2)
  · simp only [if_pos c3] at hb ⊢
    by_cases d3 : (s.get! 0).toNat % 16 * 4096 + (s.get! 1).toNat % 64 * 64 + (s.get! 2).toNat % 64 ≥ 2048 ∧ ((s.get! 0).toNat % 16 * 4096 + (s.get! 1).toNat % 64 * 64 + (s.get! 2).toNat % 64 < 55296 ∨ (57344 ≤ (s.get! 0).toNat % 16 * 4096 + (s.get! 1).toNat % 64 * 64 + (s.get! 2).toNat % 64 ∧ (s.get! 0).toNat % 16 * 4096 + (s.get! 1).toNat % 64 * 64 + (s.get! 2).toNat % 64 ≤ 1114111))
    · simp only [if_pos d3]
      rw [take_3 s (by omega), show (s.get! 0).toNat % 16 * 4096 + (s.get! 1).toNat % 64 * 64 + (s.get! 2).toNat % 64 = 64 * (64 * ((s.get! 0).toNat % 16) + (s.get! 1).toNat % 64) + (s.get! 2).toNat % 64 by omega]
      exact (try3 (s.get! 0) (s.get! 1) (s.get! 2)).2 ⟨c3.1, c3.2.1.2, c3.2.2.2, d3⟩
    · exact absurd (by rw [if_neg d3]) hb
  simp only [if_neg c3] at hb ⊢
  by_cases c4 : (s.get! 0).toNat / 8 = 30 ∧ (1 < s.size ∧ (s.get! 1).toNat / 64 = 2) ∧ (2 < s.size ∧ (s.get! 2).toNat / 64 = 2) ∧ (3 < s.size ∧ (s.get! 3).toNat / 64 = 2)
  · simp only [if_pos c4] at hb ⊢
    by_cases d4 : (s.get! 0).toNat % 8 * 262144 + (s.get! 1).toNat % 64 * 4096 + (s.get! 2).toNat % 64 * 64 + (s.get! 3).toNat % 64 ≥ 65536 ∧ ((s.get! 0).toNat % 8 * 262144 + (s.get! 1).toNat % 64 * 4096 + (s.get! 2).toNat % 64 * 64 + (s.get! 3).toNat % 64 < 55296 ∨ (57344 ≤ (s.get! 0).toNat % 8 * 262144 + (s.get! 1).toNat % 64 * 4096 + (s.get! 2).toNat % 64 * 64 + (s.get! 3).toNat % 64 ∧ (s.get! 0).toNat % 8 * 262144 + (s.get! 1).toNat % 64 * 4096 + (s.get! 2).toNat % 64 * 64 + (s.get! 3).toNat % 64 ≤ 1114111))
    · simp only [if_pos d4]
      rw [take_4 s (by omega), show (s.get! 0).toNat % 8 * 262144 + (s.get! 1).toNat % 64 * 4096 + (s.get! 2).toNat % 64 * 64 + (s.get! 3).toNat % 64 = 64 * (64 * (64 * ((s.get! 0).toNat % 8) + (s.get! 1).toNat % 64) + (s.get! 2).toNat % 64) + (s.get! 3).toNat % 64 by omega]
      exact (try4 (s.get! 0) (s.get! 1) (s.get! 2) (s.get! 3)).2 ⟨c4.1, c4.2.1.2, c4.2.2.1.2, c4.2.2.2.2, by omega, by omega⟩
    · exact absurd (by rw [if_neg d4]) hb
  · exact absurd (by rw [if_neg c4]) hb
theorem dec_bytes (s : ByteArray) (p : Nat) (h : p < s.size) (hb : ¬ ((Utf8.decode s p).1 = 65533 ∧ (Utf8.decode s p).2 = 1)) :
    Utf8.valid ((Utf8.decode s p).1 : Int) = true ∧ encN (Utf8.decode s p).1 = (s.data.toList.drop p).take (Utf8.decode s p).2 := by
  have hsz := size_extract s p
  have e : Utf8.decode (s.extract p s.size) 0 = Utf8.decode s p := by
    have := dec_extract s p h
    unfold Lib.decodeGo at this
    rw [if_neg (by omega)] at this
    exact this
  have := dec_bytes0 (s.extract p s.size) (by omega) (by rw [e]; intro h; exact hb ⟨by rw [h], by rw [h]⟩)
  rw [e, Lib.extract_to_end] at this
  exact this
theorem digV_hxd (d : Nat) (h : d < 16) : digV (hxd d) = (d : Int) := by
  have : ∀ d : Fin 16, digV (hxd d.val) = ((d.val : Nat) : Int) := by decide
  exact this ⟨d, h⟩
theorem hexGo_hexL (c : Nat) (rest : List UInt8) : ∀ (n v : Nat) (l : List UInt8), hexGo (T (l ++ (hexL n c ++ rest))) n l.length v = some (16 ^ n * v + c % 16 ^ n) := by
  intro n
  induction n with
  | zero => intro v l; simp [hexGo, Nat.mod_one]
  | succ n ih =>
    intro v l
    have hd : c / 16 ^ n % 16 < 16 := Nat.mod_lt _ (by omega)
    have g : (T (l ++ (hexL (n + 1) c ++ rest))).get! l.length = hxd (c / 16 ^ n % 16) := by
      rw [getT]
      simp [hexL, List.getD]
    have e := ih (16 * v + c / 16 ^ n % 16) (l ++ [hxd (c / 16 ^ n % 16)])
    rw [show l ++ [hxd (c / 16 ^ n % 16)] ++ (hexL n c ++ rest) = l ++ (hexL (n + 1) c ++ rest) by simp [hexL], List.length_append, List.length_singleton] at e
    simp only [hexGo]
    rw [g, digV_hxd _ hd, if_neg (by omega), Int.toNat_natCast, e]
    congr 1
    have h1 : c % 16 ^ (n + 1) = c % 16 ^ n + 16 ^ n * (c / 16 ^ n % 16) := by rw [Nat.pow_succ, Nat.mod_mul]
    rw [h1, Nat.pow_succ, Nat.mul_add]
    have h2 : 16 ^ n * (16 * v) = 16 ^ n * 16 * v := by rw [Nat.mul_assoc]
    rw [h2]
    generalize 16 ^ n * 16 * v = A
    generalize 16 ^ n * (c / 16 ^ n % 16) = B
    generalize c % 16 ^ n = C
    omega
theorem idx_letter (d : Nat) (h : d < 7) : Lib.indexByte lettersL (lettr d) = (d : Int) ∧ lettr d ≠ 34 ∧ lettr d ≠ 92 := by
  have : ∀ d : Fin 7, Lib.indexByte lettersL (lettr d.val) = ((d.val : Nat) : Int) ∧ lettr d.val ≠ 34 ∧ lettr d.val ≠ 92 := by decide
  exact this ⟨d, h⟩
theorem one_hex (x : UInt8) (n c : Nat) (rest : List UInt8) (hx : x ≠ 34 ∧ x ≠ 92 ∧ ¬ 0 ≤ Lib.indexByte lettersL x) (hw : widthOf (x.toNat) = (n : Int)) (hn : n ≠ 0) (hc : c < 16 ^ n) :
    oneB (T (([92, x] ++ hexL n c) ++ rest)) = if n = 2 then (T [UInt8.ofNat c], 4) else (T (enc (wrap32 (c : Int))), 2 + (n : Int)) := by
  have g0 : (T (([92, x] ++ hexL n c) ++ rest)).get! 0 = 92 := by rw [getT]; rfl
  have g1 : (T (([92, x] ++ hexL n c) ++ rest)).get! 1 = x := by rw [getT]; rfl
  have sz : (T (([92, x] ++ hexL n c) ++ rest)).size = 2 + n + rest.length := by rw [T_size]; simp [hexL_length]; omega
  have hh := hexGo_hexL c rest n 0 [92, x]
  rw [Nat.mul_zero, Nat.zero_add, Nat.mod_eq_of_lt hc] at hh
  have el : ([92, x] ++ hexL n c) ++ rest = [92, x] ++ (hexL n c ++ rest) := List.append_assoc _ _ _
  have h2 : ([92, x] : List UInt8).length = 2 := rfl
  rw [h2, ← el] at hh
  unfold oneB
  rw [if_neg (by rw [g0]; simp), if_neg (by omega), g1, if_neg (by rintro (h | h); exact hx.1 h; exact hx.2.1 h), if_neg hx.2.2, hw, if_neg (by omega), Int.toNat_natCast, hh]
  by_cases h : n = 2
  · simp only [if_pos h]; rw [if_pos (by omega)]
  · simp only [if_neg h]; rw [if_neg (by omega)]
theorem one_esc (x : UInt8) (rest : List UInt8) (hx : x = 34 ∨ x = 92) : oneB (T ([92, x] ++ rest)) = (T [x], 2) := by
  have g0 : (T ([92, x] ++ rest)).get! 0 = 92 := by rw [getT]; rfl
  have g1 : (T ([92, x] ++ rest)).get! 1 = x := by rw [getT]; rfl
  have sz : (T ([92, x] ++ rest)).size = 2 + rest.length := by rw [T_size]; simp; omega
  unfold oneB
  rw [if_neg (by rw [g0]; simp), if_neg (by omega), g1, if_pos hx, extT]
  rfl
theorem one_letter (d : Nat) (h : d < 7) (rest : List UInt8) : oneB (T ([92, lettr d] ++ rest)) = (T [UInt8.ofNat (7 + d)], 2) := by
  obtain ⟨i1, i2, i3⟩ := idx_letter d h
  have g0 : (T ([92, lettr d] ++ rest)).get! 0 = 92 := by rw [getT]; rfl
  have g1 : (T ([92, lettr d] ++ rest)).get! 1 = lettr d := by rw [getT]; rfl
  have sz : (T ([92, lettr d] ++ rest)).size = 2 + rest.length := by rw [T_size]; simp; omega
  unfold oneB
  rw [if_neg (by rw [g0]; simp), if_neg (by omega), g1, if_neg (by rintro (h | h); exact i2 h; exact i3 h), i1, if_pos (by omega), Int.toNat_natCast]
theorem encN_first (c : Nat) (hc : c ≤ 1114111) (h : c ≠ 92) : ∃ a l, encN c = a :: l ∧ a ≠ 92 := by
  have key : ∀ x : Nat, x < 256 → x ≠ 92 → UInt8.ofNat x ≠ 92 := fun x hx h e => by
    have := congrArg UInt8.toNat e
    rw [toNat_ofNat x hx] at this
    exact h this
  unfold encN
  by_cases h1 : c < 128
  · rw [if_pos h1]; exact ⟨_, _, rfl, key c (by omega) h⟩
  by_cases h2 : c < 2048
  · rw [if_neg h1, if_pos h2]; exact ⟨_, _, rfl, key _ (by omega) (by omega)⟩
  by_cases h3 : c < 65536
  · rw [if_neg h1, if_neg h2, if_pos h3]; exact ⟨_, _, rfl, key _ (by omega) (by omega)⟩
  · rw [if_neg h1, if_neg h2, if_neg h3]; exact ⟨_, _, rfl, key _ (by omega) (by omega)⟩
theorem one_plain (c : Nat) (hv : Utf8.valid (c : Int) = true) (h1 : c ≠ 92) (h2 : c ≠ 34) (rest : List UInt8) : oneB (T (encN c ++ rest)) = (T (encN c), ((encN c).length : Int)) := by
  have hv' := (valid_nat c).1 hv
  obtain ⟨a, l, ea, hne⟩ := encN_first c (by omega) h1
  have g0 : (T (encN c ++ rest)).get! 0 = a := by rw [getT, ea]; rfl
  have hd := dec_enc c hv rest
  unfold oneB
  rw [if_pos (by rw [g0]; exact hne), hd, if_neg, extT]
  · simp
  · rintro (⟨h3, h4⟩ | h)
    · simp only at h3 h4
      subst h3
      revert h4; decide
    · exact h2 h
theorem cases_x (x : UInt8) (h : x = 120 ∨ x = 117 ∨ x = 85) : x ≠ 34 ∧ x ≠ 92 ∧ ¬ 0 ≤ Lib.indexByte lettersL x := by
  rcases h with rfl | rfl | rfl <;> decide
theorem one_part (s : ByteArray) (asc : Bool) (p : Nat) (hp : p < s.size) (rest : List UInt8) :
    oneB (T (part s asc p ++ rest)) = (T ((s.data.toList.drop p).take (Utf8.decode s p).2), ((part s asc p).length : Int)) := by
  have hg : (s.data.toList.drop p).take 1 = [s.get! p] := by
    have := take_1 (s.extract p s.size) (by rw [size_extract]; omega)
    rw [Lib.extract_to_end, get_extract] at this
    exact this
  by_cases hb : (Utf8.decode s p).1 = 65533 ∧ (Utf8.decode s p).2 = 1
  · have e : part s asc p = [92, 120] ++ hexL 2 (s.get! p).toNat := by unfold part; rw [if_pos hb]
    have hlt := bt_lt s p
    have := one_hex 120 2 (s.get! p).toNat rest (cases_x 120 (.inl rfl)) (by decide) (by omega) (by omega)
    rw [e, this, if_pos rfl, hb.2, hg]
    simp [hexL_length]
  · obtain ⟨hv, he⟩ := dec_bytes s p hp hb
    have e : part s asc p = putL (Utf8.decode s p).1 34 asc := by unfold part; rw [if_neg hb]
    rw [e, ← he]
    have hle := dec_small s p
    generalize (Utf8.decode s p).1 = c at hv hle ⊢
    have hv' := (valid_nat c).1 hv
    have e1 : c < 128 → encN c = [UInt8.ofNat c] := fun h => by unfold encN; rw [if_pos h]
    have een : enc (c : Int) = encN c := by unfold enc; rw [if_pos hv, Int.toNat_natCast]
    have ew : enc (wrap32 (c : Int)) = encN c := by rw [wrap32_id (by omega) (by omega), een]
    unfold putL
    by_cases h1 : c = 34 ∨ c = 92
    · rw [if_pos h1, one_esc (UInt8.ofNat c) rest (by rcases h1 with rfl | rfl; exact .inl rfl; exact .inr rfl), e1 (by omega)]
      rfl
    rw [if_neg h1]
    by_cases h2 : 7 ≤ c ∧ c ≤ 13
    · rw [if_pos h2, one_letter (c - 7) (by omega) rest, e1 (by omega), show 7 + (c - 7) = c by omega]
      rfl
    rw [if_neg h2]
    by_cases h3 : (32 ≤ c ∧ c ≤ 126) ∨ (asc = false ∧ plainP c = true)
    · rw [if_pos h3, een, one_plain c hv (by omega) (by omega) rest]
    rw [if_neg h3]
    by_cases h4 : c < 128
    · have := one_hex 120 2 c rest (cases_x 120 (.inl rfl)) (by decide) (by omega) (by omega)
      rw [if_pos h4, this, if_pos rfl, e1 h4]
      simp [hexL_length]
    rw [if_neg h4]
    by_cases h5 : c ≤ 65535
    · have := one_hex 117 4 c rest (cases_x 117 (.inr (.inl rfl))) (by decide) (by omega) (by omega)
      rw [if_pos h5, this, if_neg (by omega), ew]
      simp [hexL_length]
    · have := one_hex 85 8 c rest (cases_x 85 (.inr (.inr rfl))) (by decide) (by omega) (by omega)
      rw [if_neg h5, this, if_neg (by omega), ew]
      simp [hexL_length]
theorem dec_le (s : ByteArray) (p : Nat) (hp : p < s.size) : p + (Utf8.decode s p).2 ≤ s.size := by
  have hsz := size_extract s p
  have e := dec_extract s p hp
  unfold Lib.decodeGo at e
  rw [if_neg (by omega)] at e
  have := decB_le (s.extract p s.size)
  unfold decB at this
  rw [if_neg (by omega), e] at this
  omega
theorem drop_take (l : List UInt8) (p w : Nat) : (l.drop p).take w ++ l.drop (p + w) = l.drop p := by
  rw [← List.drop_drop, List.take_append_drop]
theorem unqGo_back (s : ByteArray) (asc : Bool) : ∀ (f p g : Nat) (l : List UInt8), s.size ≤ p + f → (qparts s asc f p).length ≤ g → unqGo g (T (qparts s asc f p)) l = some (l ++ s.data.toList.drop p) := by
  intro f
  induction f with
  | zero =>
    intro p g l h1 _
    rw [unqGo_end _ _ _ (by simp [qparts, T_size]), List.drop_eq_nil_of_le (by rw [← Lib.size_eq]; omega), List.append_nil]
  | succ f ih =>
    intro p g l h1 h2
    by_cases hp : p < s.size
    · have hq : qparts s asc (f + 1) p = part s asc p ++ qparts s asc f (p + (Utf8.decode s p).2) := by rw [qparts, if_pos hp]
      obtain ⟨l1, l2⟩ := part_length s asc p
      rw [hq, List.length_append] at h2
      have hw := dec_pos s p hp
      obtain ⟨g, rfl⟩ : ∃ g', g = g' + 1 := ⟨g - 1, by omega⟩
      rw [hq]
      simp only [unqGo]
      rw [if_neg (by rw [T_size, List.length_append]; omega), one_part s asc p hp]
      simp only []
      rw [if_neg (by omega), Int.toNat_natCast, extT, T_size, List.take_length, List.drop_left, ih _ g _ (by omega) (by omega), List.append_assoc, drop_take]
    · rw [qparts, if_neg hp, unqGo_end _ _ _ (by simp [T_size]), List.drop_eq_nil_of_le (by rw [← Lib.size_eq]; omega), List.append_nil]
theorem quoteB_length (s : ByteArray) (asc : Bool) : (quoteB s asc).length = (qparts s asc s.size 0).length + 2 := by
  unfold quoteB; simp
theorem Unquote_back (s : ByteArray) (asc : Bool) (hs : s.size ≤ 10000) : quote_Unquote.f (T (quoteB s asc)) = some (s, true) := by
  have hl := qparts_length s asc s.size 0
  have hL := quoteB_length s asc
  have hz : (T (quoteB s asc)).size = (qparts s asc s.size 0).length + 2 := by rw [T_size, hL]
  have g0 : (T (quoteB s asc)).get! 0 = 34 := by rw [getT]; rfl
  have g1 : (T (quoteB s asc)).get! ((T (quoteB s asc)).size - 1) = 34 := by
    rw [getT, hz]
    unfold quoteB
    rw [show (qparts s asc s.size 0).length + 2 - 1 = ([34] ++ qparts s asc s.size 0).length by simp]
    simp [List.getD]
  have ex : (T (quoteB s asc)).extract 1 ((T (quoteB s asc)).size - 1) = T (qparts s asc s.size 0) := by
    rw [extT, hz]
    unfold quoteB
    rw [show (qparts s asc s.size 0).length + 2 - 1 = ([34] ++ qparts s asc s.size 0).length by simp, List.take_left]
    rfl
  have hu := unqGo_back s asc s.size 0 (T (quoteB s asc)).size [] (by omega) (by rw [hz]; omega)
  rw [List.nil_append, List.drop_zero] at hu
  unfold quote_Unquote.f
  rw [if_pos (by omega), if_neg (by rw [g0, g1]; rintro (h | h | h); omega; exact h rfl; exact h rfl), ex, hu]
  simp only []
  rw [T_self, Quote_f s false (by omega), Option.bind_some, Quote_f s true (by omega), Option.bind_some, if_neg]
  rintro ⟨h1, h2⟩
  cases asc
  · exact h1 rfl
  · exact h2 rfl
end Go.Proofs.YtcoippikicikoaaDoor
namespace Go.Proofs.YtcoippikicikoaaDoor.PQBack
open Go.RowKit Go.Proofs.YtcoippikicikoaaDoorW.PrintWords Go.Proofs.YtcoippikicikoaaDoorW.PrintLast Go.Proofs.YtcoippikicikoaaDoorW.PrintMore
attribute [local go_sem] max2_int min2_int max_two min_two
set_option linter.unusedVariables false
set_option linter.unusedSimpArgs false
def errW : Option Int → Value
 | none => .nilIface
 | some c => .iface 0 (.int .i64 c)
theorem errW_none : errW none = .nilIface := rfl
theorem errW_some (c : Int) : errW (some c) = .iface 0 (.int .i64 c) := rfl
end Go.Proofs.YtcoippikicikoaaDoor.PQBack
namespace Go.Proofs.YtcoippikicikoaaDoor.PQBack
open Go.RowKit Go.Proofs.YtcoippikicikoaaDoorW.PrintWords Go.Proofs.YtcoippikicikoaaDoorW.PrintLast Go.Proofs.YtcoippikicikoaaDoorW.PrintMore
attribute [local go_sem] max2_int min2_int max_two min_two
set_option linter.unusedVariables false
set_option linter.unusedSimpArgs false
end Go.Proofs.YtcoippikicikoaaDoor.PQBack
namespace Go.Proofs.YtcoippikicikoaaDoor.PQBack
open Go.RowKit Go.Proofs.YtcoippikicikoaaDoorW.PrintWords Go.Proofs.YtcoippikicikoaaDoorW.PrintLast Go.Proofs.YtcoippikicikoaaDoorW.PrintMore
attribute [local go_sem] max2_int min2_int max_two min_two
set_option linter.unusedVariables false
set_option linter.unusedSimpArgs false
end Go.Proofs.YtcoippikicikoaaDoor.PQBack
namespace Go.Proofs.YtcoippikicikoaaDoor
open Go.RowKit Go.Proofs.YtcoippikicikoaaDoorW.PrintWords Go.Proofs.YtcoippikicikoaaDoorW.PrintMore Go.Proofs.YtcoippikicikoaaDoor.PQRef
theorem part_ge (s : ByteArray) (asc : Bool) (p : Nat) (hp : p < s.size) : (Utf8.decode s p).2 ≤ (part s asc p).length := by
  by_cases hb : (Utf8.decode s p).1 = 65533 ∧ (Utf8.decode s p).2 = 1
  · have := (part_length s asc p).1
    omega
  · obtain ⟨hv, he⟩ := dec_bytes s p hp hb
    have hw : (encN (Utf8.decode s p).1).length = (Utf8.decode s p).2 := by
      have := dec_le s p hp
      rw [he, List.length_take, List.length_drop, ← Lib.size_eq]; omega
    have e : part s asc p = putL (Utf8.decode s p).1 34 asc := by unfold part; rw [if_neg hb]
    rw [e, ← hw]
    generalize (Utf8.decode s p).1 = c at hv ⊢
    have een : enc (c : Int) = encN c := by unfold enc; rw [if_pos hv, Int.toNat_natCast]
    have h4 := encN_length c
    have e1 : c < 128 → (encN c).length = 1 := fun h => by unfold encN; rw [if_pos h]; rfl
    unfold putL
    rw [een]
    by_cases h1 : c = 34 ∨ c = 92
    · rw [if_pos h1, e1 (by omega)]; simp
    rw [if_neg h1]
    by_cases h2 : 7 ≤ c ∧ c ≤ 13
    · rw [if_pos h2, e1 (by omega)]; simp
    rw [if_neg h2]
    by_cases h3 : (32 ≤ c ∧ c ≤ 126) ∨ (asc = false ∧ plainP c = true)
    · rw [if_pos h3]; exact Nat.le_refl _
    rw [if_neg h3]
    by_cases h4 : c < 128
    · rw [if_pos h4, e1 h4]; simp
    rw [if_neg h4]
    by_cases h5 : c ≤ 65535
    · rw [if_pos h5]; simp [hexL_length]; omega
    · rw [if_neg h5]; simp [hexL_length]; omega
theorem qparts_ge (s : ByteArray) (asc : Bool) : ∀ f p, s.size ≤ p + f → s.size ≤ p + (qparts s asc f p).length := by
  intro f
  induction f with
  | zero => intro p h; omega
  | succ f ih =>
    intro p h
    unfold qparts
    by_cases hp : p < s.size
    · have h1 := part_ge s asc p hp
      have h2 := dec_pos s p hp
      have h3 := ih (p + (Utf8.decode s p).2) (by omega)
      rw [if_pos hp, List.length_append]; omega
    · omega
theorem quoteB_ge (s : ByteArray) (asc : Bool) : s.size + 2 ≤ (quoteB s asc).length := by
  have := qparts_ge s asc s.size 0 (by omega)
  rw [quoteB_length]; omega
theorem cut_f (a0 : ByteArray) : ∃ t, platenlaw02_cut.f a0 = some t ∧ t.size ≤ 1000 := by
  unfold platenlaw02_cut.f
  by_cases h : (a0.size : Int) > 1000
  · rw [if_pos h, if_pos (by omega), if_pos (by omega)]
    exact ⟨_, rfl, by rw [ByteArray.size_extract]; omega⟩
  · rw [if_neg h]
    exact ⟨a0, rfl, by omega⟩
end Go.Proofs.YtcoippikicikoaaDoor
namespace Go.Proofs.YtcoippikicikoaaDoor.PQReads
open Go.RowKit Go.Proofs.YtcoippikicikoaaDoorW.PrintWords Go.Proofs.YtcoippikicikoaaDoorW.PrintLast Go.Proofs.YtcoippikicikoaaDoorW.PrintMore
attribute [local go_sem] max2_int min2_int max_two min_two
set_option linter.unusedVariables false
set_option linter.unusedSimpArgs false
def errW : Option Int → Value
 | none => .nilIface
 | some c => .iface 0 (.int .i64 c)
theorem errW_none : errW none = .nilIface := rfl
theorem errW_some (c : Int) : errW (some c) = .iface 0 (.int .i64 c) := rfl
end Go.Proofs.YtcoippikicikoaaDoor.PQReads
namespace Go.Proofs.YtcoippikicikoaaDoor.PQReads
open Go.RowKit Go.Proofs.YtcoippikicikoaaDoorW.PrintWords Go.Proofs.YtcoippikicikoaaDoorW.PrintLast Go.Proofs.YtcoippikicikoaaDoorW.PrintMore
attribute [local go_sem] max2_int min2_int max_two min_two
set_option linter.unusedVariables false
set_option linter.unusedSimpArgs false
def platenlaw02_QuoteReads.f (k : Nat) (a0 : ByteArray) : Option (Bool) := (PQRef.platenlaw02_cut.f a0).bind fun t101 => ((quote_Unquote.f t101).bind fun bt102 => ((PQRef.platenref02_Unquote.f k t101).bind fun bt104 => (if bt102.1.toList = bt104.1.toList then (if (bt102.2 == bt104.2) = true then ((PQGen.platenlaw02_lives.f k).bind fun t106 => (some t106)) else (some false)) else (some false))))
set_option maxHeartbeats 8000000 in
set_option maxRecDepth 100000 in
theorem platenlaw02_QuoteReads.calls (k : Nat) (a0 : ByteArray) (r : Bool) (w : World) (hOK : Aside0 (Ok w)) (h : platenlaw02_QuoteReads.f k a0 = some r) :
 Calls Tryd.prog 3 #[.string a0] w fun e w' => e = .returned (.bool r) ∧ Below w.heap.size w w' := by
 have HB := Aside0.mk (Below.refl w.heap.size w)
 have H : ((PQRef.platenlaw02_cut.f a0).bind fun t101 => ((quote_Unquote.f t101).bind fun bt102 => ((PQRef.platenref02_Unquote.f k t101).bind fun bt104 => (if bt102.1.toList = bt104.1.toList then (if (bt102.2 == bt104.2) = true then ((PQGen.platenlaw02_lives.f k).bind fun t106 => (some t106)) else (some false)) else (some false))))) = some r := h
 clear h
 replace H := Option.bind_eq_some_iff.mp H
 obtain ⟨t101, A20, H⟩ := H
 replace H : ((quote_Unquote.f t101).bind fun bt102 => ((PQRef.platenref02_Unquote.f k t101).bind fun bt104 => (if bt102.1.toList = bt104.1.toList then (if (bt102.2 == bt104.2) = true then ((PQGen.platenlaw02_lives.f k).bind fun t106 => (some t106)) else (some false)) else (some false)))) = some r := H
 have A2 := Aside0.mk A20
 clear A20
 replace H := Option.bind_eq_some_iff.mp H
 obtain ⟨⟨t102, t103⟩, A30, H⟩ := H
 replace H : ((PQRef.platenref02_Unquote.f k t101).bind fun bt104 => (if t102.toList = bt104.1.toList then (if (t103 == bt104.2) = true then ((PQGen.platenlaw02_lives.f k).bind fun t106 => (some t106)) else (some false)) else (some false))) = some r := H
 have A3 := Aside0.mk A30
 clear A30
 replace H := Option.bind_eq_some_iff.mp H
 obtain ⟨⟨t104, t105⟩, A40, H⟩ := H
 replace H : (if t102.toList = t104.toList then (if (t103 == t105) = true then ((PQGen.platenlaw02_lives.f k).bind fun t106 => (some t106)) else (some false)) else (some false)) = some r := H
 have A4 := Aside0.mk A40
 clear A40
 by_cases c5 : t102.toList = t104.toList
 ·
  rw [if_pos c5] at H
  have c5b0 : (t102.toList == t104.toList) = true := beq_iff_eq.mpr c5
  have c5b1 : (t102.toList != t104.toList) = false := bne_eq_false_iff_eq.mpr c5
  clear c5
  by_cases c6 : (t103 == t105) = true
  ·
   rw [if_pos c6] at H
   have c6b0 : (t103 == t105) = true := c6
   (try (have c6b1 : decide (t103 = t105) = true := by simpa using c6))
   (try (have c6b2 : (t103 == t105) = true := by simpa using c6))
   clear c6
   replace H := Option.bind_eq_some_iff.mp H
   obtain ⟨t106, A70, H⟩ := H
   replace H : (some t106) = some r := H
   have A7 := Aside0.mk A70
   clear A70
   obtain rfl := Option.some.inj H
   go_enter Tryd.func3, Tryd.ntmps3
   go_wp2_with (first | ((with_reducible refine gate_callee (f := 11) rfl ?_); refine goesL_ (some 8) rfl rfl Tryd.func11 (by kernel_rfl) rfl #[.string a0] rfl (by (try simp only [List.map_toArray, List.map_cons, List.map_nil]); first | done | rfl | (simp only [List.length_drop, List.length_take]; rfl)) ?_; (with_reducible refine (PQRef.platenlaw02_cut.calls a0 t101 _ A2.out).mono ?_); rintro e w' ⟨rfl, ⟨nd, rfl⟩⟩; refine ⟨_, rfl, ?_⟩) | ((with_reducible refine gate_callee (f := 12) rfl ?_); refine goesL_ (some 11) rfl rfl Tryd.func12 (by kernel_rfl) rfl #[.string t101] rfl (by (try simp only [List.map_toArray, List.map_cons, List.map_nil]); first | done | rfl | (simp only [List.length_drop, List.length_take]; rfl)) ?_; (with_reducible refine (quote_Unquote.calls t101 t102 t103 _ (by (try refine Aside0.mk ?_); first | exact hOK.out | exact (hOK.out).drewN _ | (refine (hOK.out).later ?_; (repeat (first | (with_reducible first | exact HB.out | apply below_alloc | apply pw_below_drewN | apply below_drew1) | exact HB.out))) | (refine Ok.drewN ?_ _; exact hOK.out)) A3.out).mono ?_); rintro e w8 ⟨rfl, hb⟩; refine ⟨_, rfl, ?_⟩; have n0_ := Aside0.mk (below_step (by repeat (first | (with_reducible first | exact HB.out | apply below_alloc | apply pw_below_drewN | apply below_drew1) | exact HB.out)) hb); clear HB; have HB := n0_; clear n0_; (try clear hb); (try clear hb2); (try clear hk); (try clear hi)) | ((with_reducible refine gate_callee (f := 13) rfl ?_); refine goesL_ (some 16) rfl rfl Tryd.func13 (by kernel_rfl) rfl #[.string t101] rfl (by (try simp only [List.map_toArray, List.map_cons, List.map_nil]); first | done | rfl | (simp only [List.length_drop, List.length_take]; rfl)) ?_; (with_reducible refine (PQRef.platenref02_Unquote.calls k t101 t104 t105 _ A4.out).mono ?_); rintro e w9 ⟨rfl, hb⟩; refine ⟨_, rfl, ?_⟩; have n0_ := Aside0.mk (below_step (by repeat (first | (with_reducible first | exact HB.out | apply below_alloc | apply pw_below_drewN | apply below_drew1) | exact HB.out)) hb); clear HB; have HB := n0_; clear n0_; (try clear hb); (try clear hb2); (try clear hk); (try clear hi)) | (go_at_call 14; (with_reducible refine (PQGen.platenlaw02_lives.calls k  t106 _ (by (try refine Aside0.mk ?_); first | exact hOK.out | exact (hOK.out).drewN _ | (refine (hOK.out).later ?_; (repeat (first | (with_reducible first | exact HB.out | apply below_alloc | apply pw_below_drewN | apply below_drew1) | exact HB.out))) | (refine Ok.drewN ?_ _; exact hOK.out)) A7.out).mono ?_); rintro e w10 ⟨rfl, hb⟩; have n0_ := Aside0.mk (below_step (by repeat (first | (with_reducible first | exact HB.out | apply below_alloc | apply pw_below_drewN | apply below_drew1) | exact HB.out)) hb); clear HB; have HB := n0_; clear n0_; (try clear hb); (try clear hb2); (try clear hk); (try clear hi)))
   go_ret
   exact ⟨by first | rfl | (simp [errW_none, errW_some] <;> rfl) | (simp [*, errW_none, errW_some] <;> rfl), by repeat (first | (with_reducible first | exact HB.out | apply below_alloc | apply pw_below_drewN | apply below_drew1) | exact HB.out)⟩
  ·
   rw [if_neg c6] at H
   have c6b0 : (t103 == t105) = false := by simpa using c6
   (try (have c6b1 : decide (t103 = t105) = false := by simpa using c6))
   (try (have c6b2 : (t103 == t105) = false := by simpa using c6))
   (try (have c6b3 : ¬ (t103 = t105) := by simpa using c6))
   clear c6
   obtain rfl := Option.some.inj H
   go_enter Tryd.func3, Tryd.ntmps3
   go_wp2_with (first | ((with_reducible refine gate_callee (f := 11) rfl ?_); refine goesL_ (some 8) rfl rfl Tryd.func11 (by kernel_rfl) rfl #[.string a0] rfl (by (try simp only [List.map_toArray, List.map_cons, List.map_nil]); first | done | rfl | (simp only [List.length_drop, List.length_take]; rfl)) ?_; (with_reducible refine (PQRef.platenlaw02_cut.calls a0 t101 _ A2.out).mono ?_); rintro e w' ⟨rfl, ⟨nd, rfl⟩⟩; refine ⟨_, rfl, ?_⟩) | ((with_reducible refine gate_callee (f := 12) rfl ?_); refine goesL_ (some 11) rfl rfl Tryd.func12 (by kernel_rfl) rfl #[.string t101] rfl (by (try simp only [List.map_toArray, List.map_cons, List.map_nil]); first | done | rfl | (simp only [List.length_drop, List.length_take]; rfl)) ?_; (with_reducible refine (quote_Unquote.calls t101 t102 t103 _ (by (try refine Aside0.mk ?_); first | exact hOK.out | exact (hOK.out).drewN _ | (refine (hOK.out).later ?_; (repeat (first | (with_reducible first | exact HB.out | apply below_alloc | apply pw_below_drewN | apply below_drew1) | exact HB.out))) | (refine Ok.drewN ?_ _; exact hOK.out)) A3.out).mono ?_); rintro e w11 ⟨rfl, hb⟩; refine ⟨_, rfl, ?_⟩; have n0_ := Aside0.mk (below_step (by repeat (first | (with_reducible first | exact HB.out | apply below_alloc | apply pw_below_drewN | apply below_drew1) | exact HB.out)) hb); clear HB; have HB := n0_; clear n0_; (try clear hb); (try clear hb2); (try clear hk); (try clear hi)) | ((with_reducible refine gate_callee (f := 13) rfl ?_); refine goesL_ (some 16) rfl rfl Tryd.func13 (by kernel_rfl) rfl #[.string t101] rfl (by (try simp only [List.map_toArray, List.map_cons, List.map_nil]); first | done | rfl | (simp only [List.length_drop, List.length_take]; rfl)) ?_; (with_reducible refine (PQRef.platenref02_Unquote.calls k t101 t104 t105 _ A4.out).mono ?_); rintro e w12 ⟨rfl, hb⟩; refine ⟨_, rfl, ?_⟩; have n0_ := Aside0.mk (below_step (by repeat (first | (with_reducible first | exact HB.out | apply below_alloc | apply pw_below_drewN | apply below_drew1) | exact HB.out)) hb); clear HB; have HB := n0_; clear n0_; (try clear hb); (try clear hb2); (try clear hk); (try clear hi)))
   go_ret
   exact ⟨by first | rfl | (simp [errW_none, errW_some] <;> rfl) | (simp [*, errW_none, errW_some] <;> rfl), by repeat (first | (with_reducible first | exact HB.out | apply below_alloc | apply pw_below_drewN | apply below_drew1) | exact HB.out)⟩
 ·
  rw [if_neg c5] at H
  have c5b0 : (t102.toList == t104.toList) = false := beq_eq_false_iff_ne.mpr c5
  have c5b1 : (t102.toList != t104.toList) = true := bne_iff_ne.mpr c5
  obtain rfl := Option.some.inj H
  go_enter Tryd.func3, Tryd.ntmps3
  go_wp2_with (first | ((with_reducible refine gate_callee (f := 11) rfl ?_); refine goesL_ (some 8) rfl rfl Tryd.func11 (by kernel_rfl) rfl #[.string a0] rfl (by (try simp only [List.map_toArray, List.map_cons, List.map_nil]); first | done | rfl | (simp only [List.length_drop, List.length_take]; rfl)) ?_; (with_reducible refine (PQRef.platenlaw02_cut.calls a0 t101 _ A2.out).mono ?_); rintro e w' ⟨rfl, ⟨nd, rfl⟩⟩; refine ⟨_, rfl, ?_⟩) | ((with_reducible refine gate_callee (f := 12) rfl ?_); refine goesL_ (some 11) rfl rfl Tryd.func12 (by kernel_rfl) rfl #[.string t101] rfl (by (try simp only [List.map_toArray, List.map_cons, List.map_nil]); first | done | rfl | (simp only [List.length_drop, List.length_take]; rfl)) ?_; (with_reducible refine (quote_Unquote.calls t101 t102 t103 _ (by (try refine Aside0.mk ?_); first | exact hOK.out | exact (hOK.out).drewN _ | (refine (hOK.out).later ?_; (repeat (first | (with_reducible first | exact HB.out | apply below_alloc | apply pw_below_drewN | apply below_drew1) | exact HB.out))) | (refine Ok.drewN ?_ _; exact hOK.out)) A3.out).mono ?_); rintro e w13 ⟨rfl, hb⟩; refine ⟨_, rfl, ?_⟩; have n0_ := Aside0.mk (below_step (by repeat (first | (with_reducible first | exact HB.out | apply below_alloc | apply pw_below_drewN | apply below_drew1) | exact HB.out)) hb); clear HB; have HB := n0_; clear n0_; (try clear hb); (try clear hb2); (try clear hk); (try clear hi)) | ((with_reducible refine gate_callee (f := 13) rfl ?_); refine goesL_ (some 16) rfl rfl Tryd.func13 (by kernel_rfl) rfl #[.string t101] rfl (by (try simp only [List.map_toArray, List.map_cons, List.map_nil]); first | done | rfl | (simp only [List.length_drop, List.length_take]; rfl)) ?_; (with_reducible refine (PQRef.platenref02_Unquote.calls k t101 t104 t105 _ A4.out).mono ?_); rintro e w14 ⟨rfl, hb⟩; refine ⟨_, rfl, ?_⟩; have n0_ := Aside0.mk (below_step (by repeat (first | (with_reducible first | exact HB.out | apply below_alloc | apply pw_below_drewN | apply below_drew1) | exact HB.out)) hb); clear HB; have HB := n0_; clear n0_; (try clear hb); (try clear hb2); (try clear hk); (try clear hi)))
  go_ret
  exact ⟨by first | rfl | (simp [errW_none, errW_some] <;> rfl) | (simp [*, errW_none, errW_some] <;> rfl), by repeat (first | (with_reducible first | exact HB.out | apply below_alloc | apply pw_below_drewN | apply below_drew1) | exact HB.out)⟩
end Go.Proofs.YtcoippikicikoaaDoor.PQReads
namespace Go.Proofs.YtcoippikicikoaaDoor.PQReads
open Go.RowKit Go.Proofs.YtcoippikicikoaaDoorW.PrintWords Go.Proofs.YtcoippikicikoaaDoorW.PrintLast Go.Proofs.YtcoippikicikoaaDoorW.PrintMore
attribute [local go_sem] max2_int min2_int max_two min_two
set_option linter.unusedVariables false
set_option linter.unusedSimpArgs false
end Go.Proofs.YtcoippikicikoaaDoor.PQReads
namespace Go.Proofs.YtcoippikicikoaaDoor
open Go.RowKit Go.Proofs.YtcoippikicikoaaDoorW.PrintWords Go.Proofs.YtcoippikicikoaaDoorW.PrintMore Go.Proofs.YtcoippikicikoaaDoor.PQRef
theorem digV_all : ∀ n : Fin 256, digV (UInt8.ofNat n.val) = -1 ∨ UInt8.ofNat n.val = hxd (digV (UInt8.ofNat n.val)).toNat := by decide +kernel
theorem digV_inv (b : UInt8) (h : 0 ≤ digV b) : b = hxd (digV b).toNat := by
  have e : UInt8.ofNat b.toNat = b := UInt8.toNat_inj.1 (by rw [UInt8.toNat_ofNat']; have := b.toNat_lt; omega)
  have := digV_all ⟨b.toNat, b.toNat_lt⟩
  simp only [e] at this
  exact this.resolve_left (by omega)
theorem digV_iff (b : UInt8) (j : Nat) (hj : j < 16) : b = hxd j ↔ digV b = (j : Int) := by
  constructor
  · rintro rfl; exact digV_hxd j hj
  · intro h
    have := digV_inv b (by omega)
    rw [h, Int.toNat_natCast] at this
    exact this
def valGo : Nat → List UInt8 → Nat → Option Nat
  | 0, _, v => some v
  | _ + 1, [], _ => none
  | n + 1, b :: l, v => if digV b < 0 ∨ 1114111 < v then none else valGo n l (16 * v + (digV b).toNat)
def valI : Option Nat → Int
  | none => -1
  | some v => v
theorem value_in (n v i : Nat) (l : List UInt8) (b : UInt8) (l' : List UInt8) (hl : l.drop i = b :: l') (hi : i < 100) (hv : v ≤ 100000000) : ∀ (m j k : Nat) (x7 : Int), j + m = 16 → m + 1 ≤ k → (x7 = -1 ∨ (x7 = digV b ∧ digV b < (j : Int) ∧ 0 ≤ digV b)) → (x7 = -1 → digV b < (j : Int) → digV b < 0) →
    platenref02_value.l1 k (T l) (n : Int) (v : Int) (i : Int) x7 (j : Int) = if digV b < 0 ∨ 1114111 < v then some (-1) else platenref02_value.l0 (k - m - 1) (T l) (n : Int) ((16 * v + (digV b).toNat : Nat) : Int) ((i + 1 : Nat) : Int) := by
  intro m
  have hr := digV_range b
  have hlen : i + 1 ≤ l.length := by
    have := congrArg List.length hl
    rw [List.length_drop, List.length_cons] at this; omega
  induction m with
  | zero =>
    intro j k x7 hj hk h1 h2
    obtain ⟨k, rfl⟩ : ∃ k', k = k' + 1 := ⟨k - 1, by omega⟩
    have hx : x7 = digV b := by
      rcases h1 with h | h
      · have := h2 h (by omega); omega
      · exact h.1
    simp only [platenref02_value.l1]
    rw [if_neg (by omega), hx]
    by_cases c1 : digV b < 0
    · rw [if_pos c1, if_pos (.inl c1)]
    · by_cases c2 : 1114111 < v
      · rw [if_neg c1, if_pos (by omega), if_pos (.inr c2)]
      · rw [if_neg c1, if_neg (by omega), if_neg (by omega), wrap64_id (x := 16 * (v : Int)) (by omega) (by omega), wrap64_id (by omega) (by omega), wrap64_id (x := (i : Int) + 1) (by omega) (by omega)]
        rw [show 16 * (v : Int) + digV b = ((16 * v + (digV b).toNat : Nat) : Int) by omega, show k + 1 - 0 - 1 = k by omega]
        rfl
  | succ m ih =>
    intro j k x7 hj hk h1 h2
    obtain ⟨k, rfl⟩ : ∃ k', k = k' + 1 := ⟨k - 1, by omega⟩
    have e1 : wrap64 ((i : Int) + 1) = ((i + 1 : Nat) : Int) := by rw [wrap64_id (by omega) (by omega)]; omega
    have e2 : wrap64 ((j : Int) + 1) = ((j + 1 : Nat) : Int) := by rw [wrap64_id (by omega) (by omega)]; omega
    have e3 : ((T l).extract i (i + 1)).toList = [b] := by
      rw [extT, Lib.toList_data]
      show (l.take (i + 1)).drop i = [b]
      rw [List.drop_take, hl, show i + 1 - i = 1 by omega]
      rfl
    have e4 : (T [hxd j]).toList = [hxd j] := by rw [Lib.toList_data]
    simp only [platenref02_value.l1]
    rw [if_pos (by omega), e1, e2, if_pos (by omega), if_pos (by omega), if_pos (by rw [T_size]; omega), digit_f j (by omega), Option.bind_some, Int.toNat_natCast, Int.toNat_natCast, e3, e4]
    have ek : k + 1 - (m + 1) - 1 = k - m - 1 := by omega
    rw [ek]
    by_cases hb : b = hxd j
    · have hd := (digV_iff b j (by omega)).1 hb
      rw [if_pos (by rw [hb])]
      exact ih (j + 1) k (j : Int) (by omega) (by omega) (.inr ⟨hd.symm, by omega, by omega⟩) (fun h => by omega)
    · have hd : digV b ≠ (j : Int) := fun h => hb ((digV_iff b j (by omega)).2 h)
      rw [if_neg (by simpa using hb)]
      exact ih (j + 1) k x7 (by omega) (by omega) (h1.imp id (fun h => ⟨h.1, by omega, h.2.2⟩)) (fun h h3 => h2 h (by omega))
theorem value_l0 (n : Nat) (l : List UInt8) (hn : n ≤ l.length) (hn8 : n ≤ 8) : ∀ (m i v k : Nat), i + m = n → v ≤ 20000000 → 20 * m + 1 ≤ k →
    platenref02_value.l0 k (T l) (n : Int) (v : Int) (i : Int) = some (valI (valGo m (l.drop i) v)) := by
  intro m
  induction m with
  | zero =>
    intro i v k hi hv hk
    obtain ⟨k, rfl⟩ : ∃ k', k = k' + 1 := ⟨k - 1, by omega⟩
    simp only [platenref02_value.l0]
    rw [if_neg (by omega)]
    rfl
  | succ m ih =>
    intro i v k hi hv hk
    obtain ⟨k, rfl⟩ : ∃ k', k = k' + 1 := ⟨k - 1, by omega⟩
    obtain ⟨b, l', hl⟩ : ∃ b l', l.drop i = b :: l' := by
      cases h : l.drop i with
      | nil => have := congrArg List.length h; rw [List.length_drop, List.length_nil] at this; omega
      | cons b l' => exact ⟨b, l', rfl⟩
    have hl' : l.drop (i + 1) = l' := by rw [← List.drop_drop, hl]; rfl
    have hin := value_in n v i l b l' hl (by omega) (by omega) 16 0 k (-1) (by omega) (by omega) (.inl rfl) (fun _ h => h)
    simp only [platenref02_value.l0]
    rw [if_pos (by omega)]
    refine Eq.trans hin ?_
    rw [hl]
    simp only [valGo]
    by_cases hc : digV b < 0 ∨ 1114111 < v
    · rw [if_pos hc, if_pos hc]; rfl
    · have hr := digV_range b
      rw [if_neg hc, if_neg hc, ih (i + 1) _ _ (by omega) (by omega) (by omega), hl']
theorem value_f (k n : Nat) (l : List UInt8) (hn8 : n ≤ 8) (hk : 200 ≤ k) : platenref02_value.f k (T l) (n : Int) = some (if l.length < n then -1 else valI (valGo n l 0)) := by
  unfold platenref02_value.f
  by_cases h : l.length < n
  · rw [if_pos (by rw [T_size]; omega), if_pos h]
  · have := value_l0 n l (by omega) hn8 n 0 0 k (by omega) (by omega) (by omega)
    rw [if_neg (by rw [T_size]; omega), if_neg h]
    exact this
theorem valGo_le : ∀ (n : Nat) (l : List UInt8) (v r : Nat), v ≤ 20000000 → valGo n l v = some r → r ≤ 20000000 := by
  intro n
  induction n with
  | zero => intro l v r hv h; simp only [valGo, Option.some.injEq] at h; omega
  | succ n ih =>
    intro l v r hv h
    cases l with
    | nil => simp [valGo] at h
    | cons b l =>
      simp only [valGo] at h
      split at h
      · cases h
      · have hr := digV_range b
        exact ih l _ r (by omega) h
theorem val_neg (v d : Nat) (h : 16 * v + d ≤ 1114111) : ¬ ((d : Int) < 0 ∨ 1114111 < v) := by omega
theorem valGo_hexL (c : Nat) (rest : List UInt8) : ∀ (n v : Nat), 16 ^ n * v + c % 16 ^ n ≤ 1114111 → valGo n (hexL n c ++ rest) v = some (16 ^ n * v + c % 16 ^ n) := by
  intro n
  induction n with
  | zero => intro v _; simp [valGo, Nat.mod_one]
  | succ n ih =>
    intro v hv
    have hd : c / 16 ^ n % 16 < 16 := Nat.mod_lt _ (by omega)
    have h1 : c % 16 ^ (n + 1) = c % 16 ^ n + 16 ^ n * (c / 16 ^ n % 16) := by rw [Nat.pow_succ, Nat.mod_mul]
    have h2 : 16 ^ (n + 1) * v + c % 16 ^ (n + 1) = 16 ^ n * (16 * v + c / 16 ^ n % 16) + c % 16 ^ n := by
      rw [h1, Nat.pow_succ, Nat.mul_add, Nat.mul_assoc]
      generalize 16 ^ n * (16 * v) = A
      generalize 16 ^ n * (c / 16 ^ n % 16) = B
      generalize c % 16 ^ n = C
      omega
    rw [h2] at hv ⊢
    have hp : 0 < 16 ^ n := Nat.pow_pos (by omega)
    have hle : 16 * v + c / 16 ^ n % 16 ≤ 16 ^ n * (16 * v + c / 16 ^ n % 16) := Nat.le_mul_of_pos_left _ hp
    show valGo (n + 1) (hxd (c / 16 ^ n % 16) :: (hexL n c ++ rest)) v = _
    simp only [valGo]
    have hv3 : 16 * v + c / 16 ^ n % 16 ≤ 1114111 := Nat.le_trans hle (Nat.le_trans (Nat.le_add_right _ _) hv)
    rw [digV_hxd _ hd, if_neg (val_neg _ _ hv3), Int.toNat_natCast]
    exact ih _ hv
def lenOne : List UInt8 → Option (List UInt8 × Nat)
  | [] => none
  | [a] => some ([a], 1)
  | a :: c :: l =>
    if a ≠ 92 then some ([a], 1)
    else if c = 120 then (if l.length < 2 then none else (valGo 2 l 0).map fun v : Nat => ([UInt8.ofNat v], 4))
    else if c = 117 then (if l.length < 4 then none else (valGo 4 l 0).map fun v : Nat => (enc (wrap32 (v : Int)), 6))
    else if c = 85 then (if l.length < 8 then none else (valGo 8 l 0).map fun v : Nat => (enc (wrap32 (v : Int)), 10))
    else some ([if 0 ≤ Lib.indexByte lettersL c then UInt8.ofNat (7 + (Lib.indexByte lettersL c).toNat) else c], 2)
theorem lenOne_range (l : List UInt8) (r : List UInt8 × Nat) (h : lenOne l = some r) : r.1.length ≤ 4 ∧ 1 ≤ r.2 ∧ r.2 ≤ l.length := by
  match l, h with
  | [a], h => cases h; simp
  | a :: c :: l, h =>
    have he : ∀ v : Nat, (enc (wrap32 (v : Int))).length ≤ 4 := fun v => (enc_length _).2
    simp only [lenOne] at h
    split at h
    · cases h; simp
    split at h
    · split at h
      · cases h
      · obtain ⟨v, _, rfl⟩ := Option.map_eq_some_iff.1 h
        simp; omega
    split at h
    · split at h
      · cases h
      · obtain ⟨v, _, rfl⟩ := Option.map_eq_some_iff.1 h
        have := he v
        simp; omega
    split at h
    · split at h
      · cases h
      · obtain ⟨v, _, rfl⟩ := Option.map_eq_some_iff.1 h
        have := he v
        simp; omega
    · cases h; simp
def lenGo : Nat → List UInt8 → List UInt8 → Option (List UInt8)
  | 0, _, acc => some acc
  | f + 1, rest, acc => if rest = [] then some acc else (lenOne rest).bind fun r => lenGo f (rest.drop r.2) (acc ++ r.1)
theorem lenGo_nil (f : Nat) (acc : List UInt8) : lenGo f [] acc = some acc := by cases f <;> simp [lenGo]
end Go.Proofs.YtcoippikicikoaaDoor
namespace Go.Proofs.YtcoippikicikoaaDoor
open Go.RowKit Go.Proofs.YtcoippikicikoaaDoorW.PrintWords Go.Proofs.YtcoippikicikoaaDoorW.PrintMore Go.Proofs.YtcoippikicikoaaDoor.PQRef
def finL (s : ByteArray) (t : List UInt8) : ByteArray × Bool := if T (quoteB (T t) false) = s ∨ T (quoteB (T t) true) = s then (T t, true) else (T [], false)
theorem toList_eq (a b : ByteArray) : a.toList = b.toList ↔ a = b :=
  ⟨fun h => bytes_ext (by rw [← Lib.toList_data, ← Lib.toList_data, h]), fun h => by rw [h]⟩
theorem end_f (k : Nat) (s : ByteArray) (t : List UInt8) (ht : t.length ≤ 10000) (hk : 20000 ≤ k) : platenref02_Unquote.l0 (k + 1) s (T t) (T []) = some (finL s t) := by
  simp only [platenref02_Unquote.l0]
  rw [if_pos (by rw [Lib.toList_data]), RQuote_f k (T t) false (by rw [T_size]; omega) (by rw [T_size]; omega), RQuote_f k (T t) true (by rw [T_size]; omega) (by rw [T_size]; omega), Option.bind_some, Option.bind_some]
  simp only [toList_eq]
  unfold finL
  by_cases h1 : T (quoteB (T t) false) = s
  · rw [if_pos h1, if_pos (.inl h1)]
  · by_cases h2 : T (quoteB (T t) true) = s
    · rw [if_neg h1, if_pos h2, if_pos (.inr h2)]
    · rw [if_neg h1, if_neg h2, if_neg (fun h => h.elim h1 h2)]
theorem bnd2 (a b : Nat) (ha : a ≤ 100000) (hb : b ≤ 100000) : a + b ≤ 9223372036854775807 := by omega
theorem sz_app (a b : List UInt8) (ha : a.length ≤ 100000) (hb : b.length ≤ 100000) : (T a).size + (T b).size ≤ 9223372036854775807 := by
  rw [T_size, T_size]; exact bnd2 _ _ ha hb
theorem lett_at (x : UInt8) (j : Nat) (hj : j < 7) : (bt (⟨#[97, 98, 116, 110, 118, 102, 114]⟩ : ByteArray) (j : Int) = (x.toNat : Int)) ↔ x = lettr j := by
  rw [letters_bt j hj]
  constructor
  · intro h; exact UInt8.toNat_inj.1 (by omega)
  · rintro rfl; rfl
theorem idx_all : ∀ n : Fin 256, Lib.indexByte lettersL (UInt8.ofNat n.val) = -1 ∨ (0 ≤ Lib.indexByte lettersL (UInt8.ofNat n.val) ∧ Lib.indexByte lettersL (UInt8.ofNat n.val) < 7 ∧ UInt8.ofNat n.val = lettr (Lib.indexByte lettersL (UInt8.ofNat n.val)).toNat) := by decide +kernel
theorem idx_cases (x : UInt8) : Lib.indexByte lettersL x = -1 ∨ (0 ≤ Lib.indexByte lettersL x ∧ Lib.indexByte lettersL x < 7 ∧ x = lettr (Lib.indexByte lettersL x).toNat) := by
  have e : UInt8.ofNat x.toNat = x := UInt8.toNat_inj.1 (by rw [UInt8.toNat_ofNat']; have := x.toNat_lt; omega)
  have := idx_all ⟨x.toNat, x.toNat_lt⟩
  simp only [e] at this
  exact this
theorem lettr_idx (x : UInt8) (j : Nat) (hj : j < 7) : x = lettr j ↔ Lib.indexByte lettersL x = (j : Int) := by
  constructor
  · rintro rfl; exact (idx_letter j hj).1
  · intro h
    rcases idx_cases x with h1 | ⟨h1, h2, h3⟩
    · omega
    · rw [h, Int.toNat_natCast] at h3; exact h3
def escB (x : UInt8) : UInt8 := if 0 ≤ Lib.indexByte lettersL x then UInt8.ofNat (7 + (Lib.indexByte lettersL x).toNat) else x
theorem ofNat_ints (n : Nat) (h : n < 256) : strOfNums [(n : Int)] = T [UInt8.ofNat n] := by
  rw [← strOfNums_ints]
  simp only [ints, List.map_cons, List.map_nil]
  rw [toNat_ofNat n h]
theorem l1_f (s : ByteArray) (acc rest : List UInt8) (x : UInt8) (ha : acc.length ≤ 100000) (hr : 2 ≤ rest.length) : ∀ (m j k : Nat), j + m = 7 → m + 1 ≤ k → (Lib.indexByte lettersL x < (j : Int) → Lib.indexByte lettersL x < 0) →
    ∃ k', k ≤ k' + m + 1 ∧ platenref02_Unquote.l1 k s (T acc) (T rest) 2 (x.toNat : Int) (j : Int) = platenref02_Unquote.l0 k' s (T (acc ++ [escB x])) (T (rest.drop 2)) := by
  intro m
  have e2 : (T rest).extract 2 (T rest).size = T (rest.drop 2) := by rw [extT, T_size, List.take_length]
  have hsz : (2 : Int) ≤ ((T rest).size : Int) := by rw [T_size]; omega
  induction m with
  | zero =>
    intro j k hj hk h
    obtain ⟨k, rfl⟩ : ∃ k', k = k' + 1 := ⟨k - 1, by omega⟩
    have hx : ¬ 0 ≤ Lib.indexByte lettersL x := by
      rcases idx_cases x with h1 | ⟨h1, h2, h3⟩
      · omega
      · have := h (by omega); omega
    refine ⟨k, by omega, ?_⟩
    simp only [platenref02_Unquote.l1]
    have es : strOfNums [((x.toNat : Nat) : Int)] = T [escB x] := by
      rw [← strOfNums_ints]; unfold escB; rw [if_neg hx]; rfl
    have ha2 := sz_app acc [escB x] ha (by simp)
    rw [if_neg (by omega), Option.bind_some, es, if_pos ha2, if_pos (by omega), if_pos hsz, T_append]
    rw [show (2 : Int).toNat = 2 from rfl, e2]
  | succ m ih =>
    intro j k hj hk h
    obtain ⟨k, rfl⟩ : ∃ k', k = k' + 1 := ⟨k - 1, by omega⟩
    have e1 : wrap64 ((j : Int) + 1) = ((j + 1 : Nat) : Int) := by rw [wrap64_id (by omega) (by omega)]; omega
    simp only [platenref02_Unquote.l1]
    by_cases hx : x = lettr j
    · have hi := (lettr_idx x j (by omega)).1 hx
      have e7 : wrap64 (7 + (j : Int)) % 256 = ((7 + j : Nat) : Int) := by rw [wrap64_id (by omega) (by omega)]; omega
      have es : strOfNums [wrap64 (7 + (j : Int)) % 256] = T [escB x] := by
        rw [e7, ofNat_ints (7 + j) (by omega)]; unfold escB; rw [hi, if_pos (by omega), Int.toNat_natCast]
      have ha2 := sz_app acc [escB x] ha (by simp)
      refine ⟨k, by omega, ?_⟩
      rw [if_pos (by omega), if_pos (by omega), if_pos ((lett_at x j (by omega)).2 hx), Option.bind_some, es, if_pos ha2, if_pos (by omega), if_pos hsz, T_append]
      rw [show (2 : Int).toNat = 2 from rfl, e2]
    · have hi : Lib.indexByte lettersL x ≠ (j : Int) := fun h => hx ((lettr_idx x j (by omega)).2 h)
      obtain ⟨k', h1, h2⟩ := ih (j + 1) k (by omega) (by omega) (fun h3 => h (by omega))
      refine ⟨k', by omega, ?_⟩
      rw [if_pos (by omega), if_pos (by omega), if_neg (fun h => hx ((lett_at x j (by omega)).1 h)), e1]
      exact h2
theorem round_f (k : Nat) (s : ByteArray) (acc rest : List UInt8) (hne : rest ≠ []) (ha : acc.length ≤ 100000) (hk : 1000 ≤ k) :
    match lenOne rest with
    | none => platenref02_Unquote.l0 k s (T acc) (T rest) = some (T [], false)
    | some r => ∃ k', k ≤ k' + 15 ∧ platenref02_Unquote.l0 k s (T acc) (T rest) = platenref02_Unquote.l0 k' s (T (acc ++ r.1)) (T (rest.drop r.2)) := by
  obtain ⟨k, rfl⟩ : ∃ k', k = k' + 4 := ⟨k - 4, by omega⟩
  have n1 : ¬ (T rest).toList = ([] : List UInt8) := by rw [Lib.toList_data]; exact hne
  have hex : ∀ n, n ≤ rest.length → (T rest).extract n (T rest).size = T (rest.drop n) := fun n h => by rw [extT, T_size, List.take_length]
  have h0 : 0 < rest.length := List.length_pos_iff.2 hne
  have hsz : (T rest).size = rest.length := T_size _
  have step1 : platenref02_Unquote.j1 (k + 3) s (T acc) (T rest) true = platenref02_Unquote.l0 (k + 2) s (T (acc ++ rest.take 1)) (T (rest.drop 1)) := by
    have e1 : (T rest).extract 0 1 = T (rest.take 1) := by rw [extT]; rfl
    have ha2 := sz_app acc (rest.take 1) ha (by rw [List.length_take]; omega)
    rw [platenref02_Unquote.j1, if_pos rfl, if_pos (by omega), if_pos (by omega), e1, if_pos ha2, T_append, hex 1 (by omega)]
  have b0 : bt (T rest) 0 = (((T rest).get! 0).toNat : Int) := bt_get (T rest) 0
  match rest, hne with
  | [a], _ =>
    refine ⟨k + 2, by omega, ?_⟩
    simp only [platenref02_Unquote.l0]
    rw [if_neg n1, if_pos (by omega), decide_eq_true (by rw [T_size]; simp)]
    have := step1
    split <;> exact this
  | a :: c :: l, _ =>
    have ga : (T (a :: c :: l)).get! 0 = a := by rw [getT]; rfl
    have gc : bt (T (a :: c :: l)) 1 = ((c.toNat : Nat) : Int) := by rw [show (1 : Int) = ((1 : Nat) : Int) from rfl, bt_get, getT]; rfl
    have cN : ∀ n : UInt8, (((c.toNat : Nat) : Int) = ((n.toNat : Nat) : Int)) ↔ c = n := fun n => by
      rw [← UInt8.toNat_inj]; omega
    have hl2 : (a :: c :: l).length = l.length + 2 := rfl
    have c120 : (((c.toNat : Nat) : Int) = 120) ↔ c = 120 := cN 120
    have c117 : (((c.toNat : Nat) : Int) = 117) ↔ c = 117 := cN 117
    have c85 : (((c.toNat : Nat) : Int) = 85) ↔ c = 85 := cN 85
    rw [ga] at b0
    by_cases h92 : a = 92
    case neg =>
      have el : lenOne (a :: c :: l) = some ([a], 1) := by simp only [lenOne]; rw [if_pos h92]
      rw [el]
      refine ⟨k + 2, by omega, ?_⟩
      simp only [platenref02_Unquote.l0]
      rw [if_neg n1, if_pos (by omega), b0, if_neg (fun h => h92 (UInt8.toNat_inj.1 (by have e92 : (92 : UInt8).toNat = 92 := rfl; omega)))]
      exact step1
    subst h92
    have hj1 : platenref02_Unquote.l0 (k + 4) s (T acc) (T (92 :: c :: l)) = platenref02_Unquote.j1 (k + 3) s (T acc) (T (92 :: c :: l)) false := by
      simp only [platenref02_Unquote.l0]
      rw [if_neg n1, if_pos (by omega), b0, if_pos (show ((UInt8.toNat 92 : Nat) : Int) = 92 from rfl), decide_eq_false (by omega)]
    rw [hj1]
    simp only [lenOne, ne_eq, not_true_eq_false, if_false]
    have d2 : (T (92 :: c :: l)).extract 2 (T (92 :: c :: l)).size = T l := hex 2 (by omega)
    by_cases c1 : c = 120
    · have hv := value_f (k + 2) 2 l (by omega) (by omega)
      rw [if_pos c1]
      have pz : (1 : Int) < ((T (92 :: c :: l)).size : Int) := by omega
      have pz2 : (2 : Int) ≤ ((T (92 :: c :: l)).size : Int) := by omega
      by_cases hs : l.length < 2
      · rw [if_pos hs] at hv
        rw [if_pos hs]
        show platenref02_Unquote.j1 (k + 3) s (T acc) (T (92 :: c :: l)) false = some (T [], false)
        rw [platenref02_Unquote.j1, if_neg Bool.false_ne_true, if_pos pz, gc, if_pos (c120.2 c1), if_pos pz2, d2, show (2 : Int) = ((2 : Nat) : Int) from rfl, hv, Option.bind_some, if_pos (by decide)]
      · rw [if_neg hs] at hv
        rw [if_neg hs]
        cases hg : valGo 2 l 0 with
        | none =>
          rw [hg] at hv
          show platenref02_Unquote.j1 (k + 3) s (T acc) (T (92 :: c :: l)) false = some (T [], false)
          rw [platenref02_Unquote.j1, if_neg Bool.false_ne_true, if_pos pz, gc, if_pos (c120.2 c1), if_pos pz2, d2, show (2 : Int) = ((2 : Nat) : Int) from rfl, hv, Option.bind_some, if_pos (show valI none < 0 by decide)]
        | some v =>
          rw [hg] at hv
          have hv : platenref02_value.f (k + 2) (T l) ((2 : Nat) : Int) = some (v : Int) := hv
          have hle := valGo_le 2 l 0 v (by omega) hg
          have es : strOfNums [(v : Int) % 256] = T [UInt8.ofNat v] := by
            rw [show (v : Int) % 256 = ((v % 256 : Nat) : Int) by omega, ofNat_ints _ (by omega)]
            congr 2
            exact UInt8.toNat_inj.1 (by rw [UInt8.toNat_ofNat', UInt8.toNat_ofNat']; omega)
          have ha2 := sz_app acc [UInt8.ofNat v] ha (by simp)
          have pz4 : (4 : Int) ≤ ((T (92 :: c :: l)).size : Int) := by omega
          refine ⟨k + 2, by omega, ?_⟩
          rw [platenref02_Unquote.j1, if_neg Bool.false_ne_true, if_pos pz, gc, if_pos (c120.2 c1), if_pos pz2, d2, show (2 : Int) = ((2 : Nat) : Int) from rfl, hv, Option.bind_some, if_neg (by omega), Option.bind_some, es, if_pos ha2, if_pos pz4, T_append, hex 4 (by omega)]
    rw [if_neg c1]
    have j3 : ∀ (n : Nat), n = 4 ∨ n = 8 → match (if l.length < n then none else (valGo n l 0).map fun v : Nat => (enc (wrap32 (v : Int)), n + 2) : Option (List UInt8 × Nat)) with
        | none => platenref02_Unquote.j3 (k + 1) s (T acc) (T (92 :: c :: l)) ((n + 2 : Nat) : Int) = some (T [], false)
        | some r => ∃ k', k + 4 ≤ k' + 15 ∧ platenref02_Unquote.j3 (k + 1) s (T acc) (T (92 :: c :: l)) ((n + 2 : Nat) : Int) = platenref02_Unquote.l0 k' s (T (acc ++ r.1)) (T ((92 :: c :: l).drop r.2)) := by
      intro n hn
      have hv := value_f k n l (by omega) (by omega)
      have en : wrap64 (((n + 2 : Nat) : Int) - 2) = (n : Int) := by rw [wrap64_id (by omega) (by omega)]; omega
      have pz2 : (2 : Int) ≤ ((T (92 :: c :: l)).size : Int) := by omega
      by_cases hs : l.length < n
      · rw [if_pos hs] at hv
        rw [if_pos hs]
        show platenref02_Unquote.j3 (k + 1) s (T acc) (T (92 :: c :: l)) ((n + 2 : Nat) : Int) = some (T [], false)
        rw [platenref02_Unquote.j3, if_pos pz2, d2, en, hv, Option.bind_some, if_pos (by decide)]
      · rw [if_neg hs] at hv
        rw [if_neg hs]
        cases hg : valGo n l 0 with
        | none =>
          rw [hg] at hv
          show platenref02_Unquote.j3 (k + 1) s (T acc) (T (92 :: c :: l)) ((n + 2 : Nat) : Int) = some (T [], false)
          rw [platenref02_Unquote.j3, if_pos pz2, d2, en, hv, Option.bind_some, if_pos (show valI none < 0 by decide)]
        | some v =>
          rw [hg] at hv
          have hv : platenref02_value.f k (T l) (n : Int) = some (v : Int) := hv
          have hle := valGo_le n l 0 v (by omega) hg
          have hrf := rune_f (k - 1) (wrap32 (v : Int))
          rw [show k - 1 + 1 = k by omega] at hrf
          have ha2 := sz_app acc (enc (wrap32 (v : Int))) ha (by have := enc_length (wrap32 (v : Int)); omega)
          have pzn : ((n + 2 : Nat) : Int) ≤ ((T (92 :: c :: l)).size : Int) := by omega
          refine ⟨k, by omega, ?_⟩
          rw [platenref02_Unquote.j3, if_pos pz2, d2, en, hv, Option.bind_some, if_neg (by omega), hrf, Option.bind_some, if_pos ha2, if_pos (by omega), if_pos pzn, T_append, Int.toNat_natCast, hex (n + 2) (by omega)]
    by_cases c2 : c = 117
    · have hj := j3 4 (.inl rfl)
      have e : platenref02_Unquote.j1 (k + 3) s (T acc) (T (92 :: c :: l)) false = platenref02_Unquote.j3 (k + 1) s (T acc) (T (92 :: c :: l)) ((4 + 2 : Nat) : Int) := by
        rw [platenref02_Unquote.j1, if_neg Bool.false_ne_true, if_pos (by omega), gc, if_neg (fun h => c1 (c120.1 h)), if_pos (c117.2 c2)]
        simp only [platenref02_Unquote.j2]
        rw [if_pos (beq_iff_eq.2 (c117.2 c2)), if_pos (by omega), gc, if_neg (fun h => by have := c85.1 h; rw [c2] at this; exact absurd this (by decide))]
        rfl
      rw [if_pos c2, e]
      exact hj
    rw [if_neg c2]
    by_cases c3 : c = 85
    · have hj := j3 8 (.inr rfl)
      have e : platenref02_Unquote.j1 (k + 3) s (T acc) (T (92 :: c :: l)) false = platenref02_Unquote.j3 (k + 1) s (T acc) (T (92 :: c :: l)) ((8 + 2 : Nat) : Int) := by
        rw [platenref02_Unquote.j1, if_neg Bool.false_ne_true, if_pos (by omega), gc, if_neg (fun h => c1 (c120.1 h)), if_neg (fun h => c2 (c117.1 h))]
        simp only [platenref02_Unquote.j2]
        rw [if_pos (beq_iff_eq.2 (c85.2 c3)), if_pos (by omega), gc, if_pos (c85.2 c3)]
        rfl
      rw [if_pos c3, e]
      exact hj
    rw [if_neg c3]
    obtain ⟨k', h1, h2⟩ := l1_f s acc (92 :: c :: l) c ha (by omega) 7 0 (k + 1) (by omega) (by omega) (fun h => h)
    refine ⟨k', by omega, ?_⟩
    rw [platenref02_Unquote.j1, if_neg Bool.false_ne_true, if_pos (by omega), gc, if_neg (fun h => c1 (c120.1 h)), if_neg (fun h => c2 (c117.1 h))]
    simp only [platenref02_Unquote.j2]
    rw [if_neg (fun h => c3 (c85.1 (beq_iff_eq.1 h))), if_pos (by omega), gc]
    exact h2
end Go.Proofs.YtcoippikicikoaaDoor
namespace Go.Proofs.YtcoippikicikoaaDoor
open Go.RowKit Go.Proofs.YtcoippikicikoaaDoorW.PrintWords Go.Proofs.YtcoippikicikoaaDoorW.PrintMore Go.Proofs.YtcoippikicikoaaDoor.PQRef
theorem loop_f (s : ByteArray) : ∀ (f k : Nat) (rest acc : List UInt8), rest.length ≤ f → acc.length + 4 * f ≤ 10000 → 20 * f + 21000 ≤ k →
    platenref02_Unquote.l0 k s (T acc) (T rest) = some (match lenGo f rest acc with | none => (T [], false) | some t => finL s t) := by
  intro f
  induction f with
  | zero =>
    intro k rest acc h1 h2 h3
    obtain rfl : rest = [] := List.eq_nil_of_length_eq_zero (by omega)
    obtain ⟨k, rfl⟩ : ∃ k', k = k' + 1 := ⟨k - 1, by omega⟩
    rw [end_f k s acc (by omega) (by omega)]
    rfl
  | succ f ih =>
    intro k rest acc h1 h2 h3
    by_cases hne : rest = []
    · subst hne
      obtain ⟨k, rfl⟩ : ∃ k', k = k' + 1 := ⟨k - 1, by omega⟩
      rw [end_f k s acc (by omega) (by omega), lenGo_nil]
    · have hr := round_f k s acc rest hne (by omega) (by omega)
      simp only [lenGo]
      rw [if_neg hne]
      cases ho : lenOne rest with
      | none =>
        rw [ho] at hr
        simp only at hr
        rw [hr]
        rfl
      | some r =>
        rw [ho] at hr
        obtain ⟨k', hk', e⟩ := hr
        obtain ⟨r1, r2, r3⟩ := lenOne_range rest r ho
        rw [e, Option.bind_some, ih k' _ _ (by rw [List.length_drop]; omega) (by rw [List.length_append]; omega) (by omega)]
theorem lenGo_one (f : Nat) (rest acc : List UInt8) (r : List UInt8 × Nat) (h : lenOne rest = some r) (hf : rest.length ≤ f) : ∃ f', (rest.drop r.2).length ≤ f' ∧ lenGo f rest acc = lenGo f' (rest.drop r.2) (acc ++ r.1) := by
  obtain ⟨r1, r2, r3⟩ := lenOne_range rest r h
  obtain ⟨f, rfl⟩ : ∃ f', f = f' + 1 := ⟨f - 1, by omega⟩
  refine ⟨f, by rw [List.length_drop]; omega, ?_⟩
  simp only [lenGo]
  rw [if_neg (by rintro rfl; simp at r3; omega), h, Option.bind_some]
theorem lenOne_plain (a : UInt8) (rest : List UInt8) (h : a ≠ 92) : lenOne (a :: rest) = some ([a], 1) := by
  cases rest with
  | nil => rfl
  | cons c l => simp only [lenOne]; rw [if_pos h]
theorem lenGo_plain : ∀ (bs rest acc : List UInt8) (f : Nat), (∀ b ∈ bs, b ≠ 92) → (bs ++ rest).length ≤ f → ∃ f', rest.length ≤ f' ∧ lenGo f (bs ++ rest) acc = lenGo f' rest (acc ++ bs) := by
  intro bs
  induction bs with
  | nil => intro rest acc f _ hf; exact ⟨f, hf, by simp⟩
  | cons b bs ih =>
    intro rest acc f hb hf
    obtain ⟨f1, h1, e1⟩ := lenGo_one f (b :: (bs ++ rest)) acc ([b], 1) (lenOne_plain b _ (hb b (.head _))) hf
    obtain ⟨f2, h2, e2⟩ := ih rest (acc ++ [b]) f1 (fun x hx => hb x (.tail _ hx)) h1
    refine ⟨f2, h2, ?_⟩
    show lenGo f (b :: (bs ++ rest)) acc = _
    rw [e1]
    refine Eq.trans e2 ?_
    rw [List.append_assoc]
    rfl
theorem encN_no92 (c : Nat) (hc : c ≤ 1114111) (h : c ≠ 92) : ∀ b ∈ encN c, b ≠ 92 := by
  have key : ∀ x : Nat, x < 256 → x ≠ 92 → UInt8.ofNat x ≠ 92 := fun x hx h e => by
    have := congrArg UInt8.toNat e
    rw [toNat_ofNat x hx] at this
    exact h this
  intro b hb
  unfold encN at hb
  by_cases h1 : c < 128
  · rw [if_pos h1] at hb
    obtain rfl := List.mem_singleton.1 hb
    exact key c (by omega) h
  by_cases h2 : c < 2048
  · rw [if_neg h1, if_pos h2] at hb
    simp only [List.mem_cons, List.not_mem_nil, or_false] at hb
    rcases hb with rfl | rfl
    all_goals exact key _ (by omega) (by omega)
  by_cases h3 : c < 65536
  · rw [if_neg h1, if_neg h2, if_pos h3] at hb
    simp only [List.mem_cons, List.not_mem_nil, or_false] at hb
    rcases hb with rfl | rfl | rfl
    all_goals exact key _ (by omega) (by omega)
  · rw [if_neg h1, if_neg h2, if_neg h3] at hb
    simp only [List.mem_cons, List.not_mem_nil, or_false] at hb
    rcases hb with rfl | rfl | rfl | rfl
    all_goals exact key _ (by omega) (by omega)
theorem lenOne_esc (x : UInt8) (rest : List UInt8) (h : x ≠ 120 ∧ x ≠ 117 ∧ x ≠ 85) : lenOne ([92, x] ++ rest) = some ([escB x], 2) := by
  show lenOne (92 :: x :: rest) = _
  simp only [lenOne]
  rw [if_neg (by simp), if_neg h.1, if_neg h.2.1, if_neg h.2.2]
  rfl
theorem lenOne_x (c : Nat) (rest : List UInt8) (hc : c < 256) : lenOne (([92, 120] ++ hexL 2 c) ++ rest) = some ([UInt8.ofNat c], 4) := by
  have hv := valGo_hexL c rest 2 0 (by omega)
  rw [Nat.mul_zero, Nat.zero_add, Nat.mod_eq_of_lt (by omega)] at hv
  show lenOne (92 :: 120 :: (hexL 2 c ++ rest)) = _
  simp only [lenOne]
  rw [if_neg (by simp), if_pos trivial, if_neg (by rw [List.length_append, hexL_length]; omega), hv]
  rfl
theorem lenOne_u (c : Nat) (rest : List UInt8) (hc : c < 65536) : lenOne (([92, 117] ++ hexL 4 c) ++ rest) = some (enc (wrap32 (c : Int)), 6) := by
  have hv := valGo_hexL c rest 4 0 (by omega)
  rw [Nat.mul_zero, Nat.zero_add, Nat.mod_eq_of_lt (by omega)] at hv
  show lenOne (92 :: 117 :: (hexL 4 c ++ rest)) = _
  simp only [lenOne]
  rw [if_neg (by simp), if_neg (by decide), if_pos trivial, if_neg (by rw [List.length_append, hexL_length]; omega), hv]
  rfl
theorem lenOne_U (c : Nat) (rest : List UInt8) (hc : c ≤ 1114111) : lenOne (([92, 85] ++ hexL 8 c) ++ rest) = some (enc (wrap32 (c : Int)), 10) := by
  have hv := valGo_hexL c rest 8 0 (by omega)
  rw [Nat.mul_zero, Nat.zero_add, Nat.mod_eq_of_lt (by omega)] at hv
  show lenOne (92 :: 85 :: (hexL 8 c ++ rest)) = _
  simp only [lenOne]
  rw [if_neg (by simp), if_neg (by decide), if_neg (by decide), if_pos trivial, if_neg (by rw [List.length_append, hexL_length]; omega), hv]
  rfl
theorem lettr_not (d : Nat) (h : d < 7) : lettr d ≠ 120 ∧ lettr d ≠ 117 ∧ lettr d ≠ 85 ∧ escB (lettr d) = UInt8.ofNat (7 + d) := by
  have : ∀ d : Fin 7, lettr d.val ≠ 120 ∧ lettr d.val ≠ 117 ∧ lettr d.val ≠ 85 ∧ escB (lettr d.val) = UInt8.ofNat (7 + d.val) := by decide
  exact this ⟨d, h⟩
theorem len_part (s : ByteArray) (asc : Bool) (p : Nat) (hp : p < s.size) (rest acc : List UInt8) (f : Nat) (hf : (part s asc p ++ rest).length ≤ f) :
    ∃ f', rest.length ≤ f' ∧ lenGo f (part s asc p ++ rest) acc = lenGo f' rest (acc ++ (s.data.toList.drop p).take (Utf8.decode s p).2) := by
  have hg : (s.data.toList.drop p).take 1 = [s.get! p] := by
    have := take_1 (s.extract p s.size) (by rw [size_extract]; omega)
    rw [Lib.extract_to_end, get_extract] at this
    exact this
  have one : ∀ (b : List UInt8) (L : List UInt8), part s asc p = L → lenOne (L ++ rest) = some (b, L.length) → ∃ f', rest.length ≤ f' ∧ lenGo f (part s asc p ++ rest) acc = lenGo f' rest (acc ++ b) := by
    intro b L e h
    rw [e] at hf ⊢
    obtain ⟨f1, h1, e1⟩ := lenGo_one f (L ++ rest) acc _ h hf
    simp only [List.drop_left] at h1 e1
    exact ⟨f1, h1, e1⟩
  by_cases hb : (Utf8.decode s p).1 = 65533 ∧ (Utf8.decode s p).2 = 1
  · have e : part s asc p = [92, 120] ++ hexL 2 (s.get! p).toNat := by unfold part; rw [if_pos hb]
    have hlt := bt_lt s p
    rw [hb.2, hg]
    refine one _ _ e ?_
    rw [lenOne_x _ _ hlt]
    simp [hexL_length]
  · obtain ⟨hv, he⟩ := dec_bytes s p hp hb
    have e : part s asc p = putL (Utf8.decode s p).1 34 asc := by unfold part; rw [if_neg hb]
    rw [← he]
    have hle := dec_small s p
    generalize (Utf8.decode s p).1 = c at hv hle e ⊢
    have hv' := (valid_nat c).1 hv
    have e1 : c < 128 → encN c = [UInt8.ofNat c] := fun h => by unfold encN; rw [if_pos h]
    have een : enc (c : Int) = encN c := by unfold enc; rw [if_pos hv, Int.toNat_natCast]
    have ew : enc (wrap32 (c : Int)) = encN c := by rw [wrap32_id (by omega) (by omega), een]
    unfold putL at e
    by_cases h1 : c = 34 ∨ c = 92
    · rw [if_pos h1] at e
      refine one _ _ e ?_
      rw [e1 (by omega)]
      rcases h1 with rfl | rfl
      · exact lenOne_esc 34 rest (by decide)
      · exact lenOne_esc 92 rest (by decide)
    rw [if_neg h1] at e
    by_cases h2 : 7 ≤ c ∧ c ≤ 13
    · rw [if_pos h2] at e
      obtain ⟨i1, i2, i3, i4⟩ := lettr_not (c - 7) (by omega)
      refine one _ _ e ?_
      rw [e1 (by omega), lenOne_esc _ rest ⟨i1, i2, i3⟩, i4, show 7 + (c - 7) = c by omega]
      rfl
    rw [if_neg h2] at e
    by_cases h3 : (32 ≤ c ∧ c ≤ 126) ∨ (asc = false ∧ plainP c = true)
    · rw [if_pos h3, een] at e
      rw [e] at hf ⊢
      exact lenGo_plain _ _ _ _ (encN_no92 c hle (by omega)) hf
    rw [if_neg h3] at e
    by_cases h4 : c < 128
    · rw [if_pos h4] at e
      refine one _ _ e ?_
      rw [e1 h4, lenOne_x c rest (by omega)]
      simp [hexL_length]
    rw [if_neg h4] at e
    by_cases h5 : c ≤ 65535
    · rw [if_pos h5] at e
      refine one _ _ e ?_
      rw [← ew, lenOne_u c rest (by omega)]
      simp [hexL_length]
    · rw [if_neg h5] at e
      refine one _ _ e ?_
      rw [← ew, lenOne_U c rest hle]
      simp [hexL_length]
theorem lenGo_back (s : ByteArray) (asc : Bool) : ∀ (fq p f : Nat) (acc : List UInt8), s.size ≤ p + fq → (qparts s asc fq p).length ≤ f → lenGo f (qparts s asc fq p) acc = some (acc ++ s.data.toList.drop p) := by
  intro fq
  induction fq with
  | zero =>
    intro p f acc h1 _
    rw [qparts, lenGo_nil, List.drop_eq_nil_of_le (by rw [← Lib.size_eq]; omega), List.append_nil]
  | succ fq ih =>
    intro p f acc h1 h2
    by_cases hp : p < s.size
    · have hq : qparts s asc (fq + 1) p = part s asc p ++ qparts s asc fq (p + (Utf8.decode s p).2) := by rw [qparts, if_pos hp]
      have hw := dec_pos s p hp
      rw [hq] at h2 ⊢
      obtain ⟨f', h3, e⟩ := len_part s asc p hp _ acc f h2
      rw [e, ih _ f' _ (by omega) h3, List.append_assoc, drop_take]
    · rw [qparts, if_neg hp, lenGo_nil, List.drop_eq_nil_of_le (by rw [← Lib.size_eq]; omega), List.append_nil]
theorem RUnquote_f (s : ByteArray) (hs : s.size ≤ 2000) : platenref02_Unquote.f 70000 s = some (if s.size < 2 then (T [], false) else match lenGo s.size (s.extract 1 (s.size - 1)).data.toList [] with | none => (T [], false) | some t => finL s t) := by
  unfold platenref02_Unquote.f
  by_cases h2 : s.size < 2
  · rw [if_pos (by omega), if_pos h2]
  · have e1 : wrap64 ((s.size : Int) - 1) = ((s.size - 1 : Nat) : Int) := by rw [wrap64_id (by omega) (by omega)]; omega
    have hz := size_sub s 1 (s.size - 1) (by omega) (by omega)
    have := loop_f s s.size 70000 (s.extract 1 (s.size - 1)).data.toList [] (by rw [← Lib.size_eq]; omega) (by simp; omega) (by omega)
    rw [if_neg (by omega), if_neg h2, e1, if_pos (by omega), if_pos (by omega), Int.toNat_natCast]
    rw [T_self] at this
    exact this
theorem RUnquote_is (s : ByteArray) (hs : s.size ≤ 1000) : ∃ r, platenref02_Unquote.f 70000 s = some r ∧ ((r.2 = true ∧ ∃ asc, T (quoteB r.1 asc) = s) ∨ r = (T [], false)) := by
  refine ⟨_, RUnquote_f s (by omega), ?_⟩
  by_cases h2 : s.size < 2
  · rw [if_pos h2]; exact .inr rfl
  · rw [if_neg h2]
    cases lenGo s.size (s.extract 1 (s.size - 1)).data.toList [] with
    | none => exact .inr rfl
    | some t =>
      simp only [finL]
      by_cases h : T (quoteB (T t) false) = s ∨ T (quoteB (T t) true) = s
      · rw [if_pos h]
        exact .inl ⟨rfl, h.elim (fun h => ⟨_, h⟩) (fun h => ⟨_, h⟩)⟩
      · rw [if_neg h]; exact .inr rfl
theorem RUnquote_back (s : ByteArray) (asc : Bool) (hs : (T (quoteB s asc)).size ≤ 1000) : platenref02_Unquote.f 70000 (T (quoteB s asc)) = some (s, true) := by
  have hL := quoteB_length s asc
  have hz : (T (quoteB s asc)).size = (qparts s asc s.size 0).length + 2 := by rw [T_size, hL]
  have ex : ((T (quoteB s asc)).extract 1 ((T (quoteB s asc)).size - 1)).data.toList = qparts s asc s.size 0 := by
    rw [extT, hz]
    unfold quoteB
    rw [show (qparts s asc s.size 0).length + 2 - 1 = ([34] ++ qparts s asc s.size 0).length by simp, List.take_left]
    rfl
  have hu := lenGo_back s asc s.size 0 (T (quoteB s asc)).size [] (by omega) (by rw [hz]; omega)
  rw [List.nil_append, List.drop_zero] at hu
  rw [RUnquote_f _ (by omega), if_neg (by omega), ex, hu]
  simp only [finL, T_self]
  rw [if_pos]
  cases asc
  · exact .inl rfl
  · exact .inr rfl
theorem unqGo_le : ∀ (f : Nat) (r : ByteArray) (l t : List UInt8), unqGo f r l = some t → t.length ≤ l.length + 4 * r.size := by
  intro f
  induction f with
  | zero =>
    intro r l t h
    simp only [unqGo] at h
    split at h
    · cases h; omega
    · cases h
  | succ f ih =>
    intro r l t h
    simp only [unqGo] at h
    split at h
    · cases h; omega
    · rename_i h0
      split at h
      · cases h
      · rename_i h1
        obtain ⟨o1, o2, o3⟩ := oneB_range r (by omega)
        have := ih _ _ _ h
        have e := size_sub r (oneB r).2.toNat r.size (by omega) (Nat.le_refl _)
        rw [e, List.length_append, ← Lib.size_eq] at this
        omega
theorem Unquote_is (s : ByteArray) (hs : s.size ≤ 1000) : ∃ r, quote_Unquote.f s = some r ∧ ((r.2 = true ∧ ∃ asc, T (quoteB r.1 asc) = s) ∨ r = (T [], false)) := by
  unfold quote_Unquote.f
  rw [if_pos (by omega)]
  split
  · exact ⟨_, rfl, .inr rfl⟩
  · rename_i hc
    cases hu : unqGo s.size (s.extract 1 (s.size - 1)) [] with
    | none => exact ⟨_, rfl, .inr rfl⟩
    | some l =>
      have hle := unqGo_le _ _ _ _ hu
      have hz := size_sub s 1 (s.size - 1) (by omega) (by omega)
      rw [hz, List.length_nil] at hle
      simp only []
      rw [Quote_f (T l) false (by rw [T_size]; omega), Quote_f (T l) true (by rw [T_size]; omega), Option.bind_some, Option.bind_some]
      by_cases h : T (quoteB (T l) false) ≠ s ∧ T (quoteB (T l) true) ≠ s
      · rw [if_pos h]; exact ⟨_, rfl, .inr rfl⟩
      · rw [if_neg h]
        refine ⟨_, rfl, .inl ⟨rfl, ?_⟩⟩
        by_cases h1 : T (quoteB (T l) false) = s
        · exact ⟨false, h1⟩
        · exact ⟨true, Decidable.byContradiction fun h2 => h ⟨h1, h2⟩⟩
theorem unquote_same (s : ByteArray) (hs : s.size ≤ 1000) : quote_Unquote.f s = platenref02_Unquote.f 70000 s ∧ ∃ r, quote_Unquote.f s = some r := by
  obtain ⟨r1, e1, h1⟩ := Unquote_is s hs
  obtain ⟨r2, e2, h2⟩ := RUnquote_is s hs
  refine ⟨?_, r1, e1⟩
  rcases h1 with ⟨h1, asc, q⟩ | h1
  · have := RUnquote_back r1.1 asc (by rw [q]; exact hs)
    rw [q] at this
    rw [e1, this, ← h1]
  · rcases h2 with ⟨h2, asc, q⟩ | h2
    · have hz := quoteB_ge r2.1 asc
      rw [← T_size, q] at hz
      have := Unquote_back r2.1 asc (by omega)
      rw [q] at this
      rw [e2, this, ← h2]
    · rw [e1, e2, h1, h2]
theorem reads_f (a0 : ByteArray) : PQReads.platenlaw02_QuoteReads.f 70000 a0 = some true := by
  obtain ⟨s, hs, hz⟩ := cut_f a0
  obtain ⟨he, r, hr⟩ := unquote_same s hz
  unfold PQReads.platenlaw02_QuoteReads.f
  rw [hs, Option.bind_some, ← he, hr, Option.bind_some, Option.bind_some, if_pos rfl, if_pos (by simp), lives_f 69900]
  rfl
theorem lawQuoteReads.lawC (s : ByteArray) (W : World) (hok : Ok W) (_h : s.size ≤ 140737488351232) :
    Calls Tryd.prog 3 #[.string s] W fun e w' => e = .returned (.bool true) ∧ Below W.heap.size W w' :=
  PQReads.platenlaw02_QuoteReads.calls 70000 s true W ⟨hok⟩ (reads_f s)
end Go.Proofs.YtcoippikicikoaaDoor
namespace Go.Proofs.YtcoippikicikoaaDoor
open Go.ChangeShapes Go.WideShapes Go.ChangeAt Go.RowKit Go.Lib
theorem handed_shaped {H : Type} {enc : TypeId × Value → H} {a : Assume} {C : Checked} {os : Os} {f : FuncId} {fn : Func} {s : ChangeSpec} {conds : List PathCond} {apart fresh handsOn again : Bool} {X : World → Array Value → Prop}
    (hX : ∀ (w w' : World) (args : Array Value), w.heap = w'.heap → X w args → X w' args)
    (own : ownKnob C.prog.godebug = none) (started : os.Started) (noInit : C.prog.inits.idxOf? f = none) (hfn : C.prog.funcs[f]? = some fn)
    (witness : ∃ (w : World) (tape : Tape) (i : Input), w.os = os ∧ (w.forCall tape i).Shaped C.prog ∧ i.vars = [] ∧ Input.okWide C.prog (w.forCall tape i) .any w.heap.size f i ∧
      ((s.pre enc C.prog fn conds apart (w.forCall tape i).memory i.args ∧ X (w.forCall tape i).memory i.args) ∧ sizedMet enc C.prog fn (OpenSpec.ofChange s) apart (w.forCall tape i).memory i.args) ∧ a.holds C.prog (lone (Frame.enter C.prog f i.args .normal) [] (w.forCall tape i)))
    (contract : ∀ (W : World) (base : Nat) (args : Array Value) (ds gs : List (DataW H)) (before : List MemPlace),
      (∀ (j : Nat) t v, fn.params[j]? = some t → args[j]? = some v → Value.okWide C.prog W .any base t v) →
      DataW.Whole enc C.prog fn.params.toList s.vars apart W args.toList ds gs before →
      conds.all (PathCond.test C.prog ⟨fn.params.toList, ds, s.plain.varTypes C.prog, gs⟩) = true →
      (DataW.weightsEach C.prog (fn.params.toList ++ s.plain.varTypes C.prog) (ds ++ gs)).all (· ≤ reachBytes) = true → X W args → W.ShapedOpen C.prog →
      a.holds C.prog (lone (Frame.enter C.prog f args .normal) [] W) →
      Calls C.prog f args W fun e W' => ∃ v, e = .returned v ∧ s.post enc C.prog fn apart fresh handsOn again W args v W') :
    ReturnsInHanded a C os f .any (fun w args => (s.pre enc C.prog fn conds apart w args ∧ X w args) ∧ sizedMet enc C.prog fn (OpenSpec.ofChange s) apart w args) (s.post enc C.prog fn apart fresh handsOn again) := by
  refine returnsInHanded_of_calls own started noInit witness ?_
  intro w tape i _ hsh _ hok hpre hholds
  obtain ⟨_, _, _, fn', hfn', _, _, _, _, hval⟩ := hok
  have e : fn' = fn := Option.some.inj (hfn'.symm.trans hfn)
  subst e
  obtain ⟨⟨⟨ds, gs, before, hw, hc⟩, hx⟩, hz⟩ := hpre
  have hw' := DataW.Whole.of_heap (w' := w.forCall tape i) (by rfl) hw
  refine (contract (w.forCall tape i) w.heap.size i.args ds gs before hval hw' hc (hz.weights hw) (hX _ _ _ (by rfl) hx) hsh hholds).mono fun e W' ⟨v, he, hp⟩ => ?_
  subst he
  exact ChangeSpec.post_blind hp
theorem own : ownKnob Tryd.prog.godebug = none := by kernel_rfl
def tables : List (String × DataW Unit) := [("unicode/utf8.acceptRanges", Rows.laid_unicode_utf8_acceptRanges), ("unicode/utf8.first", Rows.laid_unicode_utf8_first)]
theorem accept_eq : (Rows.laid_unicode_utf8_acceptRanges : DataW Unit) = Lib.acceptData := by kernel_rfl
theorem first_eq : Rows.laid_unicode_utf8_first = Lib.firstData := Pinned.utf8First_eq
theorem extra : U8Extra Tryd.prog Tryd.lays260_ren := ⟨by kernel_rfl, by kernel_rfl, by kernel_rfl, by kernel_rfl, by kernel_rfl, by kernel_rfl, by kernel_rfl⟩
theorem ok_of {W : World} (hL : laidMet Tryd.prog tables W) (hS : W.ShapedOpen Tryd.prog) : Ok W := by
  refine ⟨?_, Go.Proofs.cell_of_shapedOpen_int (zero := #[.int .i64 0]) (t := 3) hS (of_decide_eq_true (by kernel_rfl)) (by kernel_rfl) rfl (by kernel_rfl) (by kernel_rfl) Tryd.underlying3⟩
  have h3 : VarReads Tryd.prog W "unicode/utf8.first" Lib.firstData := first_eq ▸ Lib.laidMet.reads hL (.tail _ (.head _))
  have h4 : VarReads Tryd.prog W "unicode/utf8.acceptRanges" Lib.acceptData := accept_eq ▸ Lib.laidMet.reads hL (.head _)
  exact utf8Tabs_of_reads Tryd.lays260 extra h3 h4
end Go.Proofs.YtcoippikicikoaaDoor
namespace Go.Proofs.YtcoippikicikoaaDoor.lawQuoteReads
open Go.ChangeShapes Go.WideShapes Go.ChangeAt Go.RowKit Go.Lib
open Go.ChangeMaps (open_string shut_string)
set_option maxRecDepth 100000 in
theorem lifted (os : Os) (started : os.Started) (H : Type) (enc : TypeId × Value → H) :
    ReturnsInHanded {} Tryd.checked os 3 .any (fun w args => (Rows.quoteReadsSpec.pre enc Tryd.prog Tryd.f3 [] false w args ∧ laidMetH Tryd.prog tables w) ∧ sizedMet enc Tryd.prog Tryd.f3 (OpenSpec.ofChange Rows.quoteReadsSpec) false w args)
      (Rows.quoteReadsSpec.post enc Tryd.prog Tryd.f3 false true false false) := by
  refine handed_shaped (C := Tryd.checked) (X := fun w _ => laidMetH Tryd.prog tables w) (fun _ _ _ hh h => h.of_heap hh) own started (by kernel_rfl) Tryd.func3
    (ChangeSpec.witness_shaped (enc := enc) (C := Tryd.checked) (os := os) (X := fun w _ => laidMetH Tryd.prog tables w) false (World.laidAll Tryd.prog os tables) #[.string ⟨#[]⟩] 8 (World.laidAll_os _ _ _)
      (World.shaped_of_ZipB (by kernel_rfl) (by kernel_rfl)) (by kernel_rfl) (by kernel_rfl) (by kernel_rfl)
      (by rw [MakeChecks.laidMetH_plain _ _ _ (by kernel_rfl)]; exact laidMet_laidAll _ (by kernel_rfl) (by kernel_rfl))) ?_
  intro W base args ds gs before hval0 hW _ hsz0 hL hS _
  have hval : ∀ (j : Nat) t v, Tryd.f3.params[j]? = some t → args[j]? = some v → Value.okWide Tryd.prog W .any base t v := hval0
  have hsz : (DataW.weightsEach Tryd.prog (Tryd.f3.params.toList ++ Rows.quoteReadsSpec.plain.varTypes Tryd.prog) (ds ++ gs)).all (· ≤ reachBytes) = true := hsz0
  have hW' := hW
  obtain ⟨p, q, hA0, hV, rfl, _, _⟩ := hW
  have hA : DataW.TrodAll enc Tryd.prog W 0 (fun _ => true) true Tryd.f3.params.toList args.toList ds p := hA0
  rw [Tryd.params3] at hA hval
  obtain ⟨v0, vs0, d0, ds0, p0, q0, hargs, rfl, rfl, h0, r0⟩ := trodAll_cons hA
  obtain ⟨rfl, rfl, rfl⟩ := trodAll_nil r0
  obtain rfl : args = #[v0] := by cases args; simp_all
  obtain ⟨rfl, rfl⟩ := trodVars_none hV
  rw [MakeChecks.laidMetH_plain _ _ _ (by kernel_rfl)] at hL
  have hok := ok_of hL hS
  obtain ⟨a0, rfl, rfl, rfl, y0⟩ := open_string Tryd.underlying9 (hval 0 9 v0 rfl rfl) h0
  have w0 : a0.size ≤ 140737488351232 := by
    have z := sized_string hsz (j := 0) (t := 9) rfl rfl
    rw [Array.length_toList] at z
    exact z
  refine (lawQuoteReads.lawC a0 W hok w0).mono fun e W' ⟨he, hb⟩ => ?_
  subst he
  exact ⟨_, rfl, _, _, _, [], _, [], hW', trodAll_mk1 (shut_bool Tryd.underlying4 _), (trodAll_cons_mk (shut_string Tryd.underlying9 y0) trodAll_mk0), rfl, hb.frame _, fun h => by cases h⟩
theorem said : Rows.QuoteReadsSaid :=
  OpenClaim.holds_of_wide 3 Tryd.f3 rfl rfl rfl rfl rfl rfl rfl ⟨rfl, rfl, rfl, rfl, rfl⟩ rfl rfl rfl rfl rfl (by kernel_rfl) Tryd.func3 (by kernel_rfl)
    (of_decide_eq_true (by kernel_rfl)) (by unfold Func.isWrapper; first | (rw [if_pos (by decide +kernel)]; kernel_rfl) | (rw [if_neg (by decide +kernel)]; exact ⟨rfl, rfl⟩))
    (fun os started H enc _ => lifted os started H enc)
theorem plain (f : FuncId) (fn : Func) (hf : Tryd.pinned.checked.prog.funcNamed Rows.quoteReadsRow.func = some f) (hfn : Tryd.pinned.checked.prog.funcs[f]? = some fn) :
    false = Tryd.pinned.checked.prog.looks [] ∧ ∀ (j : Nat) t, fn.params[j]? = some t → Tryd.pinned.checked.prog.wantsStandIn t = false := by
  obtain rfl : f = 3 := Option.some.inj ((show Tryd.prog.funcNamed Rows.quoteReadsRow.func = some 3 by kernel_rfl).symm.trans hf) |>.symm
  obtain rfl : fn = Tryd.f3 := (Option.some.inj (Tryd.func3.symm.trans hfn)).symm
  refine ⟨by kernel_rfl, fun j t ht => ?_⟩
  rw [Tryd.params3] at ht
  have hm : t ∈ [9] := by simpa using Array.mem_of_getElem? ht
  have hall : ([9].all fun u => !Tryd.prog.wantsStandIn u) = true := by kernel_rfl
  exact (show Tryd.prog.wantsStandIn t = false by simpa using List.all_eq_true.1 hall t hm)
theorem card : Rows.QuoteReadsCardSaid :=
  Claim7.holds_tied_plain_at .later [] _ _ _ _ said (fun _ h => by cases h) (by kernel_rfl) (fun _ h => by cases h) quoteReads_row_tie rfl ⟨rfl, rfl⟩ (by kernel_rfl) rfl plain (by kernel_rfl)
end Go.Proofs.YtcoippikicikoaaDoor.lawQuoteReads
#print axioms Go.Proofs.YtcoippikicikoaaDoor.lawQuoteReads.card
