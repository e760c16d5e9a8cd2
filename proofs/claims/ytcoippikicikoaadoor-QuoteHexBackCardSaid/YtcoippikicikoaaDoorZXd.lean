/- Part of the proof of lawQuoteHexBack.card: texts merged by this session's bundle.py. -/
import Derived.Test.YtcoippikicikoaaDoorProg
import Derived.Below
import Derived.Deep.Draws
import Derived.Deep.AppendLies
import Derived.Maps.AppendAt
import Derived.OwnWalk
import Derived.Laws.BytesArg
import Derived.Laws.MakeOwn
import Derived.Laws.OwnMore
import Derived.Deep.OwnRows
import Derived.Tactics
import Derived.Lib.ConvBytes
import Derived.Laws.Slices
import Derived.WalkKit
import Derived.KernelRfl
import Derived.RowKit3
import Derived.Deep.LoopGhost
import Derived.Deep.QuietTactic
import Derived.BigQuiet
import Derived.WideLaws
import Derived.Deep.DeepCutAuto
import Derived.Deep.CutBlock
import Derived.Deep.RegionHeld3
import Derived.Laws.Rows
import Derived.Lib.AppendStr
import Derived.ArgAppend
import Derived.Laws.IdiomCopy
import Derived.OrdersHeld
import Derived.Laws.BitsLemmas
import Derived.RowKit
import Derived.Test.YtcoippikicikoaaDoorZXc
namespace Go.Proofs.YtcoippikicikoaaDoor.PQGen
open Go.RowKit Go.Proofs.YtcoippikicikoaaDoorW.PrintWords Go.Proofs.YtcoippikicikoaaDoorW.PrintLast Go.Proofs.YtcoippikicikoaaDoorW.PrintMore
attribute [local go_sem] max2_int min2_int max_two min_two
set_option linter.unusedVariables false
set_option linter.unusedSimpArgs false
mutual
def quote_Text.j0 : Nat → ByteArray → Int → Bool → Bool → Bool → Bool → Bool → Bool → Int → Int → Int → Option (ByteArray × Bool)
 | 0, _, _, _, _, _, _, _, _, _, _, _ => none
 | k + 1, x0, x9, x10, x164000, x164001, x164002, x164003, x164004, x164005, x164006, x164007 => if x10 = true then (if x164007 = 118 then (quote_Text.j1 k x0 x164002 x164000 x164001 x164002 x164003 x164004 x164005 x164006 x164007) else (quote_Text.j1 k x0 false x164000 x164001 x164002 x164003 x164004 x164005 x164006 x164007)) else (if x9 = 113 then ((buf_Cut.f x0 x164006).bind fun t168 => (if x164002 = true then ((quote_Raw.f t168).bind fun bt169 => (if bt169.2 = true then ((buf_Pad.f bt169.1 x164000 x164001 x164002 x164003 x164004 x164005 x164006 x164007).bind fun t171 => (some (t171, true))) else ((quote_Quote.f t168 x164000).bind fun t172 => ((buf_Pad.f t172 x164000 x164001 x164002 x164003 x164004 x164005 x164006 x164007).bind fun t173 => (some (t173, true)))))) else ((quote_Quote.f t168 x164000).bind fun t174 => ((buf_Pad.f t174 x164000 x164001 x164002 x164003 x164004 x164005 x164006 x164007).bind fun t175 => (some (t175, true)))))) else (if x9 = 120 then ((quote_Hex.f k x0 x164000 x164001 x164002 x164003 x164004 x164005 x164006 x164007).bind fun t176 => (some (t176, true))) else (if x9 = 88 then ((quote_Hex.f k x0 x164000 x164001 x164002 x164003 x164004 x164005 x164006 x164007).bind fun t177 => (some (t177, true))) else (some ((⟨#[]⟩ : ByteArray), false)))))
def quote_Text.j1 : Nat → ByteArray → Bool → Bool → Bool → Bool → Bool → Bool → Int → Int → Int → Option (ByteArray × Bool)
 | 0, _, _, _, _, _, _, _, _, _, _ => none
 | k + 1, x0, x19, x164000, x164001, x164002, x164003, x164004, x164005, x164006, x164007 => if x19 = true then ((quote_Quote.f x0 false).bind fun t164 => ((buf_Pad.f t164 x164000 x164001 x164002 x164003 x164004 x164005 x164006 x164007).bind fun t165 => (some (t165, true)))) else ((buf_Cut.f x0 x164006).bind fun t166 => ((buf_Pad.f t166 x164000 x164001 x164002 x164003 x164004 x164005 x164006 x164007).bind fun t167 => (some (t167, true))))
end
def quote_Text.f (k : Nat) (a0 : ByteArray) (a1_0 : Bool) (a1_1 : Bool) (a1_2 : Bool) (a1_3 : Bool) (a1_4 : Bool) (a1_5 : Int) (a1_6 : Int) (a1_7 : Int) : Option (ByteArray × Bool) := if a1_7 = 118 then (quote_Text.j0 k a0 a1_7 (a1_7 == 118) a1_0 a1_1 a1_2 a1_3 a1_4 a1_5 a1_6 a1_7) else (quote_Text.j0 k a0 a1_7 (a1_7 == 115) a1_0 a1_1 a1_2 a1_3 a1_4 a1_5 a1_6 a1_7)
theorem quote_Text.mono_l : ∀ k, (∀ y0 y1 y2 y3 y4 y5 y6 y7 y8 y9 y10, LeO (quote_Text.j0 k y0 y1 y2 y3 y4 y5 y6 y7 y8 y9 y10) (quote_Text.j0 (k + 1) y0 y1 y2 y3 y4 y5 y6 y7 y8 y9 y10)) ∧ (∀ y0 y1 y2 y3 y4 y5 y6 y7 y8 y9, LeO (quote_Text.j1 k y0 y1 y2 y3 y4 y5 y6 y7 y8 y9) (quote_Text.j1 (k + 1) y0 y1 y2 y3 y4 y5 y6 y7 y8 y9))
 | 0 => ⟨fun _ _ _ _ _ _ _ _ _ _ _ r h => by simp [quote_Text.j0] at h, fun _ _ _ _ _ _ _ _ _ _ r h => by simp [quote_Text.j1] at h⟩
 | k + 1 => by
  obtain ⟨ih0, ih1⟩ := quote_Text.mono_l k
  refine ⟨?_, ?_⟩
  ·
   intro y0 y1 y2 y3 y4 y5 y6 y7 y8 y9 y10
   unfold quote_Text.j0
   repeat' first
   | (with_reducible exact ih0 _ _ _ _ _ _ _ _ _ _ _)
   | (with_reducible exact ih1 _ _ _ _ _ _ _ _ _ _)
   | (with_reducible exact quote_Hex.mono _ _ _ _ _ _ _ _ _ _)
   | (with_reducible exact LeO.refl _)
   | (with_reducible exact LeO.none _)
   | (with_reducible refine LeO.ite ?_ ?_)
   | (with_reducible refine LeO.bind ?_ (fun _ => ?_))
   | exact ih0 _ _ _ _ _ _ _ _ _ _ _
   | exact ih1 _ _ _ _ _ _ _ _ _ _
   | exact quote_Hex.mono _ _ _ _ _ _ _ _ _ _
   | exact LeO.none _
   | refine LeO.ite ?_ ?_
   | refine LeO.bind ?_ (fun _ => ?_)
  ·
   intro y0 y1 y2 y3 y4 y5 y6 y7 y8 y9
   unfold quote_Text.j1
   repeat' first
   | (with_reducible exact ih0 _ _ _ _ _ _ _ _ _ _ _)
   | (with_reducible exact ih1 _ _ _ _ _ _ _ _ _ _)
   | (with_reducible exact quote_Hex.mono _ _ _ _ _ _ _ _ _ _)
   | (with_reducible exact LeO.refl _)
   | (with_reducible exact LeO.none _)
   | (with_reducible refine LeO.ite ?_ ?_)
   | (with_reducible refine LeO.bind ?_ (fun _ => ?_))
   | exact ih0 _ _ _ _ _ _ _ _ _ _ _
   | exact ih1 _ _ _ _ _ _ _ _ _ _
   | exact quote_Hex.mono _ _ _ _ _ _ _ _ _ _
   | exact LeO.none _
   | refine LeO.ite ?_ ?_
   | refine LeO.bind ?_ (fun _ => ?_)
theorem quote_Text.mono : ∀ a0 a1 a2 a3 a4 a5 a6 a7 a8 k, LeO (quote_Text.f k a0 a1 a2 a3 a4 a5 a6 a7 a8) (quote_Text.f (k + 1) a0 a1 a2 a3 a4 a5 a6 a7 a8) := by
 intro a0 a1 a2 a3 a4 a5 a6 a7 a8 k
 obtain ⟨ih0, ih1⟩ := quote_Text.mono_l k
 unfold quote_Text.f
 repeat' first
  | (with_reducible exact ih0 _ _ _ _ _ _ _ _ _ _ _)
  | (with_reducible exact ih1 _ _ _ _ _ _ _ _ _ _)
  | (with_reducible exact quote_Hex.mono _ _ _ _ _ _ _ _ _ _)
  | (with_reducible exact LeO.refl _)
  | (with_reducible exact LeO.none _)
  | (with_reducible refine LeO.ite ?_ ?_)
  | (with_reducible refine LeO.bind ?_ (fun _ => ?_))
  | exact ih0 _ _ _ _ _ _ _ _ _ _ _
  | exact ih1 _ _ _ _ _ _ _ _ _ _
  | exact quote_Hex.mono _ _ _ _ _ _ _ _ _ _
  | exact LeO.none _
  | refine LeO.ite ?_ ?_
  | refine LeO.bind ?_ (fun _ => ?_)
def quote_Text.T6 : Bool × List (List Nat × List Nat) := (true, [([], []), ([], []), ([1], [1]), ([0, 2], [0, 2]), ([], []), ([3, 4, 3], [3, 4]), ([5, 5, 0, 1, 2, 3, 4, 5], [5]), ([6, 0, 1, 2, 3, 4, 5, 6], [])])
def quote_Text.B6 : List Nat := [0, 0, 2, 7, 0, 31, 63, 127]
theorem quote_Text.tab6 : rtab .any (opsOf Tryd.f17 6) = quote_Text.T6 := by kernel_rfl
theorem quote_Text.bits6 : waitsOk quote_Text.T6.2 quote_Text.B6 = true := by kernel_rfl
def quote_Text.T13 : Bool × List (List Nat × List Nat) := (true, [([], []), ([], []), ([1], [1]), ([0, 2], [0, 2]), ([], []), ([3, 4, 3], [3, 4]), ([5, 5, 0, 1, 2, 3, 4, 5], [5]), ([6, 0, 1, 2, 3, 4, 5, 6], [])])
def quote_Text.B13 : List Nat := [0, 0, 2, 7, 0, 31, 63, 127]
theorem quote_Text.tab13 : rtab .any (opsOf Tryd.f17 13) = quote_Text.T13 := by kernel_rfl
theorem quote_Text.bits13 : waitsOk quote_Text.T13.2 quote_Text.B13 = true := by kernel_rfl
set_option maxHeartbeats 8000000 in
set_option maxRecDepth 100000 in
theorem quote_Text.calls (k : Nat) (a0 : ByteArray) (a1_0 : Bool) (a1_1 : Bool) (a1_2 : Bool) (a1_3 : Bool) (a1_4 : Bool) (a1_5 : Int) (a1_6 : Int) (a1_7 : Int) (r1 : ByteArray) (r2 : Bool) (w : World) (hOK : Aside0 (Ok w)) (h : quote_Text.f k a0 a1_0 a1_1 a1_2 a1_3 a1_4 a1_5 a1_6 a1_7 = some (r1, r2)) :
 Calls Tryd.prog 17 #[.string a0, .agg #[.bool a1_0, .bool a1_1, .bool a1_2, .bool a1_3, .bool a1_4, .int .i64 a1_5, .int .i64 a1_6, .int .i32 a1_7]] w fun e w' => e = .returned (.tuple #[.string r1, .bool r2]) ∧ Below w.heap.size w w' := by
 have hu28 := Tryd.underlying28
 have HB := Aside0.mk (Below.refl w.heap.size w)
 have H : (if a1_7 = 118 then (quote_Text.j0 k a0 a1_7 (a1_7 == 118) a1_0 a1_1 a1_2 a1_3 a1_4 a1_5 a1_6 a1_7) else (quote_Text.j0 k a0 a1_7 (a1_7 == 115) a1_0 a1_1 a1_2 a1_3 a1_4 a1_5 a1_6 a1_7)) = some (r1, r2) := h
 clear h
 have HC3 := Aside0.mk H
 clear H
 go_enter Tryd.func17, Tryd.ntmps17
 go_upto_if 10 with (first | ((with_reducible refine gate_dst (N := 3) rfl ?_); refine box_event ?hg (N := 3) ?hd (cs := #[.bool a1_0, .bool a1_1, .bool a1_2, .bool a1_3, .bool a1_4, .int .i64 a1_5, .int .i64 a1_6, .int .i32 a1_7]) (t := 28) ?hr ?_; (case hd => rfl); (case hg => rfl); (case hr => first | (go_simp; done) | (go_simp; rfl)); intro gb163 hg w4 hbox hb; have n0_ := Aside0.mk (below_step (by repeat (first | (with_reducible first | exact HB.out | apply below_alloc | apply pw_below_drewN | apply below_drew1) | exact HB.out)) hb); have n1_ := Aside0.mk (hbox); have n2_ := Aside0.mk ((by rw [hg]; exact (below_size (by repeat (first | (with_reducible first | exact HB.out | apply below_alloc | apply pw_below_drewN | apply below_drew1) | exact HB.out))) : w.heap.size ≤ gb163)); have n3_ := Aside0.mk ((by rw [hg]; exact (below_size (by repeat (first | (with_reducible first | exact HB.out | apply below_alloc | apply pw_below_drewN | apply below_drew1) | exact HB.out))) : w.heap.size ≤ gb163)); clear HB; have HB := n0_; have BK163 := n1_; have GW163 := n2_; have GE163 := n3_; clear n0_ n1_ n2_ n3_; clear hb hbox hg; have hcz5_0 : w4.cell? ⟨gb163, 0, none⟩ = some (.bool a1_0) := (blk_cell BK163.out 0).trans rfl; have hcz5_1 : w4.cell? ⟨gb163, 1, none⟩ = some (.bool a1_1) := (blk_cell BK163.out 1).trans rfl; have hcz5_2 : w4.cell? ⟨gb163, 2, none⟩ = some (.bool a1_2) := (blk_cell BK163.out 2).trans rfl; have hcz5_3 : w4.cell? ⟨gb163, 3, none⟩ = some (.bool a1_3) := (blk_cell BK163.out 3).trans rfl; have hcz5_4 : w4.cell? ⟨gb163, 4, none⟩ = some (.bool a1_4) := (blk_cell BK163.out 4).trans rfl; have hcz5_5 : w4.cell? ⟨gb163, 5, none⟩ = some (.int .i64 a1_5) := (blk_cell BK163.out 5).trans rfl; have hcz5_6 : w4.cell? ⟨gb163, 6, none⟩ = some (.int .i64 a1_6) := (blk_cell BK163.out 6).trans rfl; have hcz5_7 : w4.cell? ⟨gb163, 7, none⟩ = some (.int .i32 a1_7) := (blk_cell BK163.out 7).trans rfl; have hfz5_0 := blk_frozen BK163.out 0; have hfz5_1 := blk_frozen BK163.out 1; have hfz5_2 := blk_frozen BK163.out 2; have hfz5_3 := blk_frozen BK163.out 3; have hfz5_4 := blk_frozen BK163.out 4; have hfz5_5 := blk_frozen BK163.out 5; have hfz5_6 := blk_frozen BK163.out 6; have hfz5_7 := blk_frozen BK163.out 7))
 (try simp only [Act.put, List.setIfInBounds_toArray, List.set_cons_zero, List.set_cons_succ])
 go_cut [10] (fun v10 wc => ∃ (kq : Nat) (x10_2 : Bool), v10 = .bool x10_2 ∧ Aside0 (quote_Text.j0 kq a0 a1_7 x10_2 a1_0 a1_1 a1_2 a1_3 a1_4 a1_5 a1_6 a1_7 = some (r1, r2)) ∧ Aside0 (kq ≤ k) ∧ Aside0 (wc.heap[gb163]? = some (.cells #[.bool a1_0, .bool a1_1, .bool a1_2, .bool a1_3, .bool a1_4, .int .i64 a1_5, .int .i64 a1_6, .int .i32 a1_7] 28 (0, 0))) ∧ Aside0 (Below w.heap.size w wc))
 case first =>
  have H := HC3.out
  clear HC3
  by_cases c6 : a1_7 = 118
  ·
   rw [if_pos c6] at H
   have c6b0 : (a1_7 == 118) = true := beq_iff_eq.mpr c6
   have c6b1 : (a1_7 != 118) = false := bne_eq_false_iff_eq.mpr c6
   clear c6
   (first | rw [c6b0] | (simp only [i64_w, i32_w]; rw [c6b0]) | skip)
   have H' := Aside0.mk H
   clear H
   go_wp2
   (first | go_meet | (refine Met.intro ?_; go_step; (repeat apply Exists.intro); refine ⟨?rel, (by first | rfl | (simp only [c6b0]; rfl))⟩))
   case rel => exact ⟨_, ((a1_7 == 118)), (by first | rfl | (simp; done) | (simp [*]; done)), H', ⟨by first | omega | exact Nat.le_refl _⟩, ⟨by (with_reducible repeat (first | refine blk_drewN ?_ _ | refine blk_drew ?_ | refine blk_alloc ?_ _)); exact BK163.out⟩, ⟨by repeat (first | (with_reducible first | exact HB.out | apply below_alloc | apply pw_below_drewN | apply below_drew1 | refine below_set ?_ GE163.out) | exact HB.out)⟩⟩
  ·
   rw [if_neg c6] at H
   have c6b0 : (a1_7 == 118) = false := beq_eq_false_iff_ne.mpr c6
   have c6b1 : (a1_7 != 118) = true := bne_iff_ne.mpr c6
   (first | rw [c6b0] | (simp only [i64_w, i32_w]; rw [c6b0]) | skip)
   have H' := Aside0.mk H
   clear H
   go_wp2
   (first | go_meet | (refine Met.intro ?_; go_step; (repeat apply Exists.intro); refine ⟨?rel, (by first | rfl | (simp only [c6b0]; rfl))⟩))
   case rel => exact ⟨_, ((a1_7 == 115)), (by first | rfl | (simp; done) | (simp [*]; done)), H', ⟨by first | omega | exact Nat.le_refl _⟩, ⟨by (with_reducible repeat (first | refine blk_drewN ?_ _ | refine blk_drew ?_ | refine blk_alloc ?_ _)); exact BK163.out⟩, ⟨by repeat (first | (with_reducible first | exact HB.out | apply below_alloc | apply pw_below_drewN | apply below_drew1 | refine below_set ?_ GE163.out) | exact HB.out)⟩⟩
 case rest =>
  clear HC3
  try clear c1
  try clear p2
  try clear c6
  try clear c6b0
  try clear c6b1
  try clear hcz5_0
  try clear hcz5_1
  try clear hcz5_2
  try clear hcz5_3
  try clear hcz5_4
  try clear hcz5_5
  try clear hcz5_6
  try clear hcz5_7
  try clear hfz5_0
  try clear hfz5_1
  try clear hfz5_2
  try clear hfz5_3
  try clear hfz5_4
  try clear hfz5_5
  try clear hfz5_6
  try clear hfz5_7
  obtain ⟨kq, x10_2, rfl, HA, HJ2, BK163, HB⟩ := hcut
  cases kq with
  | zero => exact absurd HA.out (by simp [quote_Text.j0])
  | succ kj2 =>
   have H := HA.out
   clear HA
   simp only [quote_Text.j0] at H
   by_cases c7 : x10_2 = true
   ·
    subst c7
    have H1 : (if a1_7 = 118 then (quote_Text.j1 kj2 a0 a1_2 a1_0 a1_1 a1_2 a1_3 a1_4 a1_5 a1_6 a1_7) else (quote_Text.j1 kj2 a0 false a1_0 a1_1 a1_2 a1_3 a1_4 a1_5 a1_6 a1_7)) = some (r1, r2) := by rw [if_pos rfl] at H; exact H
    clear H
    have H := H1
    clear H1
    have HC8 := Aside0.mk H
    clear H
    go_upto_region 4 with (fail)
    go_cut [19] (fun v19 wc => ∃ (kq : Nat) (x19_7 : Bool), v19 = .bool x19_7 ∧ Aside0 (quote_Text.j1 kq a0 x19_7 a1_0 a1_1 a1_2 a1_3 a1_4 a1_5 a1_6 a1_7 = some (r1, r2)) ∧ Aside0 (kq ≤ kj2) ∧ Aside0 (wc.heap[gb163]? = some (.cells #[.bool a1_0, .bool a1_1, .bool a1_2, .bool a1_3, .bool a1_4, .int .i64 a1_5, .int .i64 a1_6, .int .i32 a1_7] 28 (0, 0))) ∧ Aside0 (Below w.heap.size w wc))
    case first =>
     have H := HC8.out
     clear HC8
     by_cases c9 : a1_7 = 118
     ·
      rw [if_pos c9] at H
      have c9b0 : (a1_7 == 118) = true := beq_iff_eq.mpr c9
      have c9b1 : (a1_7 != 118) = false := bne_eq_false_iff_eq.mpr c9
      clear c9
      (first | rw [c9b0] | (simp only [i64_w, i32_w]; rw [c9b0]) | skip)
      have H' := Aside0.mk H
      clear H
      have hcz10_0 : wc.cell? ⟨gb163, 0, none⟩ = some (.bool a1_0) := (blk_cell BK163.out 0).trans rfl
      have hcz10_1 : wc.cell? ⟨gb163, 1, none⟩ = some (.bool a1_1) := (blk_cell BK163.out 1).trans rfl
      have hcz10_2 : wc.cell? ⟨gb163, 2, none⟩ = some (.bool a1_2) := (blk_cell BK163.out 2).trans rfl
      have hcz10_3 : wc.cell? ⟨gb163, 3, none⟩ = some (.bool a1_3) := (blk_cell BK163.out 3).trans rfl
      have hcz10_4 : wc.cell? ⟨gb163, 4, none⟩ = some (.bool a1_4) := (blk_cell BK163.out 4).trans rfl
      have hcz10_5 : wc.cell? ⟨gb163, 5, none⟩ = some (.int .i64 a1_5) := (blk_cell BK163.out 5).trans rfl
      have hcz10_6 : wc.cell? ⟨gb163, 6, none⟩ = some (.int .i64 a1_6) := (blk_cell BK163.out 6).trans rfl
      have hcz10_7 : wc.cell? ⟨gb163, 7, none⟩ = some (.int .i32 a1_7) := (blk_cell BK163.out 7).trans rfl
      have hfz10_0 := blk_frozen BK163.out 0
      have hfz10_1 := blk_frozen BK163.out 1
      have hfz10_2 := blk_frozen BK163.out 2
      have hfz10_3 := blk_frozen BK163.out 3
      have hfz10_4 := blk_frozen BK163.out 4
      have hfz10_5 := blk_frozen BK163.out 5
      have hfz10_6 := blk_frozen BK163.out 6
      have hfz10_7 := blk_frozen BK163.out 7
      go_wp2
      (first | go_meet | (refine Met.intro ?_; go_step; (repeat apply Exists.intro); refine ⟨?rel, (by first | rfl | (simp only [c9b0]; rfl))⟩))
      case rel => exact ⟨_, (a1_2), (by first | rfl | (simp; done) | (simp [*]; done)), H', ⟨by have := HJ2.out; first | omega | exact Nat.le_refl _⟩, ⟨by (with_reducible repeat (first | refine blk_drewN ?_ _ | refine blk_drew ?_ | refine blk_alloc ?_ _)); exact BK163.out⟩, ⟨by repeat (first | (with_reducible first | exact HB.out | apply below_alloc | apply pw_below_drewN | apply below_drew1 | refine below_set ?_ GE163.out) | exact HB.out)⟩⟩
     ·
      rw [if_neg c9] at H
      have c9b0 : (a1_7 == 118) = false := beq_eq_false_iff_ne.mpr c9
      have c9b1 : (a1_7 != 118) = true := bne_iff_ne.mpr c9
      (first | rw [c9b0] | (simp only [i64_w, i32_w]; rw [c9b0]) | skip)
      have H' := Aside0.mk H
      clear H
      have hcz11_0 : wc.cell? ⟨gb163, 0, none⟩ = some (.bool a1_0) := (blk_cell BK163.out 0).trans rfl
      have hcz11_1 : wc.cell? ⟨gb163, 1, none⟩ = some (.bool a1_1) := (blk_cell BK163.out 1).trans rfl
      have hcz11_2 : wc.cell? ⟨gb163, 2, none⟩ = some (.bool a1_2) := (blk_cell BK163.out 2).trans rfl
      have hcz11_3 : wc.cell? ⟨gb163, 3, none⟩ = some (.bool a1_3) := (blk_cell BK163.out 3).trans rfl
      have hcz11_4 : wc.cell? ⟨gb163, 4, none⟩ = some (.bool a1_4) := (blk_cell BK163.out 4).trans rfl
      have hcz11_5 : wc.cell? ⟨gb163, 5, none⟩ = some (.int .i64 a1_5) := (blk_cell BK163.out 5).trans rfl
      have hcz11_6 : wc.cell? ⟨gb163, 6, none⟩ = some (.int .i64 a1_6) := (blk_cell BK163.out 6).trans rfl
      have hcz11_7 : wc.cell? ⟨gb163, 7, none⟩ = some (.int .i32 a1_7) := (blk_cell BK163.out 7).trans rfl
      have hfz11_0 := blk_frozen BK163.out 0
      have hfz11_1 := blk_frozen BK163.out 1
      have hfz11_2 := blk_frozen BK163.out 2
      have hfz11_3 := blk_frozen BK163.out 3
      have hfz11_4 := blk_frozen BK163.out 4
      have hfz11_5 := blk_frozen BK163.out 5
      have hfz11_6 := blk_frozen BK163.out 6
      have hfz11_7 := blk_frozen BK163.out 7
      go_wp2
      (first | go_meet | (refine Met.intro ?_; go_step; (repeat apply Exists.intro); refine ⟨?rel, (by first | rfl | (simp only [c9b0]; rfl))⟩))
      case rel => exact ⟨_, (false), (by first | rfl | (simp; done) | (simp [*]; done)), H', ⟨by have := HJ2.out; first | omega | exact Nat.le_refl _⟩, ⟨by (with_reducible repeat (first | refine blk_drewN ?_ _ | refine blk_drew ?_ | refine blk_alloc ?_ _)); exact BK163.out⟩, ⟨by repeat (first | (with_reducible first | exact HB.out | apply below_alloc | apply pw_below_drewN | apply below_drew1 | refine below_set ?_ GE163.out) | exact HB.out)⟩⟩
    case rest =>
     clear HC8
     try clear c1
     try clear p2
     try clear c6
     try clear c6b0
     try clear c6b1
     try clear c7
     try clear c9
     try clear c9b0
     try clear c9b1
     try clear hcz10_0
     try clear hcz10_1
     try clear hcz10_2
     try clear hcz10_3
     try clear hcz10_4
     try clear hcz10_5
     try clear hcz10_6
     try clear hcz10_7
     try clear hcz11_0
     try clear hcz11_1
     try clear hcz11_2
     try clear hcz11_3
     try clear hcz11_4
     try clear hcz11_5
     try clear hcz11_6
     try clear hcz11_7
     try clear hcz5_0
     try clear hcz5_1
     try clear hcz5_2
     try clear hcz5_3
     try clear hcz5_4
     try clear hcz5_5
     try clear hcz5_6
     try clear hcz5_7
     try clear hfz10_0
     try clear hfz10_1
     try clear hfz10_2
     try clear hfz10_3
     try clear hfz10_4
     try clear hfz10_5
     try clear hfz10_6
     try clear hfz10_7
     try clear hfz11_0
     try clear hfz11_1
     try clear hfz11_2
     try clear hfz11_3
     try clear hfz11_4
     try clear hfz11_5
     try clear hfz11_6
     try clear hfz11_7
     try clear hfz5_0
     try clear hfz5_1
     try clear hfz5_2
     try clear hfz5_3
     try clear hfz5_4
     try clear hfz5_5
     try clear hfz5_6
     try clear hfz5_7
     try clear p2
     obtain ⟨kq, x19_7, rfl, HA, HJ7, BK163, HB⟩ := hcut
     cases kq with
     | zero => exact absurd HA.out (by simp [quote_Text.j1])
     | succ kj7 =>
      have H := HA.out
      clear HA
      simp only [quote_Text.j1] at H
      by_cases c12 : x19_7 = true
      ·
       subst c12
       have H1 : ((quote_Quote.f a0 false).bind fun t164 => ((buf_Pad.f t164 a1_0 a1_1 a1_2 a1_3 a1_4 a1_5 a1_6 a1_7).bind fun t165 => (some (t165, true)))) = some (r1, r2) := by rw [if_pos rfl] at H; exact H
       clear H
       have H := H1
       clear H1
       replace H := Option.bind_eq_some_iff.mp H
       obtain ⟨t164, A130, H⟩ := H
       replace H : ((buf_Pad.f t164 a1_0 a1_1 a1_2 a1_3 a1_4 a1_5 a1_6 a1_7).bind fun t165 => (some (t165, true))) = some (r1, r2) := H
       have A13 := Aside0.mk A130
       clear A130
       replace H := Option.bind_eq_some_iff.mp H
       obtain ⟨t165, A140, H⟩ := H
       replace H : (some (t165, true)) = some (r1, r2) := H
       have A14 := Aside0.mk A140
       clear A140
       simp only [Option.some.injEq, Prod.mk.injEq] at H
       obtain ⟨rfl, rfl⟩ := H
       try go_wp2
       have n0_ := Aside0.mk (blk_drew BK163.out)
       have n1_ := Aside0.mk (below_drew1 HB.out)
       clear BK163
       clear HB
       have BK163 := n0_
       have HB := n1_
       clear n0_ n1_
       refine start_ (n := 6) (S := fun w' => w'.cell? ⟨gb163, 0, none⟩ = some (.bool a1_0) ∧ w'.cell? ⟨gb163, 1, none⟩ = some (.bool a1_1) ∧ w'.cell? ⟨gb163, 2, none⟩ = some (.bool a1_2) ∧ w'.cell? ⟨gb163, 3, none⟩ = some (.bool a1_3) ∧ w'.cell? ⟨gb163, 4, none⟩ = some (.bool a1_4) ∧ w'.cell? ⟨gb163, 5, none⟩ = some (.int .i64 a1_5) ∧ w'.cell? ⟨gb163, 6, none⟩ = some (.int .i64 a1_6) ∧ w'.cell? ⟨gb163, 7, none⟩ = some (.int .i32 a1_7)) (ds := []) #[false, false, false, false, false, false] (by kernel_rfl) rfl rfl ⟨(blk_cell BK163.out 0).trans rfl, (blk_cell BK163.out 1).trans rfl, (blk_cell BK163.out 2).trans rfl, (blk_cell BK163.out 3).trans rfl, (blk_cell BK163.out 4).trans rfl, (blk_cell BK163.out 5).trans rfl, (blk_cell BK163.out 6).trans rfl, (blk_cell BK163.out 7).trans rfl⟩ (fun hHeld => ?_)
       generalize wc.drew = w15 at BK163 HB hHeld ⊢
       refine pure_ (i := 0) (N := some 20) (v := ?_) (a' := ?_) #[true, false, false, false, false, false] rfl rfl (by kernel_rfl) (fun _ _ _ h => h) (Or.inl ⟨by rfl, ?_⟩) ?_ ?_
       rotate_left
       ·
        intro w'
        go_simp
        with_reducible rfl
       rotate_left
       ·
        simp only [Act.put, List.setIfInBounds_toArray, List.set_cons_zero, List.set_cons_succ, i64_w, i32_w]
        rfl
       refine take_ (i := 2) (N := some 22) (v := ?_) (a' := ?_) #[true, false, true, false, false, false] rfl rfl (by kernel_rfl) (fun _ _ _ h => h) (Or.inl ⟨by rfl, ?_⟩) hHeld ?_ ?_
       rotate_left
       ·
        rintro w' ⟨s0, s1, s2, s3, s4, s5, s6, s7⟩
        go_simp
        with_reducible rfl
       rotate_left
       ·
        simp only [Act.put, List.setIfInBounds_toArray, List.set_cons_zero, List.set_cons_succ, i64_w, i32_w]
        rfl
       refine one_ (i := 1) (N := some 21) #[true, true, true, false, false, false] rfl rfl (by kernel_rfl) (by decide) (fun K hK => ?_)
       refine goes_ Tryd.func19 (by kernel_rfl) rfl #[.string a0, .bool false] (by rfl) rfl rfl (by (try simp only [List.map_toArray, List.map_cons, List.map_nil]); first | done | rfl | (simp only [List.length_drop, List.length_take]; rfl)) ?_
       with_reducible refine (quote_Quote.calls a0 false t164 _ (by (try refine Aside0.mk ?_); first | exact hOK.out | exact (hOK.out).drewN _ | (refine (hOK.out).later ?_; (repeat (first | (with_reducible first | exact HB.out | apply below_alloc | apply pw_below_drewN | apply below_drew1) | exact HB.out))) | (refine Ok.drewN ?_ _; exact hOK.out)) A13.out).mono ?_
       rintro e w16 ⟨rfl, hb⟩
       refine ⟨_, rfl, ?_⟩
       have n0_ := Aside0.mk (blk_below (g := gb163) (o := .cells #[.bool a1_0, .bool a1_1, .bool a1_2, .bool a1_3, .bool a1_4, .int .i64 a1_5, .int .i64 a1_6, .int .i32 a1_7] 28 (0, 0)) (by (with_reducible repeat (first | refine blk_drewN ?_ _ | refine blk_drew ?_ | refine blk_alloc ?_ _)); exact BK163.out) hb)
       have n1_ := Aside0.mk (below_step (by repeat (first | (with_reducible first | exact HB.out | apply below_alloc | apply pw_below_drewN | apply below_drew1 | refine below_set ?_ GE163.out) | exact HB.out)) hb)
       clear BK163
       clear HB
       have BK163 := n0_
       have HB := n1_
       clear n0_ n1_
       (try clear hb)
       (try clear hb2)
       (try clear hk)
       (try clear hi)
       refine hK.out _ _ ⟨(blk_cell BK163.out 0).trans rfl, (blk_cell BK163.out 1).trans rfl, (blk_cell BK163.out 2).trans rfl, (blk_cell BK163.out 3).trans rfl, (blk_cell BK163.out 4).trans rfl, (blk_cell BK163.out 5).trans rfl, (blk_cell BK163.out 6).trans rfl, (blk_cell BK163.out 7).trans rfl⟩ (fun hHeld => ?_)
       clear hK K
       refine norm_ (a' := ?_) ?_ ?_
       rotate_left
       ·
        show Act.put _ (some 21) _ = _
        simp only [Act.put, List.setIfInBounds_toArray, List.set_cons_zero, List.set_cons_succ, i64_w, i32_w]
        rfl
       refine one_ (i := 3) (N := some 23) #[true, true, true, true, false, false] rfl rfl (by kernel_rfl) (by decide) (fun K hK => ?_)
       refine goes_ Tryd.func32 (by kernel_rfl) rfl #[.string t164, .agg #[.bool a1_0, .bool a1_1, .bool a1_2, .bool a1_3, .bool a1_4, .int .i64 a1_5, .int .i64 a1_6, .int .i32 a1_7]] (by rfl) rfl rfl (by (try simp only [List.map_toArray, List.map_cons, List.map_nil]); first | done | rfl | (simp only [List.length_drop, List.length_take]; rfl)) ?_
       with_reducible refine (buf_Pad.calls t164 a1_0 a1_1 a1_2 a1_3 a1_4 a1_5 a1_6 a1_7 t165 _ A14.out).mono ?_
       rintro e w17 ⟨rfl, hb⟩
       refine ⟨_, rfl, ?_⟩
       have n0_ := Aside0.mk (blk_below (g := gb163) (o := .cells #[.bool a1_0, .bool a1_1, .bool a1_2, .bool a1_3, .bool a1_4, .int .i64 a1_5, .int .i64 a1_6, .int .i32 a1_7] 28 (0, 0)) (by (with_reducible repeat (first | refine blk_drewN ?_ _ | refine blk_drew ?_ | refine blk_alloc ?_ _)); exact BK163.out) hb)
       have n1_ := Aside0.mk (below_step (by repeat (first | (with_reducible first | exact HB.out | apply below_alloc | apply pw_below_drewN | apply below_drew1 | refine below_set ?_ GE163.out) | exact HB.out)) hb)
       clear BK163
       clear HB
       have BK163 := n0_
       have HB := n1_
       clear n0_ n1_
       (try clear hb)
       (try clear hb2)
       (try clear hk)
       (try clear hi)
       refine hK.out _ _ ⟨(blk_cell BK163.out 0).trans rfl, (blk_cell BK163.out 1).trans rfl, (blk_cell BK163.out 2).trans rfl, (blk_cell BK163.out 3).trans rfl, (blk_cell BK163.out 4).trans rfl, (blk_cell BK163.out 5).trans rfl, (blk_cell BK163.out 6).trans rfl, (blk_cell BK163.out 7).trans rfl⟩ (fun hHeld => ?_)
       clear hK K
       refine norm_ (a' := ?_) ?_ ?_
       rotate_left
       ·
        show Act.put _ (some 23) _ = _
        simp only [Act.put, List.setIfInBounds_toArray, List.set_cons_zero, List.set_cons_succ, i64_w, i32_w]
        rfl
       refine pure_ (i := 4) (N := some 4) (v := ?_) (a' := ?_) #[true, true, true, true, true, false] rfl rfl (by kernel_rfl) (fun _ _ _ h => h) (Or.inl ⟨by rfl, ?_⟩) ?_ ?_
       rotate_left
       ·
        intro w'
        go_simp
        with_reducible rfl
       rotate_left
       ·
        simp only [Act.put, List.setIfInBounds_toArray, List.set_cons_zero, List.set_cons_succ, i64_w, i32_w]
        rfl
       refine pure_ (i := 5) (N := some 5) (v := ?_) (a' := ?_) #[true, true, true, true, true, true] rfl rfl (by kernel_rfl) (fun _ _ _ h => h) (Or.inl ⟨by rfl, ?_⟩) ?_ ?_
       rotate_left
       ·
        intro w'
        go_simp
        with_reducible rfl
       rotate_left
       ·
        simp only [Act.put, List.setIfInBounds_toArray, List.set_cons_zero, List.set_cons_succ, i64_w, i32_w]
        rfl
       refine done_ (by kernel_rfl) ?_
       try go_wp2
       go_ret2
       exact ⟨by first | rfl | (simp [errW_none, errW_some] <;> rfl) | (simp [*, errW_none, errW_some] <;> rfl), by repeat (first | (with_reducible first | exact HB.out | apply below_alloc | apply pw_below_drewN | apply below_drew1 | refine below_set ?_ GE163.out) | exact HB.out)⟩
      ·
       replace c12 := Bool.eq_false_iff.mpr c12
       subst c12
       have H1 : ((buf_Cut.f a0 a1_6).bind fun t166 => ((buf_Pad.f t166 a1_0 a1_1 a1_2 a1_3 a1_4 a1_5 a1_6 a1_7).bind fun t167 => (some (t167, true)))) = some (r1, r2) := by rw [if_neg (show ¬ (false = true) by decide)] at H; exact H
       clear H
       have H := H1
       clear H1
       replace H := Option.bind_eq_some_iff.mp H
       obtain ⟨t166, A180, H⟩ := H
       replace H : ((buf_Pad.f t166 a1_0 a1_1 a1_2 a1_3 a1_4 a1_5 a1_6 a1_7).bind fun t167 => (some (t167, true))) = some (r1, r2) := H
       have A18 := Aside0.mk A180
       clear A180
       replace H := Option.bind_eq_some_iff.mp H
       obtain ⟨t167, A190, H⟩ := H
       replace H : (some (t167, true)) = some (r1, r2) := H
       have A19 := Aside0.mk A190
       clear A190
       simp only [Option.some.injEq, Prod.mk.injEq] at H
       obtain ⟨rfl, rfl⟩ := H
       try go_wp2
       have n0_ := Aside0.mk (blk_drew BK163.out)
       have n1_ := Aside0.mk (below_drew1 HB.out)
       clear BK163
       clear HB
       have BK163 := n0_
       have HB := n1_
       clear n0_ n1_
       refine start_ (n := 8) (S := fun w' => w'.cell? ⟨gb163, 0, none⟩ = some (.bool a1_0) ∧ w'.cell? ⟨gb163, 1, none⟩ = some (.bool a1_1) ∧ w'.cell? ⟨gb163, 2, none⟩ = some (.bool a1_2) ∧ w'.cell? ⟨gb163, 3, none⟩ = some (.bool a1_3) ∧ w'.cell? ⟨gb163, 4, none⟩ = some (.bool a1_4) ∧ w'.cell? ⟨gb163, 5, none⟩ = some (.int .i64 a1_5) ∧ w'.cell? ⟨gb163, 6, none⟩ = some (.int .i64 a1_6) ∧ w'.cell? ⟨gb163, 7, none⟩ = some (.int .i32 a1_7)) (ds := []) #[false, false, false, false, false, false, false, false] (by kernel_rfl) rfl rfl ⟨(blk_cell BK163.out 0).trans rfl, (blk_cell BK163.out 1).trans rfl, (blk_cell BK163.out 2).trans rfl, (blk_cell BK163.out 3).trans rfl, (blk_cell BK163.out 4).trans rfl, (blk_cell BK163.out 5).trans rfl, (blk_cell BK163.out 6).trans rfl, (blk_cell BK163.out 7).trans rfl⟩ (fun hHeld => ?_); refine with_tabW quote_Text.tab6 quote_Text.bits6 (fun HT_ HW_ => ?_)
       generalize wc.drew = w20 at BK163 HB hHeld ⊢
       refine pure_ (i := 0) (N := some 24) (v := ?_) (a' := ?_) #[true, false, false, false, false, false, false, false] rfl rfl (any_of HT_.out (by kernel_rfl)) (fun _ _ _ h => h) (Or.inl ⟨by rfl, ?_⟩) ?_ ?_
       rotate_left
       ·
        intro w'
        go_simp
        with_reducible rfl
       rotate_left
       ·
        simp only [Act.put, List.setIfInBounds_toArray, List.set_cons_zero, List.set_cons_succ, i64_w, i32_w]
        rfl
       refine pure_ (i := 1) (N := some 25) (v := ?_) (a' := ?_) #[true, true, false, false, false, false, false, false] rfl rfl (any_of HT_.out (by kernel_rfl)) (fun _ _ _ h => h) (Or.inl ⟨by rfl, ?_⟩) ?_ ?_
       rotate_left
       ·
        intro w'
        go_simp
        with_reducible rfl
       rotate_left
       ·
        simp only [Act.put, List.setIfInBounds_toArray, List.set_cons_zero, List.set_cons_succ, i64_w, i32_w]
        rfl
       refine take_ (i := 2) (N := some 26) (v := ?_) (a' := ?_) #[true, true, true, false, false, false, false, false] rfl rfl (take_ofW HT_.out HW_.out (by kernel_rfl)) (fun _ _ _ h => h) (Or.inl ⟨by rfl, ?_⟩) hHeld ?_ ?_
       rotate_left
       ·
        rintro w' ⟨s0, s1, s2, s3, s4, s5, s6, s7⟩
        go_simp
        with_reducible rfl
       rotate_left
       ·
        simp only [Act.put, List.setIfInBounds_toArray, List.set_cons_zero, List.set_cons_succ, i64_w, i32_w]
        rfl
       refine take_ (i := 4) (N := some 28) (v := ?_) (a' := ?_) #[true, true, true, false, true, false, false, false] rfl rfl (take_ofW HT_.out HW_.out (by kernel_rfl)) (fun _ _ _ h => h) (Or.inl ⟨by rfl, ?_⟩) hHeld ?_ ?_
       rotate_left
       ·
        rintro w' ⟨s0, s1, s2, s3, s4, s5, s6, s7⟩
        go_simp
        with_reducible rfl
       rotate_left
       ·
        simp only [Act.put, List.setIfInBounds_toArray, List.set_cons_zero, List.set_cons_succ, i64_w, i32_w]
        rfl
       refine one_ (i := 3) (N := some 27) #[true, true, true, true, true, false, false, false] rfl rfl (one_of HT_.out (by kernel_rfl)) (by decide) (fun K hK => ?_)
       refine goes_ Tryd.func35 (by kernel_rfl) rfl #[.string a0, .int .i64 a1_6] (by rfl) rfl rfl (by (try simp only [List.map_toArray, List.map_cons, List.map_nil]); first | done | rfl | (simp only [List.length_drop, List.length_take]; rfl)) ?_
       with_reducible refine (buf_Cut.calls a0 a1_6 t166 _ A18.out).mono ?_
       rintro e w21 ⟨rfl, hb⟩
       refine ⟨_, rfl, ?_⟩
       have n0_ := Aside0.mk (blk_below (g := gb163) (o := .cells #[.bool a1_0, .bool a1_1, .bool a1_2, .bool a1_3, .bool a1_4, .int .i64 a1_5, .int .i64 a1_6, .int .i32 a1_7] 28 (0, 0)) (by (with_reducible repeat (first | refine blk_drewN ?_ _ | refine blk_drew ?_ | refine blk_alloc ?_ _)); exact BK163.out) hb)
       have n1_ := Aside0.mk (below_step (by repeat (first | (with_reducible first | exact HB.out | apply below_alloc | apply pw_below_drewN | apply below_drew1 | refine below_set ?_ GE163.out) | exact HB.out)) hb)
       clear BK163
       clear HB
       have BK163 := n0_
       have HB := n1_
       clear n0_ n1_
       (try clear hb)
       (try clear hb2)
       (try clear hk)
       (try clear hi)
       refine hK.out _ _ ⟨(blk_cell BK163.out 0).trans rfl, (blk_cell BK163.out 1).trans rfl, (blk_cell BK163.out 2).trans rfl, (blk_cell BK163.out 3).trans rfl, (blk_cell BK163.out 4).trans rfl, (blk_cell BK163.out 5).trans rfl, (blk_cell BK163.out 6).trans rfl, (blk_cell BK163.out 7).trans rfl⟩ (fun hHeld => ?_)
       clear hK K
       refine norm_ (a' := ?_) ?_ ?_
       rotate_left
       ·
        show Act.put _ (some 27) _ = _
        simp only [Act.put, List.setIfInBounds_toArray, List.set_cons_zero, List.set_cons_succ, i64_w, i32_w]
        rfl
       refine one_ (i := 5) (N := some 29) #[true, true, true, true, true, true, false, false] rfl rfl (one_of HT_.out (by kernel_rfl)) (by decide) (fun K hK => ?_)
       refine goes_ Tryd.func32 (by kernel_rfl) rfl #[.string t166, .agg #[.bool a1_0, .bool a1_1, .bool a1_2, .bool a1_3, .bool a1_4, .int .i64 a1_5, .int .i64 a1_6, .int .i32 a1_7]] (by rfl) rfl rfl (by (try simp only [List.map_toArray, List.map_cons, List.map_nil]); first | done | rfl | (simp only [List.length_drop, List.length_take]; rfl)) ?_
       with_reducible refine (buf_Pad.calls t166 a1_0 a1_1 a1_2 a1_3 a1_4 a1_5 a1_6 a1_7 t167 _ A19.out).mono ?_
       rintro e w22 ⟨rfl, hb⟩
       refine ⟨_, rfl, ?_⟩
       have n0_ := Aside0.mk (blk_below (g := gb163) (o := .cells #[.bool a1_0, .bool a1_1, .bool a1_2, .bool a1_3, .bool a1_4, .int .i64 a1_5, .int .i64 a1_6, .int .i32 a1_7] 28 (0, 0)) (by (with_reducible repeat (first | refine blk_drewN ?_ _ | refine blk_drew ?_ | refine blk_alloc ?_ _)); exact BK163.out) hb)
       have n1_ := Aside0.mk (below_step (by repeat (first | (with_reducible first | exact HB.out | apply below_alloc | apply pw_below_drewN | apply below_drew1 | refine below_set ?_ GE163.out) | exact HB.out)) hb)
       clear BK163
       clear HB
       have BK163 := n0_
       have HB := n1_
       clear n0_ n1_
       (try clear hb)
       (try clear hb2)
       (try clear hk)
       (try clear hi)
       refine hK.out _ _ ⟨(blk_cell BK163.out 0).trans rfl, (blk_cell BK163.out 1).trans rfl, (blk_cell BK163.out 2).trans rfl, (blk_cell BK163.out 3).trans rfl, (blk_cell BK163.out 4).trans rfl, (blk_cell BK163.out 5).trans rfl, (blk_cell BK163.out 6).trans rfl, (blk_cell BK163.out 7).trans rfl⟩ (fun hHeld => ?_)
       clear hK K
       refine norm_ (a' := ?_) ?_ ?_
       rotate_left
       ·
        show Act.put _ (some 29) _ = _
        simp only [Act.put, List.setIfInBounds_toArray, List.set_cons_zero, List.set_cons_succ, i64_w, i32_w]
        rfl
       refine pure_ (i := 6) (N := some 4) (v := ?_) (a' := ?_) #[true, true, true, true, true, true, true, false] rfl rfl (any_of HT_.out (by kernel_rfl)) (fun _ _ _ h => h) (Or.inl ⟨by rfl, ?_⟩) ?_ ?_
       rotate_left
       ·
        intro w'
        go_simp
        with_reducible rfl
       rotate_left
       ·
        simp only [Act.put, List.setIfInBounds_toArray, List.set_cons_zero, List.set_cons_succ, i64_w, i32_w]
        rfl
       refine pure_ (i := 7) (N := some 5) (v := ?_) (a' := ?_) #[true, true, true, true, true, true, true, true] rfl rfl (any_of HT_.out (by kernel_rfl)) (fun _ _ _ h => h) (Or.inl ⟨by rfl, ?_⟩) ?_ ?_
       rotate_left
       ·
        intro w'
        go_simp
        with_reducible rfl
       rotate_left
       ·
        simp only [Act.put, List.setIfInBounds_toArray, List.set_cons_zero, List.set_cons_succ, i64_w, i32_w]
        rfl
       refine done_ (done_of HT_.out (by kernel_rfl)) ?_
       try go_wp2
       go_ret2
       exact ⟨by first | rfl | (simp [errW_none, errW_some] <;> rfl) | (simp [*, errW_none, errW_some] <;> rfl), by repeat (first | (with_reducible first | exact HB.out | apply below_alloc | apply pw_below_drewN | apply below_drew1 | refine below_set ?_ GE163.out) | exact HB.out)⟩
   ·
    replace c7 := Bool.eq_false_iff.mpr c7
    subst c7
    have H1 : (if a1_7 = 113 then ((buf_Cut.f a0 a1_6).bind fun t168 => (if a1_2 = true then ((quote_Raw.f t168).bind fun bt169 => (if bt169.2 = true then ((buf_Pad.f bt169.1 a1_0 a1_1 a1_2 a1_3 a1_4 a1_5 a1_6 a1_7).bind fun t171 => (some (t171, true))) else ((quote_Quote.f t168 a1_0).bind fun t172 => ((buf_Pad.f t172 a1_0 a1_1 a1_2 a1_3 a1_4 a1_5 a1_6 a1_7).bind fun t173 => (some (t173, true)))))) else ((quote_Quote.f t168 a1_0).bind fun t174 => ((buf_Pad.f t174 a1_0 a1_1 a1_2 a1_3 a1_4 a1_5 a1_6 a1_7).bind fun t175 => (some (t175, true)))))) else (if a1_7 = 120 then ((quote_Hex.f kj2 a0 a1_0 a1_1 a1_2 a1_3 a1_4 a1_5 a1_6 a1_7).bind fun t176 => (some (t176, true))) else (if a1_7 = 88 then ((quote_Hex.f kj2 a0 a1_0 a1_1 a1_2 a1_3 a1_4 a1_5 a1_6 a1_7).bind fun t177 => (some (t177, true))) else (some ((⟨#[]⟩ : ByteArray), false))))) = some (r1, r2) := by rw [if_neg (show ¬ (false = true) by decide)] at H; exact H
    clear H
    have H := H1
    clear H1
    by_cases c23 : a1_7 = 113
    ·
     rw [if_pos c23] at H
     have c23b0 : (a1_7 == 113) = true := beq_iff_eq.mpr c23
     have c23b1 : (a1_7 != 113) = false := bne_eq_false_iff_eq.mpr c23
     clear c23
     replace H := Option.bind_eq_some_iff.mp H
     obtain ⟨t168, A240, H⟩ := H
     replace H : (if a1_2 = true then ((quote_Raw.f t168).bind fun bt169 => (if bt169.2 = true then ((buf_Pad.f bt169.1 a1_0 a1_1 a1_2 a1_3 a1_4 a1_5 a1_6 a1_7).bind fun t171 => (some (t171, true))) else ((quote_Quote.f t168 a1_0).bind fun t172 => ((buf_Pad.f t172 a1_0 a1_1 a1_2 a1_3 a1_4 a1_5 a1_6 a1_7).bind fun t173 => (some (t173, true)))))) else ((quote_Quote.f t168 a1_0).bind fun t174 => ((buf_Pad.f t174 a1_0 a1_1 a1_2 a1_3 a1_4 a1_5 a1_6 a1_7).bind fun t175 => (some (t175, true))))) = some (r1, r2) := H
     have A24 := Aside0.mk A240
     clear A240
     by_cases c25 : a1_2 = true
     ·
      subst c25
      have H1 : ((quote_Raw.f t168).bind fun bt169 => (if bt169.2 = true then ((buf_Pad.f bt169.1 a1_0 a1_1 true a1_3 a1_4 a1_5 a1_6 a1_7).bind fun t171 => (some (t171, true))) else ((quote_Quote.f t168 a1_0).bind fun t172 => ((buf_Pad.f t172 a1_0 a1_1 true a1_3 a1_4 a1_5 a1_6 a1_7).bind fun t173 => (some (t173, true)))))) = some (r1, r2) := by rw [if_pos rfl] at H; exact H
      clear H
      have H := H1
      clear H1
      replace H := Option.bind_eq_some_iff.mp H
      obtain ⟨⟨t169, t170⟩, A260, H⟩ := H
      replace H : (if t170 = true then ((buf_Pad.f t169 a1_0 a1_1 true a1_3 a1_4 a1_5 a1_6 a1_7).bind fun t171 => (some (t171, true))) else ((quote_Quote.f t168 a1_0).bind fun t172 => ((buf_Pad.f t172 a1_0 a1_1 true a1_3 a1_4 a1_5 a1_6 a1_7).bind fun t173 => (some (t173, true))))) = some (r1, r2) := H
      have A26 := Aside0.mk A260
      clear A260
      by_cases c27 : t170 = true
      ·
       subst c27
       have H1 : ((buf_Pad.f t169 a1_0 a1_1 true a1_3 a1_4 a1_5 a1_6 a1_7).bind fun t171 => (some (t171, true))) = some (r1, r2) := by rw [if_pos rfl] at H; exact H
       clear H
       have H := H1
       clear H1
       replace H := Option.bind_eq_some_iff.mp H
       obtain ⟨t171, A280, H⟩ := H
       replace H : (some (t171, true)) = some (r1, r2) := H
       have A28 := Aside0.mk A280
       clear A280
       simp only [Option.some.injEq, Prod.mk.injEq] at H
       obtain ⟨rfl, rfl⟩ := H
       have hcz29_0 : wc.cell? ⟨gb163, 0, none⟩ = some (.bool a1_0) := (blk_cell BK163.out 0).trans rfl
       have hcz29_1 : wc.cell? ⟨gb163, 1, none⟩ = some (.bool a1_1) := (blk_cell BK163.out 1).trans rfl
       have hcz29_2 : wc.cell? ⟨gb163, 2, none⟩ = some (.bool true) := (blk_cell BK163.out 2).trans rfl
       have hcz29_3 : wc.cell? ⟨gb163, 3, none⟩ = some (.bool a1_3) := (blk_cell BK163.out 3).trans rfl
       have hcz29_4 : wc.cell? ⟨gb163, 4, none⟩ = some (.bool a1_4) := (blk_cell BK163.out 4).trans rfl
       have hcz29_5 : wc.cell? ⟨gb163, 5, none⟩ = some (.int .i64 a1_5) := (blk_cell BK163.out 5).trans rfl
       have hcz29_6 : wc.cell? ⟨gb163, 6, none⟩ = some (.int .i64 a1_6) := (blk_cell BK163.out 6).trans rfl
       have hcz29_7 : wc.cell? ⟨gb163, 7, none⟩ = some (.int .i32 a1_7) := (blk_cell BK163.out 7).trans rfl
       have hfz29_0 := blk_frozen BK163.out 0
       have hfz29_1 := blk_frozen BK163.out 1
       have hfz29_2 := blk_frozen BK163.out 2
       have hfz29_3 := blk_frozen BK163.out 3
       have hfz29_4 := blk_frozen BK163.out 4
       have hfz29_5 := blk_frozen BK163.out 5
       have hfz29_6 := blk_frozen BK163.out 6
       have hfz29_7 := blk_frozen BK163.out 7
       go_wp2_with (first | ((with_reducible refine gate_callee (f := 35) rfl ?_); refine goesL_ (some 35) rfl rfl Tryd.func35 (by kernel_rfl) rfl #[.string a0, .int .i64 a1_6] rfl (by (try simp only [List.map_toArray, List.map_cons, List.map_nil]); first | done | rfl | (simp only [List.length_drop, List.length_take]; rfl)) ?_; (with_reducible refine (buf_Cut.calls a0 a1_6 t168 _ A24.out).mono ?_); rintro e w30 ⟨rfl, hb⟩; refine ⟨_, rfl, ?_⟩; have n0_ := Aside0.mk (blk_below (g := gb163) (o := .cells #[.bool a1_0, .bool a1_1, .bool true, .bool a1_3, .bool a1_4, .int .i64 a1_5, .int .i64 a1_6, .int .i32 a1_7] 28 (0, 0)) (by (with_reducible repeat (first | refine blk_drewN ?_ _ | refine blk_drew ?_ | refine blk_alloc ?_ _)); exact BK163.out) hb); have n1_ := Aside0.mk (below_step (by repeat (first | (with_reducible first | exact HB.out | apply below_alloc | apply pw_below_drewN | apply below_drew1 | refine below_set ?_ GE163.out) | exact HB.out)) hb); clear BK163; clear HB; have BK163 := n0_; have HB := n1_; clear n0_ n1_; (try clear hb); (try clear hb2); (try clear hk); (try clear hi); have hcz31_0 : w30.cell? ⟨gb163, 0, none⟩ = some (.bool a1_0) := (blk_cell BK163.out 0).trans rfl; have hcz31_1 : w30.cell? ⟨gb163, 1, none⟩ = some (.bool a1_1) := (blk_cell BK163.out 1).trans rfl; have hcz31_2 : w30.cell? ⟨gb163, 2, none⟩ = some (.bool true) := (blk_cell BK163.out 2).trans rfl; have hcz31_3 : w30.cell? ⟨gb163, 3, none⟩ = some (.bool a1_3) := (blk_cell BK163.out 3).trans rfl; have hcz31_4 : w30.cell? ⟨gb163, 4, none⟩ = some (.bool a1_4) := (blk_cell BK163.out 4).trans rfl; have hcz31_5 : w30.cell? ⟨gb163, 5, none⟩ = some (.int .i64 a1_5) := (blk_cell BK163.out 5).trans rfl; have hcz31_6 : w30.cell? ⟨gb163, 6, none⟩ = some (.int .i64 a1_6) := (blk_cell BK163.out 6).trans rfl; have hcz31_7 : w30.cell? ⟨gb163, 7, none⟩ = some (.int .i32 a1_7) := (blk_cell BK163.out 7).trans rfl; have hfz31_0 := blk_frozen BK163.out 0; have hfz31_1 := blk_frozen BK163.out 1; have hfz31_2 := blk_frozen BK163.out 2; have hfz31_3 := blk_frozen BK163.out 3; have hfz31_4 := blk_frozen BK163.out 4; have hfz31_5 := blk_frozen BK163.out 5; have hfz31_6 := blk_frozen BK163.out 6; have hfz31_7 := blk_frozen BK163.out 7) | ((with_reducible refine gate_callee (f := 36) rfl ?_); refine goesL_ (some 40) rfl rfl Tryd.func36 (by kernel_rfl) rfl #[.string t168] rfl (by (try simp only [List.map_toArray, List.map_cons, List.map_nil]); first | done | rfl | (simp only [List.length_drop, List.length_take]; rfl)) ?_; (with_reducible refine (quote_Raw.calls t168 t169 true _ (by (try refine Aside0.mk ?_); first | exact hOK.out | exact (hOK.out).drewN _ | (refine (hOK.out).later ?_; (repeat (first | (with_reducible first | exact HB.out | apply below_alloc | apply pw_below_drewN | apply below_drew1) | exact HB.out))) | (refine Ok.drewN ?_ _; exact hOK.out)) A26.out).mono ?_); rintro e w32 ⟨rfl, hb⟩; refine ⟨_, rfl, ?_⟩; have n0_ := Aside0.mk (blk_below (g := gb163) (o := .cells #[.bool a1_0, .bool a1_1, .bool true, .bool a1_3, .bool a1_4, .int .i64 a1_5, .int .i64 a1_6, .int .i32 a1_7] 28 (0, 0)) (by (with_reducible repeat (first | refine blk_drewN ?_ _ | refine blk_drew ?_ | refine blk_alloc ?_ _)); exact BK163.out) hb); have n1_ := Aside0.mk (below_step (by repeat (first | (with_reducible first | exact HB.out | apply below_alloc | apply pw_below_drewN | apply below_drew1 | refine below_set ?_ GE163.out) | exact HB.out)) hb); clear BK163; clear HB; have BK163 := n0_; have HB := n1_; clear n0_ n1_; (try clear hb); (try clear hb2); (try clear hk); (try clear hi); have hcz33_0 : w32.cell? ⟨gb163, 0, none⟩ = some (.bool a1_0) := (blk_cell BK163.out 0).trans rfl; have hcz33_1 : w32.cell? ⟨gb163, 1, none⟩ = some (.bool a1_1) := (blk_cell BK163.out 1).trans rfl; have hcz33_2 : w32.cell? ⟨gb163, 2, none⟩ = some (.bool true) := (blk_cell BK163.out 2).trans rfl; have hcz33_3 : w32.cell? ⟨gb163, 3, none⟩ = some (.bool a1_3) := (blk_cell BK163.out 3).trans rfl; have hcz33_4 : w32.cell? ⟨gb163, 4, none⟩ = some (.bool a1_4) := (blk_cell BK163.out 4).trans rfl; have hcz33_5 : w32.cell? ⟨gb163, 5, none⟩ = some (.int .i64 a1_5) := (blk_cell BK163.out 5).trans rfl; have hcz33_6 : w32.cell? ⟨gb163, 6, none⟩ = some (.int .i64 a1_6) := (blk_cell BK163.out 6).trans rfl; have hcz33_7 : w32.cell? ⟨gb163, 7, none⟩ = some (.int .i32 a1_7) := (blk_cell BK163.out 7).trans rfl; have hfz33_0 := blk_frozen BK163.out 0; have hfz33_1 := blk_frozen BK163.out 1; have hfz33_2 := blk_frozen BK163.out 2; have hfz33_3 := blk_frozen BK163.out 3; have hfz33_4 := blk_frozen BK163.out 4; have hfz33_5 := blk_frozen BK163.out 5; have hfz33_6 := blk_frozen BK163.out 6; have hfz33_7 := blk_frozen BK163.out 7) | ((with_reducible refine gate_callee (f := 32) rfl ?_); refine goesL_ (some 46) rfl rfl Tryd.func32 (by kernel_rfl) rfl #[.string t169, .agg #[.bool a1_0, .bool a1_1, .bool true, .bool a1_3, .bool a1_4, .int .i64 a1_5, .int .i64 a1_6, .int .i32 a1_7]] rfl (by (try simp only [List.map_toArray, List.map_cons, List.map_nil]); first | done | rfl | (simp only [List.length_drop, List.length_take]; rfl)) ?_; (with_reducible refine (buf_Pad.calls t169 a1_0 a1_1 true a1_3 a1_4 a1_5 a1_6 a1_7 t171 _ A28.out).mono ?_); rintro e w34 ⟨rfl, hb⟩; refine ⟨_, rfl, ?_⟩; have n0_ := Aside0.mk (blk_below (g := gb163) (o := .cells #[.bool a1_0, .bool a1_1, .bool true, .bool a1_3, .bool a1_4, .int .i64 a1_5, .int .i64 a1_6, .int .i32 a1_7] 28 (0, 0)) (by (with_reducible repeat (first | refine blk_drewN ?_ _ | refine blk_drew ?_ | refine blk_alloc ?_ _)); exact BK163.out) hb); have n1_ := Aside0.mk (below_step (by repeat (first | (with_reducible first | exact HB.out | apply below_alloc | apply pw_below_drewN | apply below_drew1 | refine below_set ?_ GE163.out) | exact HB.out)) hb); clear BK163; clear HB; have BK163 := n0_; have HB := n1_; clear n0_ n1_; (try clear hb); (try clear hb2); (try clear hk); (try clear hi)))
       go_ret2
       exact ⟨by first | rfl | (simp [errW_none, errW_some] <;> rfl) | (simp [*, errW_none, errW_some] <;> rfl), by repeat (first | (with_reducible first | exact HB.out | apply below_alloc | apply pw_below_drewN | apply below_drew1 | refine below_set ?_ GE163.out) | exact HB.out)⟩
      ·
       replace c27 := Bool.eq_false_iff.mpr c27
       subst c27
       have H1 : ((quote_Quote.f t168 a1_0).bind fun t172 => ((buf_Pad.f t172 a1_0 a1_1 true a1_3 a1_4 a1_5 a1_6 a1_7).bind fun t173 => (some (t173, true)))) = some (r1, r2) := by rw [if_neg (show ¬ (false = true) by decide)] at H; exact H
       clear H
       have H := H1
       clear H1
       replace H := Option.bind_eq_some_iff.mp H
       obtain ⟨t172, A350, H⟩ := H
       replace H : ((buf_Pad.f t172 a1_0 a1_1 true a1_3 a1_4 a1_5 a1_6 a1_7).bind fun t173 => (some (t173, true))) = some (r1, r2) := H
       have A35 := Aside0.mk A350
       clear A350
       replace H := Option.bind_eq_some_iff.mp H
       obtain ⟨t173, A360, H⟩ := H
       replace H : (some (t173, true)) = some (r1, r2) := H
       have A36 := Aside0.mk A360
       clear A360
       simp only [Option.some.injEq, Prod.mk.injEq] at H
       obtain ⟨rfl, rfl⟩ := H
       have hcz37_0 : wc.cell? ⟨gb163, 0, none⟩ = some (.bool a1_0) := (blk_cell BK163.out 0).trans rfl
       have hcz37_1 : wc.cell? ⟨gb163, 1, none⟩ = some (.bool a1_1) := (blk_cell BK163.out 1).trans rfl
       have hcz37_2 : wc.cell? ⟨gb163, 2, none⟩ = some (.bool true) := (blk_cell BK163.out 2).trans rfl
       have hcz37_3 : wc.cell? ⟨gb163, 3, none⟩ = some (.bool a1_3) := (blk_cell BK163.out 3).trans rfl
       have hcz37_4 : wc.cell? ⟨gb163, 4, none⟩ = some (.bool a1_4) := (blk_cell BK163.out 4).trans rfl
       have hcz37_5 : wc.cell? ⟨gb163, 5, none⟩ = some (.int .i64 a1_5) := (blk_cell BK163.out 5).trans rfl
       have hcz37_6 : wc.cell? ⟨gb163, 6, none⟩ = some (.int .i64 a1_6) := (blk_cell BK163.out 6).trans rfl
       have hcz37_7 : wc.cell? ⟨gb163, 7, none⟩ = some (.int .i32 a1_7) := (blk_cell BK163.out 7).trans rfl
       have hfz37_0 := blk_frozen BK163.out 0
       have hfz37_1 := blk_frozen BK163.out 1
       have hfz37_2 := blk_frozen BK163.out 2
       have hfz37_3 := blk_frozen BK163.out 3
       have hfz37_4 := blk_frozen BK163.out 4
       have hfz37_5 := blk_frozen BK163.out 5
       have hfz37_6 := blk_frozen BK163.out 6
       have hfz37_7 := blk_frozen BK163.out 7
       try go_wp2_with (first | ((with_reducible refine gate_callee (f := 35) rfl ?_); refine goesL_ (some 35) rfl rfl Tryd.func35 (by kernel_rfl) rfl #[.string a0, .int .i64 a1_6] rfl (by (try simp only [List.map_toArray, List.map_cons, List.map_nil]); first | done | rfl | (simp only [List.length_drop, List.length_take]; rfl)) ?_; (with_reducible refine (buf_Cut.calls a0 a1_6 t168 _ A24.out).mono ?_); rintro e w38 ⟨rfl, hb⟩; refine ⟨_, rfl, ?_⟩; have n0_ := Aside0.mk (blk_below (g := gb163) (o := .cells #[.bool a1_0, .bool a1_1, .bool true, .bool a1_3, .bool a1_4, .int .i64 a1_5, .int .i64 a1_6, .int .i32 a1_7] 28 (0, 0)) (by (with_reducible repeat (first | refine blk_drewN ?_ _ | refine blk_drew ?_ | refine blk_alloc ?_ _)); exact BK163.out) hb); have n1_ := Aside0.mk (below_step (by repeat (first | (with_reducible first | exact HB.out | apply below_alloc | apply pw_below_drewN | apply below_drew1 | refine below_set ?_ GE163.out) | exact HB.out)) hb); clear BK163; clear HB; have BK163 := n0_; have HB := n1_; clear n0_ n1_; (try clear hb); (try clear hb2); (try clear hk); (try clear hi); have hcz39_0 : w38.cell? ⟨gb163, 0, none⟩ = some (.bool a1_0) := (blk_cell BK163.out 0).trans rfl; have hcz39_1 : w38.cell? ⟨gb163, 1, none⟩ = some (.bool a1_1) := (blk_cell BK163.out 1).trans rfl; have hcz39_2 : w38.cell? ⟨gb163, 2, none⟩ = some (.bool true) := (blk_cell BK163.out 2).trans rfl; have hcz39_3 : w38.cell? ⟨gb163, 3, none⟩ = some (.bool a1_3) := (blk_cell BK163.out 3).trans rfl; have hcz39_4 : w38.cell? ⟨gb163, 4, none⟩ = some (.bool a1_4) := (blk_cell BK163.out 4).trans rfl; have hcz39_5 : w38.cell? ⟨gb163, 5, none⟩ = some (.int .i64 a1_5) := (blk_cell BK163.out 5).trans rfl; have hcz39_6 : w38.cell? ⟨gb163, 6, none⟩ = some (.int .i64 a1_6) := (blk_cell BK163.out 6).trans rfl; have hcz39_7 : w38.cell? ⟨gb163, 7, none⟩ = some (.int .i32 a1_7) := (blk_cell BK163.out 7).trans rfl; have hfz39_0 := blk_frozen BK163.out 0; have hfz39_1 := blk_frozen BK163.out 1; have hfz39_2 := blk_frozen BK163.out 2; have hfz39_3 := blk_frozen BK163.out 3; have hfz39_4 := blk_frozen BK163.out 4; have hfz39_5 := blk_frozen BK163.out 5; have hfz39_6 := blk_frozen BK163.out 6; have hfz39_7 := blk_frozen BK163.out 7) | ((with_reducible refine gate_callee (f := 36) rfl ?_); refine goesL_ (some 40) rfl rfl Tryd.func36 (by kernel_rfl) rfl #[.string t168] rfl (by (try simp only [List.map_toArray, List.map_cons, List.map_nil]); first | done | rfl | (simp only [List.length_drop, List.length_take]; rfl)) ?_; (with_reducible refine (quote_Raw.calls t168 t169 false _ (by (try refine Aside0.mk ?_); first | exact hOK.out | exact (hOK.out).drewN _ | (refine (hOK.out).later ?_; (repeat (first | (with_reducible first | exact HB.out | apply below_alloc | apply pw_below_drewN | apply below_drew1) | exact HB.out))) | (refine Ok.drewN ?_ _; exact hOK.out)) A26.out).mono ?_); rintro e w40 ⟨rfl, hb⟩; refine ⟨_, rfl, ?_⟩; have n0_ := Aside0.mk (blk_below (g := gb163) (o := .cells #[.bool a1_0, .bool a1_1, .bool true, .bool a1_3, .bool a1_4, .int .i64 a1_5, .int .i64 a1_6, .int .i32 a1_7] 28 (0, 0)) (by (with_reducible repeat (first | refine blk_drewN ?_ _ | refine blk_drew ?_ | refine blk_alloc ?_ _)); exact BK163.out) hb); have n1_ := Aside0.mk (below_step (by repeat (first | (with_reducible first | exact HB.out | apply below_alloc | apply pw_below_drewN | apply below_drew1 | refine below_set ?_ GE163.out) | exact HB.out)) hb); clear BK163; clear HB; have BK163 := n0_; have HB := n1_; clear n0_ n1_; (try clear hb); (try clear hb2); (try clear hk); (try clear hi)))
       have n0_ := Aside0.mk (blk_drew BK163.out)
       have n1_ := Aside0.mk (below_drew1 HB.out)
       clear BK163
       clear HB
       have BK163 := n0_
       have HB := n1_
       clear n0_ n1_
       refine start_ (n := 8) (S := fun w' => w'.cell? ⟨gb163, 0, none⟩ = some (.bool a1_0) ∧ w'.cell? ⟨gb163, 1, none⟩ = some (.bool a1_1) ∧ w'.cell? ⟨gb163, 2, none⟩ = some (.bool true) ∧ w'.cell? ⟨gb163, 3, none⟩ = some (.bool a1_3) ∧ w'.cell? ⟨gb163, 4, none⟩ = some (.bool a1_4) ∧ w'.cell? ⟨gb163, 5, none⟩ = some (.int .i64 a1_5) ∧ w'.cell? ⟨gb163, 6, none⟩ = some (.int .i64 a1_6) ∧ w'.cell? ⟨gb163, 7, none⟩ = some (.int .i32 a1_7)) (ds := []) #[false, false, false, false, false, false, false, false] (by kernel_rfl) rfl rfl ⟨(blk_cell BK163.out 0).trans rfl, (blk_cell BK163.out 1).trans rfl, (blk_cell BK163.out 2).trans rfl, (blk_cell BK163.out 3).trans rfl, (blk_cell BK163.out 4).trans rfl, (blk_cell BK163.out 5).trans rfl, (blk_cell BK163.out 6).trans rfl, (blk_cell BK163.out 7).trans rfl⟩ (fun hHeld => ?_); refine with_tabW quote_Text.tab13 quote_Text.bits13 (fun HT_ HW_ => ?_)
       generalize w40.drew = w41 at BK163 HB hHeld ⊢
       refine pure_ (i := 0) (N := some 47) (v := ?_) (a' := ?_) #[true, false, false, false, false, false, false, false] rfl rfl (any_of HT_.out (by kernel_rfl)) (fun _ _ _ h => h) (Or.inl ⟨by rfl, ?_⟩) ?_ ?_
       rotate_left
       ·
        intro w'
        go_simp
        with_reducible rfl
       rotate_left
       ·
        simp only [Act.put, List.setIfInBounds_toArray, List.set_cons_zero, List.set_cons_succ, i64_w, i32_w]
        rfl
       refine pure_ (i := 1) (N := some 48) (v := ?_) (a' := ?_) #[true, true, false, false, false, false, false, false] rfl rfl (any_of HT_.out (by kernel_rfl)) (fun _ _ _ h => h) (Or.inl ⟨by rfl, ?_⟩) ?_ ?_
       rotate_left
       ·
        intro w'
        go_simp
        with_reducible rfl
       rotate_left
       ·
        simp only [Act.put, List.setIfInBounds_toArray, List.set_cons_zero, List.set_cons_succ, i64_w, i32_w]
        rfl
       refine take_ (i := 2) (N := some 49) (v := ?_) (a' := ?_) #[true, true, true, false, false, false, false, false] rfl rfl (take_ofW HT_.out HW_.out (by kernel_rfl)) (fun _ _ _ h => h) (Or.inl ⟨by rfl, ?_⟩) hHeld ?_ ?_
       rotate_left
       ·
        rintro w' ⟨s0, s1, s2, s3, s4, s5, s6, s7⟩
        go_simp
        with_reducible rfl
       rotate_left
       ·
        simp only [Act.put, List.setIfInBounds_toArray, List.set_cons_zero, List.set_cons_succ, i64_w, i32_w]
        rfl
       refine take_ (i := 4) (N := some 51) (v := ?_) (a' := ?_) #[true, true, true, false, true, false, false, false] rfl rfl (take_ofW HT_.out HW_.out (by kernel_rfl)) (fun _ _ _ h => h) (Or.inl ⟨by rfl, ?_⟩) hHeld ?_ ?_
       rotate_left
       ·
        rintro w' ⟨s0, s1, s2, s3, s4, s5, s6, s7⟩
        go_simp
        with_reducible rfl
       rotate_left
       ·
        simp only [Act.put, List.setIfInBounds_toArray, List.set_cons_zero, List.set_cons_succ, i64_w, i32_w]
        rfl
       refine one_ (i := 3) (N := some 50) #[true, true, true, true, true, false, false, false] rfl rfl (one_of HT_.out (by kernel_rfl)) (by decide) (fun K hK => ?_)
       refine goes_ Tryd.func19 (by kernel_rfl) rfl #[.string t168, .bool a1_0] (by rfl) rfl rfl (by (try simp only [List.map_toArray, List.map_cons, List.map_nil]); first | done | rfl | (simp only [List.length_drop, List.length_take]; rfl)) ?_
       with_reducible refine (quote_Quote.calls t168 a1_0 t172 _ (by (try refine Aside0.mk ?_); first | exact hOK.out | exact (hOK.out).drewN _ | (refine (hOK.out).later ?_; (repeat (first | (with_reducible first | exact HB.out | apply below_alloc | apply pw_below_drewN | apply below_drew1) | exact HB.out))) | (refine Ok.drewN ?_ _; exact hOK.out)) A35.out).mono ?_
       rintro e w42 ⟨rfl, hb⟩
       refine ⟨_, rfl, ?_⟩
       have n0_ := Aside0.mk (blk_below (g := gb163) (o := .cells #[.bool a1_0, .bool a1_1, .bool true, .bool a1_3, .bool a1_4, .int .i64 a1_5, .int .i64 a1_6, .int .i32 a1_7] 28 (0, 0)) (by (with_reducible repeat (first | refine blk_drewN ?_ _ | refine blk_drew ?_ | refine blk_alloc ?_ _)); exact BK163.out) hb)
       have n1_ := Aside0.mk (below_step (by repeat (first | (with_reducible first | exact HB.out | apply below_alloc | apply pw_below_drewN | apply below_drew1 | refine below_set ?_ GE163.out) | exact HB.out)) hb)
       clear BK163
       clear HB
       have BK163 := n0_
       have HB := n1_
       clear n0_ n1_
       (try clear hb)
       (try clear hb2)
       (try clear hk)
       (try clear hi)
       refine hK.out _ _ ⟨(blk_cell BK163.out 0).trans rfl, (blk_cell BK163.out 1).trans rfl, (blk_cell BK163.out 2).trans rfl, (blk_cell BK163.out 3).trans rfl, (blk_cell BK163.out 4).trans rfl, (blk_cell BK163.out 5).trans rfl, (blk_cell BK163.out 6).trans rfl, (blk_cell BK163.out 7).trans rfl⟩ (fun hHeld => ?_)
       clear hK K
       refine norm_ (a' := ?_) ?_ ?_
       rotate_left
       ·
        show Act.put _ (some 50) _ = _
        simp only [Act.put, List.setIfInBounds_toArray, List.set_cons_zero, List.set_cons_succ, i64_w, i32_w]
        rfl
       refine one_ (i := 5) (N := some 52) #[true, true, true, true, true, true, false, false] rfl rfl (one_of HT_.out (by kernel_rfl)) (by decide) (fun K hK => ?_)
       refine goes_ Tryd.func32 (by kernel_rfl) rfl #[.string t172, .agg #[.bool a1_0, .bool a1_1, .bool true, .bool a1_3, .bool a1_4, .int .i64 a1_5, .int .i64 a1_6, .int .i32 a1_7]] (by rfl) rfl rfl (by (try simp only [List.map_toArray, List.map_cons, List.map_nil]); first | done | rfl | (simp only [List.length_drop, List.length_take]; rfl)) ?_
       with_reducible refine (buf_Pad.calls t172 a1_0 a1_1 true a1_3 a1_4 a1_5 a1_6 a1_7 t173 _ A36.out).mono ?_
       rintro e w43 ⟨rfl, hb⟩
       refine ⟨_, rfl, ?_⟩
       have n0_ := Aside0.mk (blk_below (g := gb163) (o := .cells #[.bool a1_0, .bool a1_1, .bool true, .bool a1_3, .bool a1_4, .int .i64 a1_5, .int .i64 a1_6, .int .i32 a1_7] 28 (0, 0)) (by (with_reducible repeat (first | refine blk_drewN ?_ _ | refine blk_drew ?_ | refine blk_alloc ?_ _)); exact BK163.out) hb)
       have n1_ := Aside0.mk (below_step (by repeat (first | (with_reducible first | exact HB.out | apply below_alloc | apply pw_below_drewN | apply below_drew1 | refine below_set ?_ GE163.out) | exact HB.out)) hb)
       clear BK163
       clear HB
       have BK163 := n0_
       have HB := n1_
       clear n0_ n1_
       (try clear hb)
       (try clear hb2)
       (try clear hk)
       (try clear hi)
       refine hK.out _ _ ⟨(blk_cell BK163.out 0).trans rfl, (blk_cell BK163.out 1).trans rfl, (blk_cell BK163.out 2).trans rfl, (blk_cell BK163.out 3).trans rfl, (blk_cell BK163.out 4).trans rfl, (blk_cell BK163.out 5).trans rfl, (blk_cell BK163.out 6).trans rfl, (blk_cell BK163.out 7).trans rfl⟩ (fun hHeld => ?_)
       clear hK K
       refine norm_ (a' := ?_) ?_ ?_
       rotate_left
       ·
        show Act.put _ (some 52) _ = _
        simp only [Act.put, List.setIfInBounds_toArray, List.set_cons_zero, List.set_cons_succ, i64_w, i32_w]
        rfl
       refine pure_ (i := 6) (N := some 4) (v := ?_) (a' := ?_) #[true, true, true, true, true, true, true, false] rfl rfl (any_of HT_.out (by kernel_rfl)) (fun _ _ _ h => h) (Or.inl ⟨by rfl, ?_⟩) ?_ ?_
       rotate_left
       ·
        intro w'
        go_simp
        with_reducible rfl
       rotate_left
       ·
        simp only [Act.put, List.setIfInBounds_toArray, List.set_cons_zero, List.set_cons_succ, i64_w, i32_w]
        rfl
       refine pure_ (i := 7) (N := some 5) (v := ?_) (a' := ?_) #[true, true, true, true, true, true, true, true] rfl rfl (any_of HT_.out (by kernel_rfl)) (fun _ _ _ h => h) (Or.inl ⟨by rfl, ?_⟩) ?_ ?_
       rotate_left
       ·
        intro w'
        go_simp
        with_reducible rfl
       rotate_left
       ·
        simp only [Act.put, List.setIfInBounds_toArray, List.set_cons_zero, List.set_cons_succ, i64_w, i32_w]
        rfl
       refine done_ (done_of HT_.out (by kernel_rfl)) ?_
       try go_wp2
       go_ret2
       exact ⟨by first | rfl | (simp [errW_none, errW_some] <;> rfl) | (simp [*, errW_none, errW_some] <;> rfl), by repeat (first | (with_reducible first | exact HB.out | apply below_alloc | apply pw_below_drewN | apply below_drew1 | refine below_set ?_ GE163.out) | exact HB.out)⟩
     ·
      replace c25 := Bool.eq_false_iff.mpr c25
      subst c25
      have H1 : ((quote_Quote.f t168 a1_0).bind fun t174 => ((buf_Pad.f t174 a1_0 a1_1 false a1_3 a1_4 a1_5 a1_6 a1_7).bind fun t175 => (some (t175, true)))) = some (r1, r2) := by rw [if_neg (show ¬ (false = true) by decide)] at H; exact H
      clear H
      have H := H1
      clear H1
      replace H := Option.bind_eq_some_iff.mp H
      obtain ⟨t174, A440, H⟩ := H
      replace H : ((buf_Pad.f t174 a1_0 a1_1 false a1_3 a1_4 a1_5 a1_6 a1_7).bind fun t175 => (some (t175, true))) = some (r1, r2) := H
      have A44 := Aside0.mk A440
      clear A440
      replace H := Option.bind_eq_some_iff.mp H
      obtain ⟨t175, A450, H⟩ := H
      replace H : (some (t175, true)) = some (r1, r2) := H
      have A45 := Aside0.mk A450
      clear A450
      simp only [Option.some.injEq, Prod.mk.injEq] at H
      obtain ⟨rfl, rfl⟩ := H
      have hcz46_0 : wc.cell? ⟨gb163, 0, none⟩ = some (.bool a1_0) := (blk_cell BK163.out 0).trans rfl
      have hcz46_1 : wc.cell? ⟨gb163, 1, none⟩ = some (.bool a1_1) := (blk_cell BK163.out 1).trans rfl
      have hcz46_2 : wc.cell? ⟨gb163, 2, none⟩ = some (.bool false) := (blk_cell BK163.out 2).trans rfl
      have hcz46_3 : wc.cell? ⟨gb163, 3, none⟩ = some (.bool a1_3) := (blk_cell BK163.out 3).trans rfl
      have hcz46_4 : wc.cell? ⟨gb163, 4, none⟩ = some (.bool a1_4) := (blk_cell BK163.out 4).trans rfl
      have hcz46_5 : wc.cell? ⟨gb163, 5, none⟩ = some (.int .i64 a1_5) := (blk_cell BK163.out 5).trans rfl
      have hcz46_6 : wc.cell? ⟨gb163, 6, none⟩ = some (.int .i64 a1_6) := (blk_cell BK163.out 6).trans rfl
      have hcz46_7 : wc.cell? ⟨gb163, 7, none⟩ = some (.int .i32 a1_7) := (blk_cell BK163.out 7).trans rfl
      have hfz46_0 := blk_frozen BK163.out 0
      have hfz46_1 := blk_frozen BK163.out 1
      have hfz46_2 := blk_frozen BK163.out 2
      have hfz46_3 := blk_frozen BK163.out 3
      have hfz46_4 := blk_frozen BK163.out 4
      have hfz46_5 := blk_frozen BK163.out 5
      have hfz46_6 := blk_frozen BK163.out 6
      have hfz46_7 := blk_frozen BK163.out 7
      try go_wp2_with (first | ((with_reducible refine gate_callee (f := 35) rfl ?_); refine goesL_ (some 35) rfl rfl Tryd.func35 (by kernel_rfl) rfl #[.string a0, .int .i64 a1_6] rfl (by (try simp only [List.map_toArray, List.map_cons, List.map_nil]); first | done | rfl | (simp only [List.length_drop, List.length_take]; rfl)) ?_; (with_reducible refine (buf_Cut.calls a0 a1_6 t168 _ A24.out).mono ?_); rintro e w47 ⟨rfl, hb⟩; refine ⟨_, rfl, ?_⟩; have n0_ := Aside0.mk (blk_below (g := gb163) (o := .cells #[.bool a1_0, .bool a1_1, .bool false, .bool a1_3, .bool a1_4, .int .i64 a1_5, .int .i64 a1_6, .int .i32 a1_7] 28 (0, 0)) (by (with_reducible repeat (first | refine blk_drewN ?_ _ | refine blk_drew ?_ | refine blk_alloc ?_ _)); exact BK163.out) hb); have n1_ := Aside0.mk (below_step (by repeat (first | (with_reducible first | exact HB.out | apply below_alloc | apply pw_below_drewN | apply below_drew1 | refine below_set ?_ GE163.out) | exact HB.out)) hb); clear BK163; clear HB; have BK163 := n0_; have HB := n1_; clear n0_ n1_; (try clear hb); (try clear hb2); (try clear hk); (try clear hi); have hcz48_0 : w47.cell? ⟨gb163, 0, none⟩ = some (.bool a1_0) := (blk_cell BK163.out 0).trans rfl; have hcz48_1 : w47.cell? ⟨gb163, 1, none⟩ = some (.bool a1_1) := (blk_cell BK163.out 1).trans rfl; have hcz48_2 : w47.cell? ⟨gb163, 2, none⟩ = some (.bool false) := (blk_cell BK163.out 2).trans rfl; have hcz48_3 : w47.cell? ⟨gb163, 3, none⟩ = some (.bool a1_3) := (blk_cell BK163.out 3).trans rfl; have hcz48_4 : w47.cell? ⟨gb163, 4, none⟩ = some (.bool a1_4) := (blk_cell BK163.out 4).trans rfl; have hcz48_5 : w47.cell? ⟨gb163, 5, none⟩ = some (.int .i64 a1_5) := (blk_cell BK163.out 5).trans rfl; have hcz48_6 : w47.cell? ⟨gb163, 6, none⟩ = some (.int .i64 a1_6) := (blk_cell BK163.out 6).trans rfl; have hcz48_7 : w47.cell? ⟨gb163, 7, none⟩ = some (.int .i32 a1_7) := (blk_cell BK163.out 7).trans rfl; have hfz48_0 := blk_frozen BK163.out 0; have hfz48_1 := blk_frozen BK163.out 1; have hfz48_2 := blk_frozen BK163.out 2; have hfz48_3 := blk_frozen BK163.out 3; have hfz48_4 := blk_frozen BK163.out 4; have hfz48_5 := blk_frozen BK163.out 5; have hfz48_6 := blk_frozen BK163.out 6; have hfz48_7 := blk_frozen BK163.out 7))
      have n0_ := Aside0.mk (blk_drew BK163.out)
      have n1_ := Aside0.mk (below_drew1 HB.out)
      clear BK163
      clear HB
      have BK163 := n0_
      have HB := n1_
      clear n0_ n1_
      refine start_ (n := 8) (S := fun w' => w'.cell? ⟨gb163, 0, none⟩ = some (.bool a1_0) ∧ w'.cell? ⟨gb163, 1, none⟩ = some (.bool a1_1) ∧ w'.cell? ⟨gb163, 2, none⟩ = some (.bool false) ∧ w'.cell? ⟨gb163, 3, none⟩ = some (.bool a1_3) ∧ w'.cell? ⟨gb163, 4, none⟩ = some (.bool a1_4) ∧ w'.cell? ⟨gb163, 5, none⟩ = some (.int .i64 a1_5) ∧ w'.cell? ⟨gb163, 6, none⟩ = some (.int .i64 a1_6) ∧ w'.cell? ⟨gb163, 7, none⟩ = some (.int .i32 a1_7)) (ds := []) #[false, false, false, false, false, false, false, false] (by kernel_rfl) rfl rfl ⟨(blk_cell BK163.out 0).trans rfl, (blk_cell BK163.out 1).trans rfl, (blk_cell BK163.out 2).trans rfl, (blk_cell BK163.out 3).trans rfl, (blk_cell BK163.out 4).trans rfl, (blk_cell BK163.out 5).trans rfl, (blk_cell BK163.out 6).trans rfl, (blk_cell BK163.out 7).trans rfl⟩ (fun hHeld => ?_); refine with_tabW quote_Text.tab13 quote_Text.bits13 (fun HT_ HW_ => ?_)
      generalize w47.drew = w49 at BK163 HB hHeld ⊢
      refine pure_ (i := 0) (N := some 47) (v := ?_) (a' := ?_) #[true, false, false, false, false, false, false, false] rfl rfl (any_of HT_.out (by kernel_rfl)) (fun _ _ _ h => h) (Or.inl ⟨by rfl, ?_⟩) ?_ ?_
      rotate_left
      ·
       intro w'
       go_simp
       with_reducible rfl
      rotate_left
      ·
       simp only [Act.put, List.setIfInBounds_toArray, List.set_cons_zero, List.set_cons_succ, i64_w, i32_w]
       rfl
      refine pure_ (i := 1) (N := some 48) (v := ?_) (a' := ?_) #[true, true, false, false, false, false, false, false] rfl rfl (any_of HT_.out (by kernel_rfl)) (fun _ _ _ h => h) (Or.inl ⟨by rfl, ?_⟩) ?_ ?_
      rotate_left
      ·
       intro w'
       go_simp
       with_reducible rfl
      rotate_left
      ·
       simp only [Act.put, List.setIfInBounds_toArray, List.set_cons_zero, List.set_cons_succ, i64_w, i32_w]
       rfl
      refine take_ (i := 2) (N := some 49) (v := ?_) (a' := ?_) #[true, true, true, false, false, false, false, false] rfl rfl (take_ofW HT_.out HW_.out (by kernel_rfl)) (fun _ _ _ h => h) (Or.inl ⟨by rfl, ?_⟩) hHeld ?_ ?_
      rotate_left
      ·
       rintro w' ⟨s0, s1, s2, s3, s4, s5, s6, s7⟩
       go_simp
       with_reducible rfl
      rotate_left
      ·
       simp only [Act.put, List.setIfInBounds_toArray, List.set_cons_zero, List.set_cons_succ, i64_w, i32_w]
       rfl
      refine take_ (i := 4) (N := some 51) (v := ?_) (a' := ?_) #[true, true, true, false, true, false, false, false] rfl rfl (take_ofW HT_.out HW_.out (by kernel_rfl)) (fun _ _ _ h => h) (Or.inl ⟨by rfl, ?_⟩) hHeld ?_ ?_
      rotate_left
      ·
       rintro w' ⟨s0, s1, s2, s3, s4, s5, s6, s7⟩
       go_simp
       with_reducible rfl
      rotate_left
      ·
       simp only [Act.put, List.setIfInBounds_toArray, List.set_cons_zero, List.set_cons_succ, i64_w, i32_w]
       rfl
      refine one_ (i := 3) (N := some 50) #[true, true, true, true, true, false, false, false] rfl rfl (one_of HT_.out (by kernel_rfl)) (by decide) (fun K hK => ?_)
      refine goes_ Tryd.func19 (by kernel_rfl) rfl #[.string t168, .bool a1_0] (by rfl) rfl rfl (by (try simp only [List.map_toArray, List.map_cons, List.map_nil]); first | done | rfl | (simp only [List.length_drop, List.length_take]; rfl)) ?_
      with_reducible refine (quote_Quote.calls t168 a1_0 t174 _ (by (try refine Aside0.mk ?_); first | exact hOK.out | exact (hOK.out).drewN _ | (refine (hOK.out).later ?_; (repeat (first | (with_reducible first | exact HB.out | apply below_alloc | apply pw_below_drewN | apply below_drew1) | exact HB.out))) | (refine Ok.drewN ?_ _; exact hOK.out)) A44.out).mono ?_
      rintro e w50 ⟨rfl, hb⟩
      refine ⟨_, rfl, ?_⟩
      have n0_ := Aside0.mk (blk_below (g := gb163) (o := .cells #[.bool a1_0, .bool a1_1, .bool false, .bool a1_3, .bool a1_4, .int .i64 a1_5, .int .i64 a1_6, .int .i32 a1_7] 28 (0, 0)) (by (with_reducible repeat (first | refine blk_drewN ?_ _ | refine blk_drew ?_ | refine blk_alloc ?_ _)); exact BK163.out) hb)
      have n1_ := Aside0.mk (below_step (by repeat (first | (with_reducible first | exact HB.out | apply below_alloc | apply pw_below_drewN | apply below_drew1 | refine below_set ?_ GE163.out) | exact HB.out)) hb)
      clear BK163
      clear HB
      have BK163 := n0_
      have HB := n1_
      clear n0_ n1_
      (try clear hb)
      (try clear hb2)
      (try clear hk)
      (try clear hi)
      refine hK.out _ _ ⟨(blk_cell BK163.out 0).trans rfl, (blk_cell BK163.out 1).trans rfl, (blk_cell BK163.out 2).trans rfl, (blk_cell BK163.out 3).trans rfl, (blk_cell BK163.out 4).trans rfl, (blk_cell BK163.out 5).trans rfl, (blk_cell BK163.out 6).trans rfl, (blk_cell BK163.out 7).trans rfl⟩ (fun hHeld => ?_)
      clear hK K
      refine norm_ (a' := ?_) ?_ ?_
      rotate_left
      ·
       show Act.put _ (some 50) _ = _
       simp only [Act.put, List.setIfInBounds_toArray, List.set_cons_zero, List.set_cons_succ, i64_w, i32_w]
       rfl
      refine one_ (i := 5) (N := some 52) #[true, true, true, true, true, true, false, false] rfl rfl (one_of HT_.out (by kernel_rfl)) (by decide) (fun K hK => ?_)
      refine goes_ Tryd.func32 (by kernel_rfl) rfl #[.string t174, .agg #[.bool a1_0, .bool a1_1, .bool false, .bool a1_3, .bool a1_4, .int .i64 a1_5, .int .i64 a1_6, .int .i32 a1_7]] (by rfl) rfl rfl (by (try simp only [List.map_toArray, List.map_cons, List.map_nil]); first | done | rfl | (simp only [List.length_drop, List.length_take]; rfl)) ?_
      with_reducible refine (buf_Pad.calls t174 a1_0 a1_1 false a1_3 a1_4 a1_5 a1_6 a1_7 t175 _ A45.out).mono ?_
      rintro e w51 ⟨rfl, hb⟩
      refine ⟨_, rfl, ?_⟩
      have n0_ := Aside0.mk (blk_below (g := gb163) (o := .cells #[.bool a1_0, .bool a1_1, .bool false, .bool a1_3, .bool a1_4, .int .i64 a1_5, .int .i64 a1_6, .int .i32 a1_7] 28 (0, 0)) (by (with_reducible repeat (first | refine blk_drewN ?_ _ | refine blk_drew ?_ | refine blk_alloc ?_ _)); exact BK163.out) hb)
      have n1_ := Aside0.mk (below_step (by repeat (first | (with_reducible first | exact HB.out | apply below_alloc | apply pw_below_drewN | apply below_drew1 | refine below_set ?_ GE163.out) | exact HB.out)) hb)
      clear BK163
      clear HB
      have BK163 := n0_
      have HB := n1_
      clear n0_ n1_
      (try clear hb)
      (try clear hb2)
      (try clear hk)
      (try clear hi)
      refine hK.out _ _ ⟨(blk_cell BK163.out 0).trans rfl, (blk_cell BK163.out 1).trans rfl, (blk_cell BK163.out 2).trans rfl, (blk_cell BK163.out 3).trans rfl, (blk_cell BK163.out 4).trans rfl, (blk_cell BK163.out 5).trans rfl, (blk_cell BK163.out 6).trans rfl, (blk_cell BK163.out 7).trans rfl⟩ (fun hHeld => ?_)
      clear hK K
      refine norm_ (a' := ?_) ?_ ?_
      rotate_left
      ·
       show Act.put _ (some 52) _ = _
       simp only [Act.put, List.setIfInBounds_toArray, List.set_cons_zero, List.set_cons_succ, i64_w, i32_w]
       rfl
      refine pure_ (i := 6) (N := some 4) (v := ?_) (a' := ?_) #[true, true, true, true, true, true, true, false] rfl rfl (any_of HT_.out (by kernel_rfl)) (fun _ _ _ h => h) (Or.inl ⟨by rfl, ?_⟩) ?_ ?_
      rotate_left
      ·
       intro w'
       go_simp
       with_reducible rfl
      rotate_left
      ·
       simp only [Act.put, List.setIfInBounds_toArray, List.set_cons_zero, List.set_cons_succ, i64_w, i32_w]
       rfl
      refine pure_ (i := 7) (N := some 5) (v := ?_) (a' := ?_) #[true, true, true, true, true, true, true, true] rfl rfl (any_of HT_.out (by kernel_rfl)) (fun _ _ _ h => h) (Or.inl ⟨by rfl, ?_⟩) ?_ ?_
      rotate_left
      ·
       intro w'
       go_simp
       with_reducible rfl
      rotate_left
      ·
       simp only [Act.put, List.setIfInBounds_toArray, List.set_cons_zero, List.set_cons_succ, i64_w, i32_w]
       rfl
      refine done_ (done_of HT_.out (by kernel_rfl)) ?_
      try go_wp2
      go_ret2
      exact ⟨by first | rfl | (simp [errW_none, errW_some] <;> rfl) | (simp [*, errW_none, errW_some] <;> rfl), by repeat (first | (with_reducible first | exact HB.out | apply below_alloc | apply pw_below_drewN | apply below_drew1 | refine below_set ?_ GE163.out) | exact HB.out)⟩
    ·
     rw [if_neg c23] at H
     have c23b0 : (a1_7 == 113) = false := beq_eq_false_iff_ne.mpr c23
     have c23b1 : (a1_7 != 113) = true := bne_iff_ne.mpr c23
     by_cases c52 : a1_7 = 120
     ·
      rw [if_pos c52] at H
      have c52b0 : (a1_7 == 120) = true := beq_iff_eq.mpr c52
      have c52b1 : (a1_7 != 120) = false := bne_eq_false_iff_eq.mpr c52
      clear c52
      replace H := Option.bind_eq_some_iff.mp H
      obtain ⟨t176, A530, H⟩ := H
      replace H : (some (t176, true)) = some (r1, r2) := H
      have A53 := Aside0.mk A530
      clear A530
      simp only [Option.some.injEq, Prod.mk.injEq] at H
      obtain ⟨rfl, rfl⟩ := H
      have hcz54_0 : wc.cell? ⟨gb163, 0, none⟩ = some (.bool a1_0) := (blk_cell BK163.out 0).trans rfl
      have hcz54_1 : wc.cell? ⟨gb163, 1, none⟩ = some (.bool a1_1) := (blk_cell BK163.out 1).trans rfl
      have hcz54_2 : wc.cell? ⟨gb163, 2, none⟩ = some (.bool a1_2) := (blk_cell BK163.out 2).trans rfl
      have hcz54_3 : wc.cell? ⟨gb163, 3, none⟩ = some (.bool a1_3) := (blk_cell BK163.out 3).trans rfl
      have hcz54_4 : wc.cell? ⟨gb163, 4, none⟩ = some (.bool a1_4) := (blk_cell BK163.out 4).trans rfl
      have hcz54_5 : wc.cell? ⟨gb163, 5, none⟩ = some (.int .i64 a1_5) := (blk_cell BK163.out 5).trans rfl
      have hcz54_6 : wc.cell? ⟨gb163, 6, none⟩ = some (.int .i64 a1_6) := (blk_cell BK163.out 6).trans rfl
      have hcz54_7 : wc.cell? ⟨gb163, 7, none⟩ = some (.int .i32 a1_7) := (blk_cell BK163.out 7).trans rfl
      have hfz54_0 := blk_frozen BK163.out 0
      have hfz54_1 := blk_frozen BK163.out 1
      have hfz54_2 := blk_frozen BK163.out 2
      have hfz54_3 := blk_frozen BK163.out 3
      have hfz54_4 := blk_frozen BK163.out 4
      have hfz54_5 := blk_frozen BK163.out 5
      have hfz54_6 := blk_frozen BK163.out 6
      have hfz54_7 := blk_frozen BK163.out 7
      go_wp2_with (first | ((with_reducible refine gate_callee (f := 15) rfl ?_); refine goesL_ (some 58) rfl rfl Tryd.func15 (by kernel_rfl) rfl #[.string a0, .agg #[.bool a1_0, .bool a1_1, .bool a1_2, .bool a1_3, .bool a1_4, .int .i64 a1_5, .int .i64 a1_6, .int .i32 a1_7]] rfl (by (try simp only [List.map_toArray, List.map_cons, List.map_nil]); first | done | rfl | (simp only [List.length_drop, List.length_take]; rfl)) ?_; (with_reducible refine (quote_Hex.calls kj2 a0 a1_0 a1_1 a1_2 a1_3 a1_4 a1_5 a1_6 a1_7 t176 _ A53.out).mono ?_); rintro e w55 ⟨rfl, hb⟩; refine ⟨_, rfl, ?_⟩; have n0_ := Aside0.mk (blk_below (g := gb163) (o := .cells #[.bool a1_0, .bool a1_1, .bool a1_2, .bool a1_3, .bool a1_4, .int .i64 a1_5, .int .i64 a1_6, .int .i32 a1_7] 28 (0, 0)) (by (with_reducible repeat (first | refine blk_drewN ?_ _ | refine blk_drew ?_ | refine blk_alloc ?_ _)); exact BK163.out) hb); have n1_ := Aside0.mk (below_step (by repeat (first | (with_reducible first | exact HB.out | apply below_alloc | apply pw_below_drewN | apply below_drew1 | refine below_set ?_ GE163.out) | exact HB.out)) hb); clear BK163; clear HB; have BK163 := n0_; have HB := n1_; clear n0_ n1_; (try clear hb); (try clear hb2); (try clear hk); (try clear hi)))
      go_ret2
      exact ⟨by first | rfl | (simp [errW_none, errW_some] <;> rfl) | (simp [*, errW_none, errW_some] <;> rfl), by repeat (first | (with_reducible first | exact HB.out | apply below_alloc | apply pw_below_drewN | apply below_drew1 | refine below_set ?_ GE163.out) | exact HB.out)⟩
     ·
      rw [if_neg c52] at H
      have c52b0 : (a1_7 == 120) = false := beq_eq_false_iff_ne.mpr c52
      have c52b1 : (a1_7 != 120) = true := bne_iff_ne.mpr c52
      by_cases c56 : a1_7 = 88
      ·
       rw [if_pos c56] at H
       have c56b0 : (a1_7 == 88) = true := beq_iff_eq.mpr c56
       have c56b1 : (a1_7 != 88) = false := bne_eq_false_iff_eq.mpr c56
       clear c56
       replace H := Option.bind_eq_some_iff.mp H
       obtain ⟨t177, A570, H⟩ := H
       replace H : (some (t177, true)) = some (r1, r2) := H
       have A57 := Aside0.mk A570
       clear A570
       simp only [Option.some.injEq, Prod.mk.injEq] at H
       obtain ⟨rfl, rfl⟩ := H
       have hcz58_0 : wc.cell? ⟨gb163, 0, none⟩ = some (.bool a1_0) := (blk_cell BK163.out 0).trans rfl
       have hcz58_1 : wc.cell? ⟨gb163, 1, none⟩ = some (.bool a1_1) := (blk_cell BK163.out 1).trans rfl
       have hcz58_2 : wc.cell? ⟨gb163, 2, none⟩ = some (.bool a1_2) := (blk_cell BK163.out 2).trans rfl
       have hcz58_3 : wc.cell? ⟨gb163, 3, none⟩ = some (.bool a1_3) := (blk_cell BK163.out 3).trans rfl
       have hcz58_4 : wc.cell? ⟨gb163, 4, none⟩ = some (.bool a1_4) := (blk_cell BK163.out 4).trans rfl
       have hcz58_5 : wc.cell? ⟨gb163, 5, none⟩ = some (.int .i64 a1_5) := (blk_cell BK163.out 5).trans rfl
       have hcz58_6 : wc.cell? ⟨gb163, 6, none⟩ = some (.int .i64 a1_6) := (blk_cell BK163.out 6).trans rfl
       have hcz58_7 : wc.cell? ⟨gb163, 7, none⟩ = some (.int .i32 a1_7) := (blk_cell BK163.out 7).trans rfl
       have hfz58_0 := blk_frozen BK163.out 0
       have hfz58_1 := blk_frozen BK163.out 1
       have hfz58_2 := blk_frozen BK163.out 2
       have hfz58_3 := blk_frozen BK163.out 3
       have hfz58_4 := blk_frozen BK163.out 4
       have hfz58_5 := blk_frozen BK163.out 5
       have hfz58_6 := blk_frozen BK163.out 6
       have hfz58_7 := blk_frozen BK163.out 7
       go_wp2_with (first | ((with_reducible refine gate_callee (f := 15) rfl ?_); refine goesL_ (some 58) rfl rfl Tryd.func15 (by kernel_rfl) rfl #[.string a0, .agg #[.bool a1_0, .bool a1_1, .bool a1_2, .bool a1_3, .bool a1_4, .int .i64 a1_5, .int .i64 a1_6, .int .i32 a1_7]] rfl (by (try simp only [List.map_toArray, List.map_cons, List.map_nil]); first | done | rfl | (simp only [List.length_drop, List.length_take]; rfl)) ?_; (with_reducible refine (quote_Hex.calls kj2 a0 a1_0 a1_1 a1_2 a1_3 a1_4 a1_5 a1_6 a1_7 t177 _ A57.out).mono ?_); rintro e w59 ⟨rfl, hb⟩; refine ⟨_, rfl, ?_⟩; have n0_ := Aside0.mk (blk_below (g := gb163) (o := .cells #[.bool a1_0, .bool a1_1, .bool a1_2, .bool a1_3, .bool a1_4, .int .i64 a1_5, .int .i64 a1_6, .int .i32 a1_7] 28 (0, 0)) (by (with_reducible repeat (first | refine blk_drewN ?_ _ | refine blk_drew ?_ | refine blk_alloc ?_ _)); exact BK163.out) hb); have n1_ := Aside0.mk (below_step (by repeat (first | (with_reducible first | exact HB.out | apply below_alloc | apply pw_below_drewN | apply below_drew1 | refine below_set ?_ GE163.out) | exact HB.out)) hb); clear BK163; clear HB; have BK163 := n0_; have HB := n1_; clear n0_ n1_; (try clear hb); (try clear hb2); (try clear hk); (try clear hi)))
       go_ret2
       exact ⟨by first | rfl | (simp [errW_none, errW_some] <;> rfl) | (simp [*, errW_none, errW_some] <;> rfl), by repeat (first | (with_reducible first | exact HB.out | apply below_alloc | apply pw_below_drewN | apply below_drew1 | refine below_set ?_ GE163.out) | exact HB.out)⟩
      ·
       rw [if_neg c56] at H
       have c56b0 : (a1_7 == 88) = false := beq_eq_false_iff_ne.mpr c56
       have c56b1 : (a1_7 != 88) = true := bne_iff_ne.mpr c56
       simp only [Option.some.injEq, Prod.mk.injEq] at H
       obtain ⟨rfl, rfl⟩ := H
       go_wp2
       go_ret2
       exact ⟨by first | rfl | (simp [errW_none, errW_some] <;> rfl) | (simp [*, errW_none, errW_some] <;> rfl), by repeat (first | (with_reducible first | exact HB.out | apply below_alloc | apply pw_below_drewN | apply below_drew1 | refine below_set ?_ GE163.out) | exact HB.out)⟩
end Go.Proofs.YtcoippikicikoaaDoor.PQGen
namespace Go.Proofs.YtcoippikicikoaaDoor.PQGen
open Go.RowKit Go.Proofs.YtcoippikicikoaaDoorW.PrintWords Go.Proofs.YtcoippikicikoaaDoorW.PrintLast Go.Proofs.YtcoippikicikoaaDoorW.PrintMore
attribute [local go_sem] max2_int min2_int max_two min_two
set_option linter.unusedVariables false
set_option linter.unusedSimpArgs false
def platenlaw02_lives.f (k : Nat)  : Option (Bool) := (quote_Text.f k (⟨#[195, 169]⟩ : ByteArray) true false false false false (-1) (-1) 113).bind fun bt178 => ((quote_Unquote.f (⟨#[34, 92, 120, 54, 49, 34]⟩ : ByteArray)).bind fun bt180 => (if bt178.2 = true then (if bt180.2 = true then (some false) else (if bt178.1.toList = ([34, 92, 117, 48, 48, 101, 57, 34] : List UInt8) then ((quote_Quote.f (⟨#[255]⟩ : ByteArray) false).bind fun t182 => (if t182.toList = ([34, 92, 120, 102, 102, 34] : List UInt8) then ((quote_Hex.f k (⟨#[97, 98]⟩ : ByteArray) false false true true false (-1) (-1) 120).bind fun t183 => (some (t183.toList == ([48, 120, 54, 49, 32, 48, 120, 54, 50] : List UInt8)))) else (some false))) else (some false))) else (some false)))
theorem platenlaw02_lives.mono : ∀ k, LeO (platenlaw02_lives.f k ) (platenlaw02_lives.f (k + 1) ) := by
 intro  k
 unfold platenlaw02_lives.f
 repeat' first
  | (with_reducible exact quote_Hex.mono _ _ _ _ _ _ _ _ _ _)
  | (with_reducible exact quote_Text.mono _ _ _ _ _ _ _ _ _ _)
  | (with_reducible exact LeO.refl _)
  | (with_reducible exact LeO.none _)
  | (with_reducible refine LeO.ite ?_ ?_)
  | (with_reducible refine LeO.bind ?_ (fun _ => ?_))
  | exact quote_Hex.mono _ _ _ _ _ _ _ _ _ _
  | exact quote_Text.mono _ _ _ _ _ _ _ _ _ _
  | exact LeO.none _
  | refine LeO.ite ?_ ?_
  | refine LeO.bind ?_ (fun _ => ?_)
set_option maxHeartbeats 8000000 in
set_option maxRecDepth 100000 in
theorem platenlaw02_lives.calls (k : Nat)  (r : Bool) (w : World) (hOK : Aside0 (Ok w)) (h : platenlaw02_lives.f k  = some r) :
 Calls Tryd.prog 14 #[] w fun e w' => e = .returned (.bool r) ∧ Below w.heap.size w w' := by
 have hu28 := Tryd.underlying28
 have HB := Aside0.mk (Below.refl w.heap.size w)
 have H : ((quote_Text.f k (⟨#[195, 169]⟩ : ByteArray) true false false false false (-1) (-1) 113).bind fun bt178 => ((quote_Unquote.f (⟨#[34, 92, 120, 54, 49, 34]⟩ : ByteArray)).bind fun bt180 => (if bt178.2 = true then (if bt180.2 = true then (some false) else (if bt178.1.toList = ([34, 92, 117, 48, 48, 101, 57, 34] : List UInt8) then ((quote_Quote.f (⟨#[255]⟩ : ByteArray) false).bind fun t182 => (if t182.toList = ([34, 92, 120, 102, 102, 34] : List UInt8) then ((quote_Hex.f k (⟨#[97, 98]⟩ : ByteArray) false false true true false (-1) (-1) 120).bind fun t183 => (some (t183.toList == ([48, 120, 54, 49, 32, 48, 120, 54, 50] : List UInt8)))) else (some false))) else (some false))) else (some false)))) = some r := h
 clear h
 replace H := Option.bind_eq_some_iff.mp H
 obtain ⟨⟨t178, t179⟩, A10, H⟩ := H
 replace H : ((quote_Unquote.f (⟨#[34, 92, 120, 54, 49, 34]⟩ : ByteArray)).bind fun bt180 => (if t179 = true then (if bt180.2 = true then (some false) else (if t178.toList = ([34, 92, 117, 48, 48, 101, 57, 34] : List UInt8) then ((quote_Quote.f (⟨#[255]⟩ : ByteArray) false).bind fun t182 => (if t182.toList = ([34, 92, 120, 102, 102, 34] : List UInt8) then ((quote_Hex.f k (⟨#[97, 98]⟩ : ByteArray) false false true true false (-1) (-1) 120).bind fun t183 => (some (t183.toList == ([48, 120, 54, 49, 32, 48, 120, 54, 50] : List UInt8)))) else (some false))) else (some false))) else (some false))) = some r := H
 have A1 := Aside0.mk A10
 clear A10
 replace H := Option.bind_eq_some_iff.mp H
 obtain ⟨⟨t180, t181⟩, A20, H⟩ := H
 replace H : (if t179 = true then (if t181 = true then (some false) else (if t178.toList = ([34, 92, 117, 48, 48, 101, 57, 34] : List UInt8) then ((quote_Quote.f (⟨#[255]⟩ : ByteArray) false).bind fun t182 => (if t182.toList = ([34, 92, 120, 102, 102, 34] : List UInt8) then ((quote_Hex.f k (⟨#[97, 98]⟩ : ByteArray) false false true true false (-1) (-1) 120).bind fun t183 => (some (t183.toList == ([48, 120, 54, 49, 32, 48, 120, 54, 50] : List UInt8)))) else (some false))) else (some false))) else (some false)) = some r := H
 have A2 := Aside0.mk A20
 clear A20
 by_cases c3 : t179 = true
 ·
  subst c3
  have H1 : (if t181 = true then (some false) else (if t178.toList = ([34, 92, 117, 48, 48, 101, 57, 34] : List UInt8) then ((quote_Quote.f (⟨#[255]⟩ : ByteArray) false).bind fun t182 => (if t182.toList = ([34, 92, 120, 102, 102, 34] : List UInt8) then ((quote_Hex.f k (⟨#[97, 98]⟩ : ByteArray) false false true true false (-1) (-1) 120).bind fun t183 => (some (t183.toList == ([48, 120, 54, 49, 32, 48, 120, 54, 50] : List UInt8)))) else (some false))) else (some false))) = some r := by rw [if_pos rfl] at H; exact H
  clear H
  have H := H1
  clear H1
  by_cases c4 : t181 = true
  ·
   subst c4
   have H1 : (some false) = some r := by rw [if_pos rfl] at H; exact H
   clear H
   have H := H1
   clear H1
   obtain rfl := Option.some.inj H
   go_enter Tryd.func14, Tryd.ntmps14
   go_wp2_with (first | ((with_reducible refine gate_callee (f := 17) rfl ?_); refine goesL_ (some 7) rfl rfl Tryd.func17 (by kernel_rfl) rfl #[.string (⟨#[195, 169]⟩ : ByteArray), .agg #[.bool true, .bool false, .bool false, .bool false, .bool false, .int .i64 (-1), .int .i64 (-1), .int .i32 113]] rfl (by (try simp only [List.map_toArray, List.map_cons, List.map_nil]); first | done | rfl | (simp only [List.length_drop, List.length_take]; rfl)) ?_; (with_reducible refine (quote_Text.calls k (⟨#[195, 169]⟩ : ByteArray) true false false false false (-1) (-1) 113 t178 true _ (by (try refine Aside0.mk ?_); first | exact hOK.out | exact (hOK.out).drewN _ | (refine (hOK.out).later ?_; (repeat (first | (with_reducible first | exact HB.out | apply below_alloc | apply pw_below_drewN | apply below_drew1) | exact HB.out))) | (refine Ok.drewN ?_ _; exact hOK.out)) A1.out).mono ?_); rintro e w5 ⟨rfl, hb⟩; refine ⟨_, rfl, ?_⟩; have n0_ := Aside0.mk (below_step (by repeat (first | (with_reducible first | exact HB.out | apply below_alloc | apply pw_below_drewN | apply below_drew1) | exact HB.out)) hb); clear HB; have HB := n0_; clear n0_; (try clear hb); (try clear hb2); (try clear hk); (try clear hi)) | ((with_reducible refine gate_callee (f := 12) rfl ?_); refine goesL_ (some 11) rfl rfl Tryd.func12 (by kernel_rfl) rfl #[.string (⟨#[34, 92, 120, 54, 49, 34]⟩ : ByteArray)] rfl (by (try simp only [List.map_toArray, List.map_cons, List.map_nil]); first | done | rfl | (simp only [List.length_drop, List.length_take]; rfl)) ?_; (with_reducible refine (quote_Unquote.calls (⟨#[34, 92, 120, 54, 49, 34]⟩ : ByteArray) t180 true _ (by (try refine Aside0.mk ?_); first | exact hOK.out | exact (hOK.out).drewN _ | (refine (hOK.out).later ?_; (repeat (first | (with_reducible first | exact HB.out | apply below_alloc | apply pw_below_drewN | apply below_drew1) | exact HB.out))) | (refine Ok.drewN ?_ _; exact hOK.out)) A2.out).mono ?_); rintro e w6 ⟨rfl, hb⟩; refine ⟨_, rfl, ?_⟩; have n0_ := Aside0.mk (below_step (by repeat (first | (with_reducible first | exact HB.out | apply below_alloc | apply pw_below_drewN | apply below_drew1) | exact HB.out)) hb); clear HB; have HB := n0_; clear n0_; (try clear hb); (try clear hb2); (try clear hk); (try clear hi)))
   go_ret
   exact ⟨by first | rfl | (simp [errW_none, errW_some] <;> rfl) | (simp [*, errW_none, errW_some] <;> rfl), by repeat (first | (with_reducible first | exact HB.out | apply below_alloc | apply pw_below_drewN | apply below_drew1) | exact HB.out)⟩
  ·
   replace c4 := Bool.eq_false_iff.mpr c4
   subst c4
   have H1 : (if t178.toList = ([34, 92, 117, 48, 48, 101, 57, 34] : List UInt8) then ((quote_Quote.f (⟨#[255]⟩ : ByteArray) false).bind fun t182 => (if t182.toList = ([34, 92, 120, 102, 102, 34] : List UInt8) then ((quote_Hex.f k (⟨#[97, 98]⟩ : ByteArray) false false true true false (-1) (-1) 120).bind fun t183 => (some (t183.toList == ([48, 120, 54, 49, 32, 48, 120, 54, 50] : List UInt8)))) else (some false))) else (some false)) = some r := by rw [if_neg (show ¬ (false = true) by decide)] at H; exact H
   clear H
   have H := H1
   clear H1
   by_cases c7 : t178.toList = ([34, 92, 117, 48, 48, 101, 57, 34] : List UInt8)
   ·
    rw [if_pos c7] at H
    have c7b0 : (t178.toList == ([34, 92, 117, 48, 48, 101, 57, 34] : List UInt8)) = true := beq_iff_eq.mpr c7
    have c7b1 : (t178.toList != ([34, 92, 117, 48, 48, 101, 57, 34] : List UInt8)) = false := bne_eq_false_iff_eq.mpr c7
    clear c7
    replace H := Option.bind_eq_some_iff.mp H
    obtain ⟨t182, A80, H⟩ := H
    replace H : (if t182.toList = ([34, 92, 120, 102, 102, 34] : List UInt8) then ((quote_Hex.f k (⟨#[97, 98]⟩ : ByteArray) false false true true false (-1) (-1) 120).bind fun t183 => (some (t183.toList == ([48, 120, 54, 49, 32, 48, 120, 54, 50] : List UInt8)))) else (some false)) = some r := H
    have A8 := Aside0.mk A80
    clear A80
    by_cases c9 : t182.toList = ([34, 92, 120, 102, 102, 34] : List UInt8)
    ·
     rw [if_pos c9] at H
     have c9b0 : (t182.toList == ([34, 92, 120, 102, 102, 34] : List UInt8)) = true := beq_iff_eq.mpr c9
     have c9b1 : (t182.toList != ([34, 92, 120, 102, 102, 34] : List UInt8)) = false := bne_eq_false_iff_eq.mpr c9
     clear c9
     replace H := Option.bind_eq_some_iff.mp H
     obtain ⟨t183, A100, H⟩ := H
     replace H : (some (t183.toList == ([48, 120, 54, 49, 32, 48, 120, 54, 50] : List UInt8))) = some r := H
     have A10 := Aside0.mk A100
     clear A100
     obtain rfl := Option.some.inj H
     go_enter Tryd.func14, Tryd.ntmps14
     go_wp2_with (first | ((with_reducible refine gate_callee (f := 17) rfl ?_); refine goesL_ (some 7) rfl rfl Tryd.func17 (by kernel_rfl) rfl #[.string (⟨#[195, 169]⟩ : ByteArray), .agg #[.bool true, .bool false, .bool false, .bool false, .bool false, .int .i64 (-1), .int .i64 (-1), .int .i32 113]] rfl (by (try simp only [List.map_toArray, List.map_cons, List.map_nil]); first | done | rfl | (simp only [List.length_drop, List.length_take]; rfl)) ?_; (with_reducible refine (quote_Text.calls k (⟨#[195, 169]⟩ : ByteArray) true false false false false (-1) (-1) 113 t178 true _ (by (try refine Aside0.mk ?_); first | exact hOK.out | exact (hOK.out).drewN _ | (refine (hOK.out).later ?_; (repeat (first | (with_reducible first | exact HB.out | apply below_alloc | apply pw_below_drewN | apply below_drew1) | exact HB.out))) | (refine Ok.drewN ?_ _; exact hOK.out)) A1.out).mono ?_); rintro e w11 ⟨rfl, hb⟩; refine ⟨_, rfl, ?_⟩; have n0_ := Aside0.mk (below_step (by repeat (first | (with_reducible first | exact HB.out | apply below_alloc | apply pw_below_drewN | apply below_drew1) | exact HB.out)) hb); clear HB; have HB := n0_; clear n0_; (try clear hb); (try clear hb2); (try clear hk); (try clear hi)) | ((with_reducible refine gate_callee (f := 12) rfl ?_); refine goesL_ (some 11) rfl rfl Tryd.func12 (by kernel_rfl) rfl #[.string (⟨#[34, 92, 120, 54, 49, 34]⟩ : ByteArray)] rfl (by (try simp only [List.map_toArray, List.map_cons, List.map_nil]); first | done | rfl | (simp only [List.length_drop, List.length_take]; rfl)) ?_; (with_reducible refine (quote_Unquote.calls (⟨#[34, 92, 120, 54, 49, 34]⟩ : ByteArray) t180 false _ (by (try refine Aside0.mk ?_); first | exact hOK.out | exact (hOK.out).drewN _ | (refine (hOK.out).later ?_; (repeat (first | (with_reducible first | exact HB.out | apply below_alloc | apply pw_below_drewN | apply below_drew1) | exact HB.out))) | (refine Ok.drewN ?_ _; exact hOK.out)) A2.out).mono ?_); rintro e w12 ⟨rfl, hb⟩; refine ⟨_, rfl, ?_⟩; have n0_ := Aside0.mk (below_step (by repeat (first | (with_reducible first | exact HB.out | apply below_alloc | apply pw_below_drewN | apply below_drew1) | exact HB.out)) hb); clear HB; have HB := n0_; clear n0_; (try clear hb); (try clear hb2); (try clear hk); (try clear hi)) | (go_at_call 19; (with_reducible refine (quote_Quote.calls (⟨#[255]⟩ : ByteArray) false t182 _ (by (try refine Aside0.mk ?_); first | exact hOK.out | exact (hOK.out).drewN _ | (refine (hOK.out).later ?_; (repeat (first | (with_reducible first | exact HB.out | apply below_alloc | apply pw_below_drewN | apply below_drew1) | exact HB.out))) | (refine Ok.drewN ?_ _; exact hOK.out)) A8.out).mono ?_); rintro e w13 ⟨rfl, hb⟩; have n0_ := Aside0.mk (below_step (by repeat (first | (with_reducible first | exact HB.out | apply below_alloc | apply pw_below_drewN | apply below_drew1) | exact HB.out)) hb); clear HB; have HB := n0_; clear n0_; (try clear hb); (try clear hb2); (try clear hk); (try clear hi)) | (go_at_call 15; (with_reducible refine (quote_Hex.calls k (⟨#[97, 98]⟩ : ByteArray) false false true true false (-1) (-1) 120 t183 _ A10.out).mono ?_); rintro e w14 ⟨rfl, hb⟩; have n0_ := Aside0.mk (below_step (by repeat (first | (with_reducible first | exact HB.out | apply below_alloc | apply pw_below_drewN | apply below_drew1) | exact HB.out)) hb); clear HB; have HB := n0_; clear n0_; (try clear hb); (try clear hb2); (try clear hk); (try clear hi)))
     go_ret
     exact ⟨by first | rfl | (simp [errW_none, errW_some] <;> rfl) | (simp [*, errW_none, errW_some] <;> rfl), by repeat (first | (with_reducible first | exact HB.out | apply below_alloc | apply pw_below_drewN | apply below_drew1) | exact HB.out)⟩
    ·
     rw [if_neg c9] at H
     have c9b0 : (t182.toList == ([34, 92, 120, 102, 102, 34] : List UInt8)) = false := beq_eq_false_iff_ne.mpr c9
     have c9b1 : (t182.toList != ([34, 92, 120, 102, 102, 34] : List UInt8)) = true := bne_iff_ne.mpr c9
     obtain rfl := Option.some.inj H
     go_enter Tryd.func14, Tryd.ntmps14
     go_wp2_with (first | ((with_reducible refine gate_callee (f := 17) rfl ?_); refine goesL_ (some 7) rfl rfl Tryd.func17 (by kernel_rfl) rfl #[.string (⟨#[195, 169]⟩ : ByteArray), .agg #[.bool true, .bool false, .bool false, .bool false, .bool false, .int .i64 (-1), .int .i64 (-1), .int .i32 113]] rfl (by (try simp only [List.map_toArray, List.map_cons, List.map_nil]); first | done | rfl | (simp only [List.length_drop, List.length_take]; rfl)) ?_; (with_reducible refine (quote_Text.calls k (⟨#[195, 169]⟩ : ByteArray) true false false false false (-1) (-1) 113 t178 true _ (by (try refine Aside0.mk ?_); first | exact hOK.out | exact (hOK.out).drewN _ | (refine (hOK.out).later ?_; (repeat (first | (with_reducible first | exact HB.out | apply below_alloc | apply pw_below_drewN | apply below_drew1) | exact HB.out))) | (refine Ok.drewN ?_ _; exact hOK.out)) A1.out).mono ?_); rintro e w15 ⟨rfl, hb⟩; refine ⟨_, rfl, ?_⟩; have n0_ := Aside0.mk (below_step (by repeat (first | (with_reducible first | exact HB.out | apply below_alloc | apply pw_below_drewN | apply below_drew1) | exact HB.out)) hb); clear HB; have HB := n0_; clear n0_; (try clear hb); (try clear hb2); (try clear hk); (try clear hi)) | ((with_reducible refine gate_callee (f := 12) rfl ?_); refine goesL_ (some 11) rfl rfl Tryd.func12 (by kernel_rfl) rfl #[.string (⟨#[34, 92, 120, 54, 49, 34]⟩ : ByteArray)] rfl (by (try simp only [List.map_toArray, List.map_cons, List.map_nil]); first | done | rfl | (simp only [List.length_drop, List.length_take]; rfl)) ?_; (with_reducible refine (quote_Unquote.calls (⟨#[34, 92, 120, 54, 49, 34]⟩ : ByteArray) t180 false _ (by (try refine Aside0.mk ?_); first | exact hOK.out | exact (hOK.out).drewN _ | (refine (hOK.out).later ?_; (repeat (first | (with_reducible first | exact HB.out | apply below_alloc | apply pw_below_drewN | apply below_drew1) | exact HB.out))) | (refine Ok.drewN ?_ _; exact hOK.out)) A2.out).mono ?_); rintro e w16 ⟨rfl, hb⟩; refine ⟨_, rfl, ?_⟩; have n0_ := Aside0.mk (below_step (by repeat (first | (with_reducible first | exact HB.out | apply below_alloc | apply pw_below_drewN | apply below_drew1) | exact HB.out)) hb); clear HB; have HB := n0_; clear n0_; (try clear hb); (try clear hb2); (try clear hk); (try clear hi)) | (go_at_call 19; (with_reducible refine (quote_Quote.calls (⟨#[255]⟩ : ByteArray) false t182 _ (by (try refine Aside0.mk ?_); first | exact hOK.out | exact (hOK.out).drewN _ | (refine (hOK.out).later ?_; (repeat (first | (with_reducible first | exact HB.out | apply below_alloc | apply pw_below_drewN | apply below_drew1) | exact HB.out))) | (refine Ok.drewN ?_ _; exact hOK.out)) A8.out).mono ?_); rintro e w17 ⟨rfl, hb⟩; have n0_ := Aside0.mk (below_step (by repeat (first | (with_reducible first | exact HB.out | apply below_alloc | apply pw_below_drewN | apply below_drew1) | exact HB.out)) hb); clear HB; have HB := n0_; clear n0_; (try clear hb); (try clear hb2); (try clear hk); (try clear hi)))
     go_ret
     exact ⟨by first | rfl | (simp [errW_none, errW_some] <;> rfl) | (simp [*, errW_none, errW_some] <;> rfl), by repeat (first | (with_reducible first | exact HB.out | apply below_alloc | apply pw_below_drewN | apply below_drew1) | exact HB.out)⟩
   ·
    rw [if_neg c7] at H
    have c7b0 : (t178.toList == ([34, 92, 117, 48, 48, 101, 57, 34] : List UInt8)) = false := beq_eq_false_iff_ne.mpr c7
    have c7b1 : (t178.toList != ([34, 92, 117, 48, 48, 101, 57, 34] : List UInt8)) = true := bne_iff_ne.mpr c7
    obtain rfl := Option.some.inj H
    go_enter Tryd.func14, Tryd.ntmps14
    go_wp2_with (first | ((with_reducible refine gate_callee (f := 17) rfl ?_); refine goesL_ (some 7) rfl rfl Tryd.func17 (by kernel_rfl) rfl #[.string (⟨#[195, 169]⟩ : ByteArray), .agg #[.bool true, .bool false, .bool false, .bool false, .bool false, .int .i64 (-1), .int .i64 (-1), .int .i32 113]] rfl (by (try simp only [List.map_toArray, List.map_cons, List.map_nil]); first | done | rfl | (simp only [List.length_drop, List.length_take]; rfl)) ?_; (with_reducible refine (quote_Text.calls k (⟨#[195, 169]⟩ : ByteArray) true false false false false (-1) (-1) 113 t178 true _ (by (try refine Aside0.mk ?_); first | exact hOK.out | exact (hOK.out).drewN _ | (refine (hOK.out).later ?_; (repeat (first | (with_reducible first | exact HB.out | apply below_alloc | apply pw_below_drewN | apply below_drew1) | exact HB.out))) | (refine Ok.drewN ?_ _; exact hOK.out)) A1.out).mono ?_); rintro e w18 ⟨rfl, hb⟩; refine ⟨_, rfl, ?_⟩; have n0_ := Aside0.mk (below_step (by repeat (first | (with_reducible first | exact HB.out | apply below_alloc | apply pw_below_drewN | apply below_drew1) | exact HB.out)) hb); clear HB; have HB := n0_; clear n0_; (try clear hb); (try clear hb2); (try clear hk); (try clear hi)) | ((with_reducible refine gate_callee (f := 12) rfl ?_); refine goesL_ (some 11) rfl rfl Tryd.func12 (by kernel_rfl) rfl #[.string (⟨#[34, 92, 120, 54, 49, 34]⟩ : ByteArray)] rfl (by (try simp only [List.map_toArray, List.map_cons, List.map_nil]); first | done | rfl | (simp only [List.length_drop, List.length_take]; rfl)) ?_; (with_reducible refine (quote_Unquote.calls (⟨#[34, 92, 120, 54, 49, 34]⟩ : ByteArray) t180 false _ (by (try refine Aside0.mk ?_); first | exact hOK.out | exact (hOK.out).drewN _ | (refine (hOK.out).later ?_; (repeat (first | (with_reducible first | exact HB.out | apply below_alloc | apply pw_below_drewN | apply below_drew1) | exact HB.out))) | (refine Ok.drewN ?_ _; exact hOK.out)) A2.out).mono ?_); rintro e w19 ⟨rfl, hb⟩; refine ⟨_, rfl, ?_⟩; have n0_ := Aside0.mk (below_step (by repeat (first | (with_reducible first | exact HB.out | apply below_alloc | apply pw_below_drewN | apply below_drew1) | exact HB.out)) hb); clear HB; have HB := n0_; clear n0_; (try clear hb); (try clear hb2); (try clear hk); (try clear hi)))
    go_ret
    exact ⟨by first | rfl | (simp [errW_none, errW_some] <;> rfl) | (simp [*, errW_none, errW_some] <;> rfl), by repeat (first | (with_reducible first | exact HB.out | apply below_alloc | apply pw_below_drewN | apply below_drew1) | exact HB.out)⟩
 ·
  replace c3 := Bool.eq_false_iff.mpr c3
  subst c3
  have H1 : (some false) = some r := by rw [if_neg (show ¬ (false = true) by decide)] at H; exact H
  clear H
  have H := H1
  clear H1
  obtain rfl := Option.some.inj H
  go_enter Tryd.func14, Tryd.ntmps14
  go_wp2_with (first | ((with_reducible refine gate_callee (f := 17) rfl ?_); refine goesL_ (some 7) rfl rfl Tryd.func17 (by kernel_rfl) rfl #[.string (⟨#[195, 169]⟩ : ByteArray), .agg #[.bool true, .bool false, .bool false, .bool false, .bool false, .int .i64 (-1), .int .i64 (-1), .int .i32 113]] rfl (by (try simp only [List.map_toArray, List.map_cons, List.map_nil]); first | done | rfl | (simp only [List.length_drop, List.length_take]; rfl)) ?_; (with_reducible refine (quote_Text.calls k (⟨#[195, 169]⟩ : ByteArray) true false false false false (-1) (-1) 113 t178 false _ (by (try refine Aside0.mk ?_); first | exact hOK.out | exact (hOK.out).drewN _ | (refine (hOK.out).later ?_; (repeat (first | (with_reducible first | exact HB.out | apply below_alloc | apply pw_below_drewN | apply below_drew1) | exact HB.out))) | (refine Ok.drewN ?_ _; exact hOK.out)) A1.out).mono ?_); rintro e w20 ⟨rfl, hb⟩; refine ⟨_, rfl, ?_⟩; have n0_ := Aside0.mk (below_step (by repeat (first | (with_reducible first | exact HB.out | apply below_alloc | apply pw_below_drewN | apply below_drew1) | exact HB.out)) hb); clear HB; have HB := n0_; clear n0_; (try clear hb); (try clear hb2); (try clear hk); (try clear hi)) | ((with_reducible refine gate_callee (f := 12) rfl ?_); refine goesL_ (some 11) rfl rfl Tryd.func12 (by kernel_rfl) rfl #[.string (⟨#[34, 92, 120, 54, 49, 34]⟩ : ByteArray)] rfl (by (try simp only [List.map_toArray, List.map_cons, List.map_nil]); first | done | rfl | (simp only [List.length_drop, List.length_take]; rfl)) ?_; (with_reducible refine (quote_Unquote.calls (⟨#[34, 92, 120, 54, 49, 34]⟩ : ByteArray) t180 t181 _ (by (try refine Aside0.mk ?_); first | exact hOK.out | exact (hOK.out).drewN _ | (refine (hOK.out).later ?_; (repeat (first | (with_reducible first | exact HB.out | apply below_alloc | apply pw_below_drewN | apply below_drew1) | exact HB.out))) | (refine Ok.drewN ?_ _; exact hOK.out)) A2.out).mono ?_); rintro e w21 ⟨rfl, hb⟩; refine ⟨_, rfl, ?_⟩; have n0_ := Aside0.mk (below_step (by repeat (first | (with_reducible first | exact HB.out | apply below_alloc | apply pw_below_drewN | apply below_drew1) | exact HB.out)) hb); clear HB; have HB := n0_; clear n0_; (try clear hb); (try clear hb2); (try clear hk); (try clear hi)))
  go_ret
  exact ⟨by first | rfl | (simp [errW_none, errW_some] <;> rfl) | (simp [*, errW_none, errW_some] <;> rfl), by repeat (first | (with_reducible first | exact HB.out | apply below_alloc | apply pw_below_drewN | apply below_drew1) | exact HB.out)⟩
end Go.Proofs.YtcoippikicikoaaDoor.PQGen
namespace Go.Proofs.YtcoippikicikoaaDoor.PQGen
open Go.RowKit Go.Proofs.YtcoippikicikoaaDoorW.PrintWords Go.Proofs.YtcoippikicikoaaDoorW.PrintLast Go.Proofs.YtcoippikicikoaaDoorW.PrintMore
attribute [local go_sem] max2_int min2_int max_two min_two
set_option linter.unusedVariables false
set_option linter.unusedSimpArgs false
end Go.Proofs.YtcoippikicikoaaDoor.PQGen
namespace Go.Proofs.YtcoippikicikoaaDoor.PQGen
open Go.RowKit Go.Proofs.YtcoippikicikoaaDoorW.PrintWords Go.Proofs.YtcoippikicikoaaDoorW.PrintLast Go.Proofs.YtcoippikicikoaaDoorW.PrintMore
attribute [local go_sem] max2_int min2_int max_two min_two
set_option linter.unusedVariables false
set_option linter.unusedSimpArgs false
end Go.Proofs.YtcoippikicikoaaDoor.PQGen
namespace Go.Proofs.YtcoippikicikoaaDoor.PQChars
open Go.RowKit Go.Proofs.YtcoippikicikoaaDoorW.PrintWords Go.Proofs.YtcoippikicikoaaDoorW.PrintLast Go.Proofs.YtcoippikicikoaaDoorW.PrintMore
attribute [local go_sem] max2_int min2_int max_two min_two
set_option linter.unusedVariables false
set_option linter.unusedSimpArgs false
def errW : Option Int → Value
 | none => .nilIface
 | some c => .iface 0 (.int .i64 c)
theorem errW_none : errW none = .nilIface := rfl
theorem errW_some (c : Int) : errW (some c) = .iface 0 (.int .i64 c) := rfl
end Go.Proofs.YtcoippikicikoaaDoor.PQChars
namespace Go.Proofs.YtcoippikicikoaaDoor.PQChars
open Go.RowKit Go.Proofs.YtcoippikicikoaaDoorW.PrintWords Go.Proofs.YtcoippikicikoaaDoorW.PrintLast Go.Proofs.YtcoippikicikoaaDoorW.PrintMore
attribute [local go_sem] max2_int min2_int max_two min_two
set_option linter.unusedVariables false
set_option linter.unusedSimpArgs false
end Go.Proofs.YtcoippikicikoaaDoor.PQChars
namespace Go.Proofs.YtcoippikicikoaaDoor.PQChars
open Go.RowKit Go.Proofs.YtcoippikicikoaaDoorW.PrintWords Go.Proofs.YtcoippikicikoaaDoorW.PrintLast Go.Proofs.YtcoippikicikoaaDoorW.PrintMore
attribute [local go_sem] max2_int min2_int max_two min_two
set_option linter.unusedVariables false
set_option linter.unusedSimpArgs false
end Go.Proofs.YtcoippikicikoaaDoor.PQChars
namespace Go.Proofs.YtcoippikicikoaaDoor
open Go.RowKit Go.Proofs.YtcoippikicikoaaDoorW.PrintWords Go.Proofs.YtcoippikicikoaaDoorW.PrintMore Go.Proofs.YtcoippikicikoaaDoor.PQRef
open Go.Proofs.YtcoippikicikoaaDoor.PQPut (quote_put.f quote_escape.f)
theorem lives_a : PQGen.platenlaw02_lives.f 100 = some true := by decide +kernel
theorem lives_f (k : Nat) : PQGen.platenlaw02_lives.f (k + 100) = some true :=
  at_rounds (fun k => PQGen.platenlaw02_lives.mono k) (Nat.le_add_left 100 k) lives_a
end Go.Proofs.YtcoippikicikoaaDoor
namespace Go.Proofs.YtcoippikicikoaaDoor
open Go.RowKit Go.Proofs.YtcoippikicikoaaDoorW.PrintWords Go.Proofs.YtcoippikicikoaaDoorW.PrintMore Go.Proofs.YtcoippikicikoaaDoor.PQRef
open Go.Proofs.YtcoippikicikoaaDoor.PQPut (quote_put.f quote_escape.f)
end Go.Proofs.YtcoippikicikoaaDoor
namespace Go.Proofs.YtcoippikicikoaaDoor
open Go.RowKit Go.Proofs.YtcoippikicikoaaDoorW.PrintWords Go.Proofs.YtcoippikicikoaaDoorW.PrintMore Go.Proofs.YtcoippikicikoaaDoor.PQRef
end Go.Proofs.YtcoippikicikoaaDoor
namespace Go.Proofs.YtcoippikicikoaaDoor
open Go.RowKit Go.Proofs.YtcoippikicikoaaDoorW.PrintWords Go.Proofs.YtcoippikicikoaaDoorW.PrintMore Go.Proofs.YtcoippikicikoaaDoor.PQRef
theorem getT (l : List UInt8) (i : Nat) : (T l).get! i = l.getD i 0 := by
  show (l.toArray)[i]! = _
  rw [Array.getElem!_eq_getD]
  simp [List.getD]
  rfl
theorem toNat_ofNat (x : Nat) (h : x < 256) : (UInt8.ofNat x).toNat = x := by rw [UInt8.toNat_ofNat']; omega
theorem extT (l : List UInt8) (i j : Nat) : (T l).extract i j = T ((l.take j).drop i) := by
  refine bytes_ext ?_
  rw [ByteArray.data_extract, Array.toList_extract, List.extract_eq_take_drop, List.drop_take]
theorem drop_take (l : List UInt8) (p w : Nat) : (l.drop p).take w ++ l.drop (p + w) = l.drop p := by
  rw [← List.drop_drop, List.take_append_drop]
end Go.Proofs.YtcoippikicikoaaDoor
namespace Go.Proofs.YtcoippikicikoaaDoor.PQBack
open Go.RowKit Go.Proofs.YtcoippikicikoaaDoorW.PrintWords Go.Proofs.YtcoippikicikoaaDoorW.PrintLast Go.Proofs.YtcoippikicikoaaDoorW.PrintMore
attribute [local go_sem] max2_int min2_int max_two min_two
set_option linter.unusedVariables false
set_option linter.unusedSimpArgs false
def errW : Option Int → Value
 | none => .nilIface
 | some c => .iface 0 (.int .i64 c)
theorem errW_none : errW none = .nilIface := rfl
theorem errW_some (c : Int) : errW (some c) = .iface 0 (.int .i64 c) := rfl
end Go.Proofs.YtcoippikicikoaaDoor.PQBack
namespace Go.Proofs.YtcoippikicikoaaDoor.PQBack
open Go.RowKit Go.Proofs.YtcoippikicikoaaDoorW.PrintWords Go.Proofs.YtcoippikicikoaaDoorW.PrintLast Go.Proofs.YtcoippikicikoaaDoorW.PrintMore
attribute [local go_sem] max2_int min2_int max_two min_two
set_option linter.unusedVariables false
set_option linter.unusedSimpArgs false
end Go.Proofs.YtcoippikicikoaaDoor.PQBack
namespace Go.Proofs.YtcoippikicikoaaDoor.PQBack
open Go.RowKit Go.Proofs.YtcoippikicikoaaDoorW.PrintWords Go.Proofs.YtcoippikicikoaaDoorW.PrintLast Go.Proofs.YtcoippikicikoaaDoorW.PrintMore
attribute [local go_sem] max2_int min2_int max_two min_two
set_option linter.unusedVariables false
set_option linter.unusedSimpArgs false
end Go.Proofs.YtcoippikicikoaaDoor.PQBack
namespace Go.Proofs.YtcoippikicikoaaDoor
open Go.RowKit Go.Proofs.YtcoippikicikoaaDoorW.PrintWords Go.Proofs.YtcoippikicikoaaDoorW.PrintMore Go.Proofs.YtcoippikicikoaaDoor.PQRef
theorem cut_f (a0 : ByteArray) : ∃ t, platenlaw02_cut.f a0 = some t ∧ t.size ≤ 1000 := by
  unfold platenlaw02_cut.f
  by_cases h : (a0.size : Int) > 1000
  · rw [if_pos h, if_pos (by omega), if_pos (by omega)]
    exact ⟨_, rfl, by rw [ByteArray.size_extract]; omega⟩
  · rw [if_neg h]
    exact ⟨a0, rfl, by omega⟩
theorem bnd2 (a b : Nat) (ha : a ≤ 100000) (hb : b ≤ 100000) : a + b ≤ 9223372036854775807 := by omega
theorem sz_app (a b : List UInt8) (ha : a.length ≤ 100000) (hb : b.length ≤ 100000) : (T a).size + (T b).size ≤ 9223372036854775807 := by
  rw [T_size, T_size]; exact bnd2 _ _ ha hb
theorem ofNat_ints (n : Nat) (h : n < 256) : strOfNums [(n : Int)] = T [UInt8.ofNat n] := by
  rw [← strOfNums_ints]
  simp only [ints, List.map_cons, List.map_nil]
  rw [toNat_ofNat n h]
end Go.Proofs.YtcoippikicikoaaDoor
namespace Go.Proofs.YtcoippikicikoaaDoor
open Go.RowKit Go.Proofs.YtcoippikicikoaaDoorW.PrintWords Go.Proofs.YtcoippikicikoaaDoorW.PrintMore Go.Proofs.YtcoippikicikoaaDoor.PQRef
def fillL (c : UInt8) (n : Nat) : List UInt8 := List.replicate n c
theorem fillL_length (c : UInt8) (n : Nat) : (fillL c n).length = n := List.length_replicate
def lacksN (wid : Int) (n : Nat) : Nat := (min wid 1000).toNat - n
def padL (x : List UInt8) (minus zero : Bool) (wid : Int) : List UInt8 :=
  if lacksN wid (Lib.runeCount (T x)) = 0 then x
  else if minus = true then x ++ fillL 32 (lacksN wid (Lib.runeCount (T x)))
  else if zero = true then fillL 48 (lacksN wid (Lib.runeCount (T x))) ++ x
  else fillL 32 (lacksN wid (Lib.runeCount (T x))) ++ x
theorem bufFill_f (c : Nat) (n : Nat) (hc : c < 256) (hn : n ≤ 1000) : PQGen.buf_Fill.f (c : Int) (n : Int) = some (T (fillL (UInt8.ofNat c) n)) := by
  have e1 : mx 0 (mn (n : Int) 1000) = (n : Int) := by unfold mx mn; (repeat' split) <;> omega
  unfold PQGen.buf_Fill.f strings_Repeat.f
  rw [e1, ofNat_ints c hc, Int.toNat_natCast]
  have sz : (T [UInt8.ofNat c]).size = 1 := T_size _
  rw [if_pos ⟨by omega, by omega, by rw [sz]; omega⟩, Option.bind_some]
  unfold repB fillL
  have := Lib.repeatL_replicate (UInt8.ofNat c) 1 n
  rw [Nat.mul_one] at this
  exact congrArg (fun l => some (T l)) this
theorem bufPad_f (x : List UInt8) (b0 minus b2 b3 zero : Bool) (wid p v : Int) (hx : x.length ≤ 100000) :
    PQGen.buf_Pad.f (T x) b0 minus b2 b3 zero wid p v = some (T (padL x minus zero wid)) := by
  have hsz : (T x).size = x.length := T_size x
  have hc := Lib.runeCount_le (T x)
  unfold PQGen.buf_Pad.f buf_Count.f
  rw [if_pos (by omega), Option.bind_some]
  unfold padL
  generalize Lib.runeCount (T x) = N at hc ⊢
  have hm : mx 0 (mn wid 1000) = (((min wid 1000).toNat : Nat) : Int) := by unfold mx mn; (repeat' split) <;> omega
  have hle : (min wid 1000).toNat ≤ 1000 := by omega
  rw [hm]
  unfold lacksN
  generalize (min wid 1000).toNat = M at hle ⊢
  rw [wrap64_id (by omega) (by omega)]
  by_cases h0 : M - N = 0
  · rw [if_pos (by omega), if_pos h0]
  · have e : ((M : Int) - (N : Int)) = ((M - N : Nat) : Int) := by omega
    have f32 := bufFill_f 32 (M - N) (by omega) (by omega)
    have f48 := bufFill_f 48 (M - N) (by omega) (by omega)
    rw [if_neg (by omega), if_neg h0, e]
    have s1 := sz_app x (fillL 32 (M - N)) (by omega) (by rw [fillL_length]; omega)
    have s2 := sz_app (fillL 48 (M - N)) x (by rw [fillL_length]; omega) (by omega)
    have s3 := sz_app (fillL 32 (M - N)) x (by rw [fillL_length]; omega) (by omega)
    rw [show (32 : Int) = ((32 : Nat) : Int) from rfl, show (48 : Int) = ((48 : Nat) : Int) from rfl, f32, f48, Option.bind_some, Option.bind_some, Option.bind_some]
    cases minus with
    | true => rw [if_pos rfl, if_pos rfl]; exact (if_pos s1).trans (by rw [← T_append]; rfl)
    | false =>
      rw [if_neg Bool.false_ne_true, if_neg Bool.false_ne_true]
      cases zero with
      | true => rw [if_pos rfl, if_pos rfl]; exact (if_pos s2).trans (by rw [← T_append]; rfl)
      | false => rw [if_neg Bool.false_ne_true, if_neg Bool.false_ne_true]; exact (if_pos s3).trans (by rw [← T_append]; rfl)
end Go.Proofs.YtcoippikicikoaaDoor
namespace Go.Proofs.YtcoippikicikoaaDoor.PQHexes
open Go.RowKit Go.Proofs.YtcoippikicikoaaDoorW.PrintWords Go.Proofs.YtcoippikicikoaaDoorW.PrintLast Go.Proofs.YtcoippikicikoaaDoorW.PrintMore
attribute [local go_sem] max2_int min2_int max_two min_two
set_option linter.unusedVariables false
set_option linter.unusedSimpArgs false
def errW : Option Int → Value
 | none => .nilIface
 | some c => .iface 0 (.int .i64 c)
theorem errW_none : errW none = .nilIface := rfl
theorem errW_some (c : Int) : errW (some c) = .iface 0 (.int .i64 c) := rfl
end Go.Proofs.YtcoippikicikoaaDoor.PQHexes
namespace Go.Proofs.YtcoippikicikoaaDoor.PQHexes
open Go.RowKit Go.Proofs.YtcoippikicikoaaDoorW.PrintWords Go.Proofs.YtcoippikicikoaaDoorW.PrintLast Go.Proofs.YtcoippikicikoaaDoorW.PrintMore
attribute [local go_sem] max2_int min2_int max_two min_two
set_option linter.unusedVariables false
set_option linter.unusedSimpArgs false
end Go.Proofs.YtcoippikicikoaaDoor.PQHexes
namespace Go.Proofs.YtcoippikicikoaaDoor.PQHexes
open Go.RowKit Go.Proofs.YtcoippikicikoaaDoorW.PrintWords Go.Proofs.YtcoippikicikoaaDoorW.PrintLast Go.Proofs.YtcoippikicikoaaDoorW.PrintMore
attribute [local go_sem] max2_int min2_int max_two min_two
set_option linter.unusedVariables false
set_option linter.unusedSimpArgs false
end Go.Proofs.YtcoippikicikoaaDoor.PQHexes
namespace Go.Proofs.YtcoippikicikoaaDoor
open Go.RowKit Go.Proofs.YtcoippikicikoaaDoorW.PrintWords Go.Proofs.YtcoippikicikoaaDoorW.PrintMore Go.Proofs.YtcoippikicikoaaDoor.PQRef
def hxg (g : Bool) (d : Nat) : UInt8 := UInt8.ofNat (if d < 10 then 48 + d else if g = true then 55 + d else 87 + d)
def markL (g sh : Bool) : List UInt8 := if sh = true then (if g = true then [48, 88] else [48, 120]) else []
def hexAt (s : ByteArray) (g sp sh : Bool) (i : Nat) : List UInt8 :=
  (if sp = true ∧ 0 < i then [32] else []) ++ (if sp = true ∨ i = 0 then markL g sh else []) ++ [hxg g ((s.get! i).toNat / 16), hxg g ((s.get! i).toNat % 16)]
def hexT (s : ByteArray) (g sp sh : Bool) : Nat → Nat → List UInt8
  | 0, _ => []
  | n + 1, i => if i < s.size then hexAt s g sp sh i ++ hexT s g sp sh n (i + 1) else []
theorem markL_length (g sh : Bool) : (markL g sh).length ≤ 2 := by cases g <;> cases sh <;> decide
theorem hexAt_length (s : ByteArray) (g sp sh : Bool) (i : Nat) : (hexAt s g sp sh i).length ≤ 5 ∧ 2 ≤ (hexAt s g sp sh i).length := by
  have := markL_length g sh
  unfold hexAt
  repeat' split
  all_goals simp
  all_goals omega
def digB (g : Bool) : ByteArray := if g = true then ⟨#[48, 49, 50, 51, 52, 53, 54, 55, 56, 57, 65, 66, 67, 68, 69, 70]⟩ else ⟨#[48, 49, 50, 51, 52, 53, 54, 55, 56, 57, 97, 98, 99, 100, 101, 102]⟩
theorem digB_size (g : Bool) : (digB g).size = 16 := by cases g <;> rfl
theorem digB_bt (g : Bool) (d : Nat) (h : d < 16) : bt (digB g) (d : Int) = ((hxg g d).toNat : Int) := by
  have : ∀ g : Bool, ∀ d : Fin 16, bt (digB g) ((d.val : Nat) : Int) = ((hxg g d.val).toNat : Int) := by decide
  exact this g ⟨d, h⟩
theorem bytesOf_T (l : List UInt8) : bytesOf (T l) = ints l := rfl
theorem lt_big (a b : Nat) (h : a ≤ 1000000) (h2 : b ≤ 1000000) : a + b < 140737488355328 := by omega
theorem lt_big1 (a : Nat) (h : a ≤ 1000000) : a < 140737488355328 := by omega
theorem hex_step (k : Nat) (s : ByteArray) (g sh sp : Bool) (acc : List UInt8) (i : Nat) (b0 b1 b4 : Bool) (w p v : Int) (hi : i < s.size) (hs : s.size ≤ 100000) (ha : acc.length ≤ 600000) :
    PQGen.quote_Hex.l0 (k + 2) s (digB g) (T (markL g sh)) (ints acc) (s.size : Int) (i : Int) b0 b1 sh sp b4 w p v =
      PQGen.quote_Hex.l0 k s (digB g) (T (markL g sh)) (ints (acc ++ hexAt s g sp sh i)) (s.size : Int) ((i + 1 : Nat) : Int) b0 b1 sh sp b4 w p v := by
  have hb := bt_lt s i
  have hml := markL_length g sh
  have e1 : wrap64 ((i : Int) + 1) = ((i + 1 : Nat) : Int) := by rw [wrap64_id (by omega) (by omega)]; omega
  have eb := bt_get s i
  have ed : bt s (i : Int) / 16 = (((s.get! i).toNat / 16 : Nat) : Int) := by rw [eb]; omega
  have em : Go.bits .and .u8 (bt s (i : Int)) 15 = (((s.get! i).toNat % 16 : Nat) : Int) := by rw [eb, u8_and15 (x := (((s.get! i).toNat : Nat) : Int)) (by omega) (by omega)]; omega
  have g1 := digB_bt g ((s.get! i).toNat / 16) (by omega)
  have g2 := digB_bt g ((s.get! i).toNat % 16) (by omega)
  have dz := digB_size g
  have p0 : (0 : Int) ≤ (i : Int) := by omega
  have p1 : (i : Int) < (s.size : Int) := by omega
  have p2 : (0 : Int) ≤ (((s.get! i).toNat / 16 : Nat) : Int) := by omega
  have p3 : (((s.get! i).toNat / 16 : Nat) : Int) < ((digB g).size : Int) := by omega
  have p4 : (0 : Int) ≤ (((s.get! i).toNat % 16 : Nat) : Int) := by omega
  have p5 : (((s.get! i).toNat % 16 : Nat) : Int) < ((digB g).size : Int) := by omega
  have mz : (T (markL g sh)).size ≤ 2 := by rw [T_size]; exact hml
  have hx : [(((hxg g ((s.get! i).toNat / 16)).toNat : Nat) : Int), (((hxg g ((s.get! i).toNat % 16)).toNat : Nat) : Int)] = ints [hxg g ((s.get! i).toNat / 16), hxg g ((s.get! i).toNat % 16)] := rfl
  have h32 : ([32] : List Int) = ints [32] := rfl
  rw [PQGen.quote_Hex.l0, if_pos p1]
  cases sp with
  | true =>
    rw [if_pos rfl, PQGen.quote_Hex.j5]
    by_cases h0 : 0 < i
    · have eh : hexAt s g true sh i = [32] ++ markL g sh ++ [hxg g ((s.get! i).toNat / 16), hxg g ((s.get! i).toNat % 16)] := by unfold hexAt; rw [if_pos ⟨rfl, h0⟩, if_pos (.inl rfl)]
      have l1 : (ints acc).length < 140737488355328 := lt_big1 _ (by rw [ints_length]; omega)
      have l2 : (ints acc ++ [32]).length + (T (markL g sh)).size < 140737488355328 := lt_big _ _ (by rw [List.length_append, ints_length]; simp; omega) (by omega)
      have l3 : (ints (acc ++ [32] ++ markL g sh)).length + (ints [hxg g ((s.get! i).toNat / 16), hxg g ((s.get! i).toNat % 16)]).length < 140737488355328 := lt_big _ _ (by rw [ints_length]; simp; omega) (by rw [ints_length]; simp)
      rw [if_pos (decide_eq_true (by omega)), if_pos l1, Option.bind_some, if_pos rfl, if_pos l2, Option.bind_some, if_pos p0, if_pos p1, ed, em, if_pos p2, if_pos p3, if_pos p4, if_pos p5, Option.bind_some, g1, g2, hx, bytesOf_T, h32, ← ints_append, ← ints_append, if_pos l3, e1, ← ints_append, eh]
      congr 2
      simp only [List.append_assoc]
    · obtain rfl : i = 0 := by omega
      have eh : hexAt s g true sh 0 = markL g sh ++ [hxg g ((s.get! 0).toNat / 16), hxg g ((s.get! 0).toNat % 16)] := by unfold hexAt; rw [if_neg (by simp), if_pos (.inl rfl)]; rfl
      have l2 : (ints acc).length + (T (markL g sh)).size < 140737488355328 := lt_big _ _ (by rw [ints_length]; omega) (by omega)
      have l3 : (ints (acc ++ markL g sh)).length + (ints [hxg g ((s.get! 0).toNat / 16), hxg g ((s.get! 0).toNat % 16)]).length < 140737488355328 := lt_big _ _ (by rw [ints_length]; simp; omega) (by rw [ints_length]; simp)
      rw [if_neg (by rw [decide_eq_false (by omega)]; exact Bool.false_ne_true), if_pos rfl, if_pos l2, Option.bind_some, if_pos p0, if_pos p1, ed, em, if_pos p2, if_pos p3, if_pos p4, if_pos p5, Option.bind_some, g1, g2, hx, bytesOf_T, ← ints_append, if_pos l3, e1, ← ints_append, eh]
      congr 2
      simp only [List.append_assoc]
  | false =>
    rw [if_neg Bool.false_ne_true, PQGen.quote_Hex.j5, if_neg Bool.false_ne_true, if_neg Bool.false_ne_true]
    by_cases h0 : 0 < i
    · have eh : hexAt s g false sh i = [hxg g ((s.get! i).toNat / 16), hxg g ((s.get! i).toNat % 16)] := by unfold hexAt; rw [if_neg (by simp), if_neg (by simp; omega)]; rfl
      have l3 : (ints acc).length + (ints [hxg g ((s.get! i).toNat / 16), hxg g ((s.get! i).toNat % 16)]).length < 140737488355328 := lt_big _ _ (by rw [ints_length]; omega) (by rw [ints_length]; simp)
      rw [if_neg (show ¬ (i : Int) = 0 by omega), if_pos p0, if_pos p1, ed, em, if_pos p2, if_pos p3, if_pos p4, if_pos p5, Option.bind_some, g1, g2, hx, if_pos l3, e1, ← ints_append, eh]
    · obtain rfl : i = 0 := by omega
      have eh : hexAt s g false sh 0 = markL g sh ++ [hxg g ((s.get! 0).toNat / 16), hxg g ((s.get! 0).toNat % 16)] := by unfold hexAt; rw [if_neg (by simp), if_pos (.inr rfl)]; rfl
      have l2 : (ints acc).length + (T (markL g sh)).size < 140737488355328 := lt_big _ _ (by rw [ints_length]; omega) (by omega)
      have l3 : (ints (acc ++ markL g sh)).length + (ints [hxg g ((s.get! 0).toNat / 16), hxg g ((s.get! 0).toNat % 16)]).length < 140737488355328 := lt_big _ _ (by rw [ints_length]; simp; omega) (by rw [ints_length]; simp)
      rw [if_pos (show ((0 : Nat) : Int) = 0 from rfl), if_pos l2, Option.bind_some, if_pos p0, if_pos p1, ed, em, if_pos p2, if_pos p3, if_pos p4, if_pos p5, Option.bind_some, g1, g2, hx, bytesOf_T, ← ints_append, if_pos l3, e1, ← ints_append, eh]
      congr 2
      simp only [List.append_assoc]
theorem hex_l0 (s : ByteArray) (g sh sp b0 minus zero : Bool) (w p v : Int) (hs : s.size ≤ 10000) : ∀ (n i k : Nat) (acc : List UInt8), s.size ≤ i + n → i ≤ s.size → 2 * n + 1 ≤ k → acc.length + 5 * n ≤ 50000 →
    PQGen.quote_Hex.l0 k s (digB g) (T (markL g sh)) (ints acc) (s.size : Int) (i : Int) b0 minus sh sp zero w p v = some (T (padL (acc ++ hexT s g sp sh n i) minus zero w)) := by
  have fin : ∀ (i k : Nat) (acc : List UInt8), ¬ i < s.size → acc.length ≤ 50000 → PQGen.quote_Hex.l0 (k + 1) s (digB g) (T (markL g sh)) (ints acc) (s.size : Int) (i : Int) b0 minus sh sp zero w p v = some (T (padL acc minus zero w)) := by
    intro i k acc hi ha
    rw [PQGen.quote_Hex.l0, if_neg (by omega), strOfNums_ints, bufPad_f acc b0 minus sh sp zero w p v (by omega)]
    rfl
  intro n
  induction n with
  | zero =>
    intro i k acc h1 h2 hk ha
    obtain ⟨k, rfl⟩ : ∃ k', k = k' + 1 := ⟨k - 1, by omega⟩
    rw [fin i k acc (by omega) (by omega)]
    simp [hexT]
  | succ n ih =>
    intro i k acc h1 h2 hk ha
    obtain ⟨k, rfl⟩ : ∃ k', k = k' + 2 := ⟨k - 2, by omega⟩
    by_cases hi : i < s.size
    · have hl := hexAt_length s g sp sh i
      rw [hex_step k s g sh sp acc i b0 minus zero w p v hi (by omega) (by omega), ih (i + 1) k _ (by omega) (by omega) (by omega) (by rw [List.length_append]; omega)]
      rw [hexT, if_pos hi, List.append_assoc]
    · rw [show k + 2 = (k + 1) + 1 from rfl, fin i (k + 1) acc hi (by omega)]
      simp [hexT, hi]
def cutH (s : ByteArray) (p : Int) : ByteArray := if 0 ≤ p ∧ p < (s.size : Int) then s.extract 0 p.toNat else s
def hexL2 (s : ByteArray) (g sp sh : Bool) : List UInt8 := hexT s g sp sh s.size 0
theorem Hex_f (k : Nat) (s : ByteArray) (b0 minus sh sp zero : Bool) (w p v : Int) (hs : s.size ≤ 10000) (hk : 2 * s.size + 100 ≤ k) :
    PQGen.quote_Hex.f k s b0 minus sh sp zero w p v = some (T (padL (hexL2 (cutH s p) (decide (v = 88)) sp sh) minus zero w)) := by
  have hj : ∀ (t : ByteArray) (k : Nat), t.size ≤ s.size → 2 * s.size + 50 ≤ k → PQGen.quote_Hex.j1 k t b0 minus sh sp zero w p v = some (T (padL (hexL2 t (decide (v = 88)) sp sh) minus zero w)) := by
    intro t k ht hk
    obtain ⟨k, rfl⟩ : ∃ k', k = k' + 3 := ⟨k - 3, by omega⟩
    have h3 : ∀ g : Bool, PQGen.quote_Hex.j3 (k + 1) t (digB g) (T (markL g sh)) b0 minus sh sp zero w p v = some (T (padL (hexL2 t g sp sh) minus zero w)) := by
      intro g
      have := hex_l0 t g sh sp b0 minus zero w p v (by omega) t.size 0 k [] (by omega) (by omega) (by omega) (by simp; omega)
      rw [PQGen.quote_Hex.j3]
      exact this
    have h2 : ∀ g : Bool, decide (v = 88) = g → PQGen.quote_Hex.j2 (k + 2) t (digB g) (⟨#[]⟩ : ByteArray) b0 minus sh sp zero w p v = some (T (padL (hexL2 t g sp sh) minus zero w)) := by
      intro g hg
      rw [← h3 g, PQGen.quote_Hex.j2]
      cases sh with
      | false => rw [if_neg Bool.false_ne_true]; rfl
      | true =>
        rw [if_pos rfl]
        cases g with
        | true => rw [if_pos (of_decide_eq_true hg)]; rfl
        | false => rw [if_neg (of_decide_eq_false hg)]; rfl
    rw [PQGen.quote_Hex.j1]
    by_cases hv : v = 88
    · rw [if_pos hv]
      have hd : decide (v = 88) = true := decide_eq_true hv
      rw [hd]
      exact h2 true hd
    · rw [if_neg hv]
      have hd : decide (v = 88) = false := decide_eq_false hv
      rw [hd]
      exact h2 false hd
  obtain ⟨k, rfl⟩ : ∃ k', k = k' + 1 := ⟨k - 1, by omega⟩
  unfold PQGen.quote_Hex.f cutH
  by_cases h1 : 0 ≤ p
  · rw [if_pos (by omega), PQGen.quote_Hex.j0]
    by_cases h2 : p < (s.size : Int)
    · rw [if_pos (decide_eq_true h2), if_pos h1, if_pos (by omega), if_pos ⟨h1, h2⟩]
      exact hj _ k (by rw [ByteArray.size_extract]; omega) (by omega)
    · rw [if_neg (by rw [decide_eq_false h2]; exact Bool.false_ne_true), if_neg (fun h => h2 h.2)]
      exact hj s k (Nat.le_refl _) (by omega)
  · rw [if_neg (by omega), PQGen.quote_Hex.j0, if_neg Bool.false_ne_true, if_neg (fun h => h1 h.1)]
    exact hj s k (Nat.le_refl _) (by omega)
end Go.Proofs.YtcoippikicikoaaDoor
namespace Go.Proofs.YtcoippikicikoaaDoor.PQHexBack
open Go.RowKit Go.Proofs.YtcoippikicikoaaDoorW.PrintWords Go.Proofs.YtcoippikicikoaaDoorW.PrintLast Go.Proofs.YtcoippikicikoaaDoorW.PrintMore
attribute [local go_sem] max2_int min2_int max_two min_two
set_option linter.unusedVariables false
set_option linter.unusedSimpArgs false
def errW : Option Int → Value
 | none => .nilIface
 | some c => .iface 0 (.int .i64 c)
theorem errW_none : errW none = .nilIface := rfl
theorem errW_some (c : Int) : errW (some c) = .iface 0 (.int .i64 c) := rfl
end Go.Proofs.YtcoippikicikoaaDoor.PQHexBack
namespace Go.Proofs.YtcoippikicikoaaDoor.PQHexBack
open Go.RowKit Go.Proofs.YtcoippikicikoaaDoorW.PrintWords Go.Proofs.YtcoippikicikoaaDoorW.PrintLast Go.Proofs.YtcoippikicikoaaDoorW.PrintMore
attribute [local go_sem] max2_int min2_int max_two min_two
set_option linter.unusedVariables false
set_option linter.unusedSimpArgs false
end Go.Proofs.YtcoippikicikoaaDoor.PQHexBack
