/- The tied card of QuoteWide: for every input the law returns true; its arguments read as they did. Conditions: the library's variables that the row lists start as the program's text lays them. -/
import Derived.Test.YtcoippikicikoaaDoorProg
import Derived.Below
import Derived.Deep.Draws
import Derived.Deep.AppendLies
import Derived.Maps.AppendAt
import Derived.OwnWalk
import Derived.Laws.BytesArg
import Derived.Laws.MakeOwn
import Derived.Laws.OwnMore
import Derived.Deep.OwnRows
import Derived.Tactics
import Derived.Lib.ConvBytes
import Derived.Laws.Slices
import Derived.WalkKit
import Derived.KernelRfl
import Derived.RowKit3
import Derived.Deep.LoopGhost
import Derived.Deep.QuietTactic
import Derived.BigQuiet
import Derived.WideLaws
import Derived.Deep.DeepCutAuto
import Derived.Deep.CutBlock
import Derived.Deep.RegionHeld3
import Derived.Laws.Rows
import Derived.Lib.AppendStr
import Derived.ArgAppend
import Derived.Laws.IdiomCopy
import Derived.OrdersHeld
import Derived.Laws.BitsLemmas
import Derived.RowKit
import Derived.Lib.ValidLaws
import Derived.Test.YtcoippikicikoaaDoorCards
import Derived.Test.YtcoippikicikoaaDoorTie
import Derived.Shelf.Vars
import Derived.ProofKit
import Derived.OpenShut
import Derived.PinnedBridge
import Derived.Lay
import Derived.Lib.LaidU8
import Derived.SevenTiedAt
import Derived.Stop.Joined
import Derived.Lib.SmallJoins
import Derived.Test.YtcoippikicikoaaDoorZVc
namespace Go.Proofs.YtcoippikicikoaaDoor.PQGen
open Go.RowKit Go.Proofs.YtcoippikicikoaaDoorW.PrintWords Go.Proofs.YtcoippikicikoaaDoorW.PrintLast Go.Proofs.YtcoippikicikoaaDoorW.PrintMore
attribute [local go_sem] max2_int min2_int max_two min_two
set_option linter.unusedVariables false
set_option linter.unusedSimpArgs false
mutual
def quote_Text.j0 : Nat → ByteArray → Int → Bool → Bool → Bool → Bool → Bool → Bool → Int → Int → Int → Option (ByteArray × Bool)
 | 0, _, _, _, _, _, _, _, _, _, _, _ => none
 | k + 1, x0, x9, x10, x164000, x164001, x164002, x164003, x164004, x164005, x164006, x164007 => if x10 = true then (if x164007 = 118 then (quote_Text.j1 k x0 x164002 x164000 x164001 x164002 x164003 x164004 x164005 x164006 x164007) else (quote_Text.j1 k x0 false x164000 x164001 x164002 x164003 x164004 x164005 x164006 x164007)) else (if x9 = 113 then ((buf_Cut.f x0 x164006).bind fun t168 => (if x164002 = true then ((quote_Raw.f t168).bind fun bt169 => (if bt169.2 = true then ((buf_Pad.f bt169.1 x164000 x164001 x164002 x164003 x164004 x164005 x164006 x164007).bind fun t171 => (some (t171, true))) else ((quote_Quote.f t168 x164000).bind fun t172 => ((buf_Pad.f t172 x164000 x164001 x164002 x164003 x164004 x164005 x164006 x164007).bind fun t173 => (some (t173, true)))))) else ((quote_Quote.f t168 x164000).bind fun t174 => ((buf_Pad.f t174 x164000 x164001 x164002 x164003 x164004 x164005 x164006 x164007).bind fun t175 => (some (t175, true)))))) else (if x9 = 120 then ((quote_Hex.f k x0 x164000 x164001 x164002 x164003 x164004 x164005 x164006 x164007).bind fun t176 => (some (t176, true))) else (if x9 = 88 then ((quote_Hex.f k x0 x164000 x164001 x164002 x164003 x164004 x164005 x164006 x164007).bind fun t177 => (some (t177, true))) else (some ((⟨#[]⟩ : ByteArray), false)))))
def quote_Text.j1 : Nat → ByteArray → Bool → Bool → Bool → Bool → Bool → Bool → Int → Int → Int → Option (ByteArray × Bool)
 | 0, _, _, _, _, _, _, _, _, _, _ => none
 | k + 1, x0, x19, x164000, x164001, x164002, x164003, x164004, x164005, x164006, x164007 => if x19 = true then ((quote_Quote.f x0 false).bind fun t164 => ((buf_Pad.f t164 x164000 x164001 x164002 x164003 x164004 x164005 x164006 x164007).bind fun t165 => (some (t165, true)))) else ((buf_Cut.f x0 x164006).bind fun t166 => ((buf_Pad.f t166 x164000 x164001 x164002 x164003 x164004 x164005 x164006 x164007).bind fun t167 => (some (t167, true))))
end
def quote_Text.f (k : Nat) (a0 : ByteArray) (a1_0 : Bool) (a1_1 : Bool) (a1_2 : Bool) (a1_3 : Bool) (a1_4 : Bool) (a1_5 : Int) (a1_6 : Int) (a1_7 : Int) : Option (ByteArray × Bool) := if a1_7 = 118 then (quote_Text.j0 k a0 a1_7 (a1_7 == 118) a1_0 a1_1 a1_2 a1_3 a1_4 a1_5 a1_6 a1_7) else (quote_Text.j0 k a0 a1_7 (a1_7 == 115) a1_0 a1_1 a1_2 a1_3 a1_4 a1_5 a1_6 a1_7)
theorem quote_Text.mono_l : ∀ k, (∀ y0 y1 y2 y3 y4 y5 y6 y7 y8 y9 y10, LeO (quote_Text.j0 k y0 y1 y2 y3 y4 y5 y6 y7 y8 y9 y10) (quote_Text.j0 (k + 1) y0 y1 y2 y3 y4 y5 y6 y7 y8 y9 y10)) ∧ (∀ y0 y1 y2 y3 y4 y5 y6 y7 y8 y9, LeO (quote_Text.j1 k y0 y1 y2 y3 y4 y5 y6 y7 y8 y9) (quote_Text.j1 (k + 1) y0 y1 y2 y3 y4 y5 y6 y7 y8 y9))
 | 0 => ⟨fun _ _ _ _ _ _ _ _ _ _ _ r h => by simp [quote_Text.j0] at h, fun _ _ _ _ _ _ _ _ _ _ r h => by simp [quote_Text.j1] at h⟩
 | k + 1 => by
  obtain ⟨ih0, ih1⟩ := quote_Text.mono_l k
  refine ⟨?_, ?_⟩
  ·
   intro y0 y1 y2 y3 y4 y5 y6 y7 y8 y9 y10
   unfold quote_Text.j0
   repeat' first
   | (with_reducible exact ih0 _ _ _ _ _ _ _ _ _ _ _)
   | (with_reducible exact ih1 _ _ _ _ _ _ _ _ _ _)
   | (with_reducible exact quote_Hex.mono _ _ _ _ _ _ _ _ _ _)
   | (with_reducible exact LeO.refl _)
   | (with_reducible exact LeO.none _)
   | (with_reducible refine LeO.ite ?_ ?_)
   | (with_reducible refine LeO.bind ?_ (fun _ => ?_))
   | exact ih0 _ _ _ _ _ _ _ _ _ _ _
   | exact ih1 _ _ _ _ _ _ _ _ _ _
   | exact quote_Hex.mono _ _ _ _ _ _ _ _ _ _
   | exact LeO.none _
   | refine LeO.ite ?_ ?_
   | refine LeO.bind ?_ (fun _ => ?_)
  ·
   intro y0 y1 y2 y3 y4 y5 y6 y7 y8 y9
   unfold quote_Text.j1
   repeat' first
   | (with_reducible exact ih0 _ _ _ _ _ _ _ _ _ _ _)
   | (with_reducible exact ih1 _ _ _ _ _ _ _ _ _ _)
   | (with_reducible exact quote_Hex.mono _ _ _ _ _ _ _ _ _ _)
   | (with_reducible exact LeO.refl _)
   | (with_reducible exact LeO.none _)
   | (with_reducible refine LeO.ite ?_ ?_)
   | (with_reducible refine LeO.bind ?_ (fun _ => ?_))
   | exact ih0 _ _ _ _ _ _ _ _ _ _ _
   | exact ih1 _ _ _ _ _ _ _ _ _ _
   | exact quote_Hex.mono _ _ _ _ _ _ _ _ _ _
   | exact LeO.none _
   | refine LeO.ite ?_ ?_
   | refine LeO.bind ?_ (fun _ => ?_)
theorem quote_Text.mono : ∀ a0 a1 a2 a3 a4 a5 a6 a7 a8 k, LeO (quote_Text.f k a0 a1 a2 a3 a4 a5 a6 a7 a8) (quote_Text.f (k + 1) a0 a1 a2 a3 a4 a5 a6 a7 a8) := by
 intro a0 a1 a2 a3 a4 a5 a6 a7 a8 k
 obtain ⟨ih0, ih1⟩ := quote_Text.mono_l k
 unfold quote_Text.f
 repeat' first
  | (with_reducible exact ih0 _ _ _ _ _ _ _ _ _ _ _)
  | (with_reducible exact ih1 _ _ _ _ _ _ _ _ _ _)
  | (with_reducible exact quote_Hex.mono _ _ _ _ _ _ _ _ _ _)
  | (with_reducible exact LeO.refl _)
  | (with_reducible exact LeO.none _)
  | (with_reducible refine LeO.ite ?_ ?_)
  | (with_reducible refine LeO.bind ?_ (fun _ => ?_))
  | exact ih0 _ _ _ _ _ _ _ _ _ _ _
  | exact ih1 _ _ _ _ _ _ _ _ _ _
  | exact quote_Hex.mono _ _ _ _ _ _ _ _ _ _
  | exact LeO.none _
  | refine LeO.ite ?_ ?_
  | refine LeO.bind ?_ (fun _ => ?_)
def quote_Text.T6 : Bool × List (List Nat × List Nat) := (true, [([], []), ([], []), ([1], [1]), ([0, 2], [0, 2]), ([], []), ([3, 4, 3], [3, 4]), ([5, 5, 0, 1, 2, 3, 4, 5], [5]), ([6, 0, 1, 2, 3, 4, 5, 6], [])])
def quote_Text.B6 : List Nat := [0, 0, 2, 7, 0, 31, 63, 127]
theorem quote_Text.tab6 : rtab .any (opsOf Tryd.f17 6) = quote_Text.T6 := by kernel_rfl
theorem quote_Text.bits6 : waitsOk quote_Text.T6.2 quote_Text.B6 = true := by kernel_rfl
def quote_Text.T13 : Bool × List (List Nat × List Nat) := (true, [([], []), ([], []), ([1], [1]), ([0, 2], [0, 2]), ([], []), ([3, 4, 3], [3, 4]), ([5, 5, 0, 1, 2, 3, 4, 5], [5]), ([6, 0, 1, 2, 3, 4, 5, 6], [])])
def quote_Text.B13 : List Nat := [0, 0, 2, 7, 0, 31, 63, 127]
theorem quote_Text.tab13 : rtab .any (opsOf Tryd.f17 13) = quote_Text.T13 := by kernel_rfl
theorem quote_Text.bits13 : waitsOk quote_Text.T13.2 quote_Text.B13 = true := by kernel_rfl
set_option maxHeartbeats 8000000 in
set_option maxRecDepth 100000 in
theorem quote_Text.calls (k : Nat) (a0 : ByteArray) (a1_0 : Bool) (a1_1 : Bool) (a1_2 : Bool) (a1_3 : Bool) (a1_4 : Bool) (a1_5 : Int) (a1_6 : Int) (a1_7 : Int) (r1 : ByteArray) (r2 : Bool) (w : World) (hOK : Aside0 (Ok w)) (h : quote_Text.f k a0 a1_0 a1_1 a1_2 a1_3 a1_4 a1_5 a1_6 a1_7 = some (r1, r2)) :
 Calls Tryd.prog 17 #[.string a0, .agg #[.bool a1_0, .bool a1_1, .bool a1_2, .bool a1_3, .bool a1_4, .int .i64 a1_5, .int .i64 a1_6, .int .i32 a1_7]] w fun e w' => e = .returned (.tuple #[.string r1, .bool r2]) ∧ Below w.heap.size w w' := by
 have hu28 := Tryd.underlying28
 have HB := Aside0.mk (Below.refl w.heap.size w)
 have H : (if a1_7 = 118 then (quote_Text.j0 k a0 a1_7 (a1_7 == 118) a1_0 a1_1 a1_2 a1_3 a1_4 a1_5 a1_6 a1_7) else (quote_Text.j0 k a0 a1_7 (a1_7 == 115) a1_0 a1_1 a1_2 a1_3 a1_4 a1_5 a1_6 a1_7)) = some (r1, r2) := h
 clear h
 have HC3 := Aside0.mk H
 clear H
 go_enter Tryd.func17, Tryd.ntmps17
 go_upto_if 10 with (first | ((with_reducible refine gate_dst (N := 3) rfl ?_); refine box_event ?hg (N := 3) ?hd (cs := #[.bool a1_0, .bool a1_1, .bool a1_2, .bool a1_3, .bool a1_4, .int .i64 a1_5, .int .i64 a1_6, .int .i32 a1_7]) (t := 28) ?hr ?_; (case hd => rfl); (case hg => rfl); (case hr => first | (go_simp; done) | (go_simp; rfl)); intro gb163 hg w4 hbox hb; have n0_ := Aside0.mk (below_step (by repeat (first | (with_reducible first | exact HB.out | apply below_alloc | apply pw_below_drewN | apply below_drew1) | exact HB.out)) hb); have n1_ := Aside0.mk (hbox); have n2_ := Aside0.mk ((by rw [hg]; exact (below_size (by repeat (first | (with_reducible first | exact HB.out | apply below_alloc | apply pw_below_drewN | apply below_drew1) | exact HB.out))) : w.heap.size ≤ gb163)); have n3_ := Aside0.mk ((by rw [hg]; exact (below_size (by repeat (first | (with_reducible first | exact HB.out | apply below_alloc | apply pw_below_drewN | apply below_drew1) | exact HB.out))) : w.heap.size ≤ gb163)); clear HB; have HB := n0_; have BK163 := n1_; have GW163 := n2_; have GE163 := n3_; clear n0_ n1_ n2_ n3_; clear hb hbox hg; have hcz5_0 : w4.cell? ⟨gb163, 0, none⟩ = some (.bool a1_0) := (blk_cell BK163.out 0).trans rfl; have hcz5_1 : w4.cell? ⟨gb163, 1, none⟩ = some (.bool a1_1) := (blk_cell BK163.out 1).trans rfl; have hcz5_2 : w4.cell? ⟨gb163, 2, none⟩ = some (.bool a1_2) := (blk_cell BK163.out 2).trans rfl; have hcz5_3 : w4.cell? ⟨gb163, 3, none⟩ = some (.bool a1_3) := (blk_cell BK163.out 3).trans rfl; have hcz5_4 : w4.cell? ⟨gb163, 4, none⟩ = some (.bool a1_4) := (blk_cell BK163.out 4).trans rfl; have hcz5_5 : w4.cell? ⟨gb163, 5, none⟩ = some (.int .i64 a1_5) := (blk_cell BK163.out 5).trans rfl; have hcz5_6 : w4.cell? ⟨gb163, 6, none⟩ = some (.int .i64 a1_6) := (blk_cell BK163.out 6).trans rfl; have hcz5_7 : w4.cell? ⟨gb163, 7, none⟩ = some (.int .i32 a1_7) := (blk_cell BK163.out 7).trans rfl; have hfz5_0 := blk_frozen BK163.out 0; have hfz5_1 := blk_frozen BK163.out 1; have hfz5_2 := blk_frozen BK163.out 2; have hfz5_3 := blk_frozen BK163.out 3; have hfz5_4 := blk_frozen BK163.out 4; have hfz5_5 := blk_frozen BK163.out 5; have hfz5_6 := blk_frozen BK163.out 6; have hfz5_7 := blk_frozen BK163.out 7))
 (try simp only [Act.put, List.setIfInBounds_toArray, List.set_cons_zero, List.set_cons_succ])
 go_cut [10] (fun v10 wc => ∃ (kq : Nat) (x10_2 : Bool), v10 = .bool x10_2 ∧ Aside0 (quote_Text.j0 kq a0 a1_7 x10_2 a1_0 a1_1 a1_2 a1_3 a1_4 a1_5 a1_6 a1_7 = some (r1, r2)) ∧ Aside0 (kq ≤ k) ∧ Aside0 (wc.heap[gb163]? = some (.cells #[.bool a1_0, .bool a1_1, .bool a1_2, .bool a1_3, .bool a1_4, .int .i64 a1_5, .int .i64 a1_6, .int .i32 a1_7] 28 (0, 0))) ∧ Aside0 (Below w.heap.size w wc))
 case first =>
  have H := HC3.out
  clear HC3
  by_cases c6 : a1_7 = 118
  ·
   rw [if_pos c6] at H
   have c6b0 : (a1_7 == 118) = true := beq_iff_eq.mpr c6
   have c6b1 : (a1_7 != 118) = false := bne_eq_false_iff_eq.mpr c6
   clear c6
   (first | rw [c6b0] | (simp only [i64_w, i32_w]; rw [c6b0]) | skip)
   have H' := Aside0.mk H
   clear H
   go_wp2
   (first | go_meet | (refine Met.intro ?_; go_step; (repeat apply Exists.intro); refine ⟨?rel, (by first | rfl | (simp only [c6b0]; rfl))⟩))
   case rel => exact ⟨_, ((a1_7 == 118)), (by first | rfl | (simp; done) | (simp [*]; done)), H', ⟨by first | omega | exact Nat.le_refl _⟩, ⟨by (with_reducible repeat (first | refine blk_drewN ?_ _ | refine blk_drew ?_ | refine blk_alloc ?_ _)); exact BK163.out⟩, ⟨by repeat (first | (with_reducible first | exact HB.out | apply below_alloc | apply pw_below_drewN | apply below_drew1 | refine below_set ?_ GE163.out) | exact HB.out)⟩⟩
  ·
   rw [if_neg c6] at H
   have c6b0 : (a1_7 == 118) = false := beq_eq_false_iff_ne.mpr c6
   have c6b1 : (a1_7 != 118) = true := bne_iff_ne.mpr c6
   (first | rw [c6b0] | (simp only [i64_w, i32_w]; rw [c6b0]) | skip)
   have H' := Aside0.mk H
   clear H
   go_wp2
   (first | go_meet | (refine Met.intro ?_; go_step; (repeat apply Exists.intro); refine ⟨?rel, (by first | rfl | (simp only [c6b0]; rfl))⟩))
   case rel => exact ⟨_, ((a1_7 == 115)), (by first | rfl | (simp; done) | (simp [*]; done)), H', ⟨by first | omega | exact Nat.le_refl _⟩, ⟨by (with_reducible repeat (first | refine blk_drewN ?_ _ | refine blk_drew ?_ | refine blk_alloc ?_ _)); exact BK163.out⟩, ⟨by repeat (first | (with_reducible first | exact HB.out | apply below_alloc | apply pw_below_drewN | apply below_drew1 | refine below_set ?_ GE163.out) | exact HB.out)⟩⟩
 case rest =>
  clear HC3
  try clear c1
  try clear p2
  try clear c6
  try clear c6b0
  try clear c6b1
  try clear hcz5_0
  try clear hcz5_1
  try clear hcz5_2
  try clear hcz5_3
  try clear hcz5_4
  try clear hcz5_5
  try clear hcz5_6
  try clear hcz5_7
  try clear hfz5_0
  try clear hfz5_1
  try clear hfz5_2
  try clear hfz5_3
  try clear hfz5_4
  try clear hfz5_5
  try clear hfz5_6
  try clear hfz5_7
  obtain ⟨kq, x10_2, rfl, HA, HJ2, BK163, HB⟩ := hcut
  cases kq with
  | zero => exact absurd HA.out (by simp [quote_Text.j0])
  | succ kj2 =>
   have H := HA.out
   clear HA
   simp only [quote_Text.j0] at H
   by_cases c7 : x10_2 = true
   ·
    subst c7
    have H1 : (if a1_7 = 118 then (quote_Text.j1 kj2 a0 a1_2 a1_0 a1_1 a1_2 a1_3 a1_4 a1_5 a1_6 a1_7) else (quote_Text.j1 kj2 a0 false a1_0 a1_1 a1_2 a1_3 a1_4 a1_5 a1_6 a1_7)) = some (r1, r2) := by rw [if_pos rfl] at H; exact H
    clear H
    have H := H1
    clear H1
    have HC8 := Aside0.mk H
    clear H
    go_upto_region 4 with (fail)
    go_cut [19] (fun v19 wc => ∃ (kq : Nat) (x19_7 : Bool), v19 = .bool x19_7 ∧ Aside0 (quote_Text.j1 kq a0 x19_7 a1_0 a1_1 a1_2 a1_3 a1_4 a1_5 a1_6 a1_7 = some (r1, r2)) ∧ Aside0 (kq ≤ kj2) ∧ Aside0 (wc.heap[gb163]? = some (.cells #[.bool a1_0, .bool a1_1, .bool a1_2, .bool a1_3, .bool a1_4, .int .i64 a1_5, .int .i64 a1_6, .int .i32 a1_7] 28 (0, 0))) ∧ Aside0 (Below w.heap.size w wc))
    case first =>
     have H := HC8.out
     clear HC8
     by_cases c9 : a1_7 = 118
     ·
      rw [if_pos c9] at H
      have c9b0 : (a1_7 == 118) = true := beq_iff_eq.mpr c9
      have c9b1 : (a1_7 != 118) = false := bne_eq_false_iff_eq.mpr c9
      clear c9
      (first | rw [c9b0] | (simp only [i64_w, i32_w]; rw [c9b0]) | skip)
      have H' := Aside0.mk H
      clear H
      have hcz10_0 : wc.cell? ⟨gb163, 0, none⟩ = some (.bool a1_0) := (blk_cell BK163.out 0).trans rfl
      have hcz10_1 : wc.cell? ⟨gb163, 1, none⟩ = some (.bool a1_1) := (blk_cell BK163.out 1).trans rfl
      have hcz10_2 : wc.cell? ⟨gb163, 2, none⟩ = some (.bool a1_2) := (blk_cell BK163.out 2).trans rfl
      have hcz10_3 : wc.cell? ⟨gb163, 3, none⟩ = some (.bool a1_3) := (blk_cell BK163.out 3).trans rfl
      have hcz10_4 : wc.cell? ⟨gb163, 4, none⟩ = some (.bool a1_4) := (blk_cell BK163.out 4).trans rfl
      have hcz10_5 : wc.cell? ⟨gb163, 5, none⟩ = some (.int .i64 a1_5) := (blk_cell BK163.out 5).trans rfl
      have hcz10_6 : wc.cell? ⟨gb163, 6, none⟩ = some (.int .i64 a1_6) := (blk_cell BK163.out 6).trans rfl
      have hcz10_7 : wc.cell? ⟨gb163, 7, none⟩ = some (.int .i32 a1_7) := (blk_cell BK163.out 7).trans rfl
      have hfz10_0 := blk_frozen BK163.out 0
      have hfz10_1 := blk_frozen BK163.out 1
      have hfz10_2 := blk_frozen BK163.out 2
      have hfz10_3 := blk_frozen BK163.out 3
      have hfz10_4 := blk_frozen BK163.out 4
      have hfz10_5 := blk_frozen BK163.out 5
      have hfz10_6 := blk_frozen BK163.out 6
      have hfz10_7 := blk_frozen BK163.out 7
      go_wp2
      (first | go_meet | (refine Met.intro ?_; go_step; (repeat apply Exists.intro); refine ⟨?rel, (by first | rfl | (simp only [c9b0]; rfl))⟩))
      case rel => exact ⟨_, (a1_2), (by first | rfl | (simp; done) | (simp [*]; done)), H', ⟨by have := HJ2.out; first | omega | exact Nat.le_refl _⟩, ⟨by (with_reducible repeat (first | refine blk_drewN ?_ _ | refine blk_drew ?_ | refine blk_alloc ?_ _)); exact BK163.out⟩, ⟨by repeat (first | (with_reducible first | exact HB.out | apply below_alloc | apply pw_below_drewN | apply below_drew1 | refine below_set ?_ GE163.out) | exact HB.out)⟩⟩
     ·
      rw [if_neg c9] at H
      have c9b0 : (a1_7 == 118) = false := beq_eq_false_iff_ne.mpr c9
      have c9b1 : (a1_7 != 118) = true := bne_iff_ne.mpr c9
      (first | rw [c9b0] | (simp only [i64_w, i32_w]; rw [c9b0]) | skip)
      have H' := Aside0.mk H
      clear H
      have hcz11_0 : wc.cell? ⟨gb163, 0, none⟩ = some (.bool a1_0) := (blk_cell BK163.out 0).trans rfl
      have hcz11_1 : wc.cell? ⟨gb163, 1, none⟩ = some (.bool a1_1) := (blk_cell BK163.out 1).trans rfl
      have hcz11_2 : wc.cell? ⟨gb163, 2, none⟩ = some (.bool a1_2) := (blk_cell BK163.out 2).trans rfl
      have hcz11_3 : wc.cell? ⟨gb163, 3, none⟩ = some (.bool a1_3) := (blk_cell BK163.out 3).trans rfl
      have hcz11_4 : wc.cell? ⟨gb163, 4, none⟩ = some (.bool a1_4) := (blk_cell BK163.out 4).trans rfl
      have hcz11_5 : wc.cell? ⟨gb163, 5, none⟩ = some (.int .i64 a1_5) := (blk_cell BK163.out 5).trans rfl
      have hcz11_6 : wc.cell? ⟨gb163, 6, none⟩ = some (.int .i64 a1_6) := (blk_cell BK163.out 6).trans rfl
      have hcz11_7 : wc.cell? ⟨gb163, 7, none⟩ = some (.int .i32 a1_7) := (blk_cell BK163.out 7).trans rfl
      have hfz11_0 := blk_frozen BK163.out 0
      have hfz11_1 := blk_frozen BK163.out 1
      have hfz11_2 := blk_frozen BK163.out 2
      have hfz11_3 := blk_frozen BK163.out 3
      have hfz11_4 := blk_frozen BK163.out 4
      have hfz11_5 := blk_frozen BK163.out 5
      have hfz11_6 := blk_frozen BK163.out 6
      have hfz11_7 := blk_frozen BK163.out 7
      go_wp2
      (first | go_meet | (refine Met.intro ?_; go_step; (repeat apply Exists.intro); refine ⟨?rel, (by first | rfl | (simp only [c9b0]; rfl))⟩))
      case rel => exact ⟨_, (false), (by first | rfl | (simp; done) | (simp [*]; done)), H', ⟨by have := HJ2.out; first | omega | exact Nat.le_refl _⟩, ⟨by (with_reducible repeat (first | refine blk_drewN ?_ _ | refine blk_drew ?_ | refine blk_alloc ?_ _)); exact BK163.out⟩, ⟨by repeat (first | (with_reducible first | exact HB.out | apply below_alloc | apply pw_below_drewN | apply below_drew1 | refine below_set ?_ GE163.out) | exact HB.out)⟩⟩
    case rest =>
     clear HC8
     try clear c1
     try clear p2
     try clear c6
     try clear c6b0
     try clear c6b1
     try clear c7
     try clear c9
     try clear c9b0
     try clear c9b1
     try clear hcz10_0
     try clear hcz10_1
     try clear hcz10_2
     try clear hcz10_3
     try clear hcz10_4
     try clear hcz10_5
     try clear hcz10_6
     try clear hcz10_7
     try clear hcz11_0
     try clear hcz11_1
     try clear hcz11_2
     try clear hcz11_3
     try clear hcz11_4
     try clear hcz11_5
     try clear hcz11_6
     try clear hcz11_7
     try clear hcz5_0
     try clear hcz5_1
     try clear hcz5_2
     try clear hcz5_3
     try clear hcz5_4
     try clear hcz5_5
     try clear hcz5_6
     try clear hcz5_7
     try clear hfz10_0
     try clear hfz10_1
     try clear hfz10_2
     try clear hfz10_3
     try clear hfz10_4
     try clear hfz10_5
     try clear hfz10_6
     try clear hfz10_7
     try clear hfz11_0
     try clear hfz11_1
     try clear hfz11_2
     try clear hfz11_3
     try clear hfz11_4
     try clear hfz11_5
     try clear hfz11_6
     try clear hfz11_7
     try clear hfz5_0
     try clear hfz5_1
     try clear hfz5_2
     try clear hfz5_3
     try clear hfz5_4
     try clear hfz5_5
     try clear hfz5_6
     try clear hfz5_7
     try clear p2
     obtain ⟨kq, x19_7, rfl, HA, HJ7, BK163, HB⟩ := hcut
     cases kq with
     | zero => exact absurd HA.out (by simp [quote_Text.j1])
     | succ kj7 =>
      have H := HA.out
      clear HA
      simp only [quote_Text.j1] at H
      by_cases c12 : x19_7 = true
      ·
       subst c12
       have H1 : ((quote_Quote.f a0 false).bind fun t164 => ((buf_Pad.f t164 a1_0 a1_1 a1_2 a1_3 a1_4 a1_5 a1_6 a1_7).bind fun t165 => (some (t165, true)))) = some (r1, r2) := by rw [if_pos rfl] at H; exact H
       clear H
       have H := H1
       clear H1
       replace H := Option.bind_eq_some_iff.mp H
       obtain ⟨t164, A130, H⟩ := H
       replace H : ((buf_Pad.f t164 a1_0 a1_1 a1_2 a1_3 a1_4 a1_5 a1_6 a1_7).bind fun t165 => (some (t165, true))) = some (r1, r2) := H
       have A13 := Aside0.mk A130
       clear A130
       replace H := Option.bind_eq_some_iff.mp H
       obtain ⟨t165, A140, H⟩ := H
       replace H : (some (t165, true)) = some (r1, r2) := H
       have A14 := Aside0.mk A140
       clear A140
       simp only [Option.some.injEq, Prod.mk.injEq] at H
       obtain ⟨rfl, rfl⟩ := H
       try go_wp2
       have n0_ := Aside0.mk (blk_drew BK163.out)
       have n1_ := Aside0.mk (below_drew1 HB.out)
       clear BK163
       clear HB
       have BK163 := n0_
       have HB := n1_
       clear n0_ n1_
       refine start_ (n := 6) (S := fun w' => w'.cell? ⟨gb163, 0, none⟩ = some (.bool a1_0) ∧ w'.cell? ⟨gb163, 1, none⟩ = some (.bool a1_1) ∧ w'.cell? ⟨gb163, 2, none⟩ = some (.bool a1_2) ∧ w'.cell? ⟨gb163, 3, none⟩ = some (.bool a1_3) ∧ w'.cell? ⟨gb163, 4, none⟩ = some (.bool a1_4) ∧ w'.cell? ⟨gb163, 5, none⟩ = some (.int .i64 a1_5) ∧ w'.cell? ⟨gb163, 6, none⟩ = some (.int .i64 a1_6) ∧ w'.cell? ⟨gb163, 7, none⟩ = some (.int .i32 a1_7)) (ds := []) #[false, false, false, false, false, false] (by kernel_rfl) rfl rfl ⟨(blk_cell BK163.out 0).trans rfl, (blk_cell BK163.out 1).trans rfl, (blk_cell BK163.out 2).trans rfl, (blk_cell BK163.out 3).trans rfl, (blk_cell BK163.out 4).trans rfl, (blk_cell BK163.out 5).trans rfl, (blk_cell BK163.out 6).trans rfl, (blk_cell BK163.out 7).trans rfl⟩ (fun hHeld => ?_)
       generalize wc.drew = w15 at BK163 HB hHeld ⊢
       refine pure_ (i := 0) (N := some 20) (v := ?_) (a' := ?_) #[true, false, false, false, false, false] rfl rfl (by kernel_rfl) (fun _ _ _ h => h) (Or.inl ⟨by rfl, ?_⟩) ?_ ?_
       rotate_left
       ·
        intro w'
        go_simp
        with_reducible rfl
       rotate_left
       ·
        simp only [Act.put, List.setIfInBounds_toArray, List.set_cons_zero, List.set_cons_succ, i64_w, i32_w]
        rfl
       refine take_ (i := 2) (N := some 22) (v := ?_) (a' := ?_) #[true, false, true, false, false, false] rfl rfl (by kernel_rfl) (fun _ _ _ h => h) (Or.inl ⟨by rfl, ?_⟩) hHeld ?_ ?_
       rotate_left
       ·
        rintro w' ⟨s0, s1, s2, s3, s4, s5, s6, s7⟩
        go_simp
        with_reducible rfl
       rotate_left
       ·
        simp only [Act.put, List.setIfInBounds_toArray, List.set_cons_zero, List.set_cons_succ, i64_w, i32_w]
        rfl
       refine one_ (i := 1) (N := some 21) #[true, true, true, false, false, false] rfl rfl (by kernel_rfl) (by decide) (fun K hK => ?_)
       refine goes_ Tryd.func19 (by kernel_rfl) rfl #[.string a0, .bool false] (by rfl) rfl rfl (by (try simp only [List.map_toArray, List.map_cons, List.map_nil]); first | done | rfl | (simp only [List.length_drop, List.length_take]; rfl)) ?_
       with_reducible refine (quote_Quote.calls a0 false t164 _ (by (try refine Aside0.mk ?_); first | exact hOK.out | exact (hOK.out).drewN _ | (refine (hOK.out).later ?_; (repeat (first | (with_reducible first | exact HB.out | apply below_alloc | apply pw_below_drewN | apply below_drew1) | exact HB.out))) | (refine Ok.drewN ?_ _; exact hOK.out)) A13.out).mono ?_
       rintro e w16 ⟨rfl, hb⟩
       refine ⟨_, rfl, ?_⟩
       have n0_ := Aside0.mk (blk_below (g := gb163) (o := .cells #[.bool a1_0, .bool a1_1, .bool a1_2, .bool a1_3, .bool a1_4, .int .i64 a1_5, .int .i64 a1_6, .int .i32 a1_7] 28 (0, 0)) (by (with_reducible repeat (first | refine blk_drewN ?_ _ | refine blk_drew ?_ | refine blk_alloc ?_ _)); exact BK163.out) hb)
       have n1_ := Aside0.mk (below_step (by repeat (first | (with_reducible first | exact HB.out | apply below_alloc | apply pw_below_drewN | apply below_drew1 | refine below_set ?_ GE163.out) | exact HB.out)) hb)
       clear BK163
       clear HB
       have BK163 := n0_
       have HB := n1_
       clear n0_ n1_
       (try clear hb)
       (try clear hb2)
       (try clear hk)
       (try clear hi)
       refine hK.out _ _ ⟨(blk_cell BK163.out 0).trans rfl, (blk_cell BK163.out 1).trans rfl, (blk_cell BK163.out 2).trans rfl, (blk_cell BK163.out 3).trans rfl, (blk_cell BK163.out 4).trans rfl, (blk_cell BK163.out 5).trans rfl, (blk_cell BK163.out 6).trans rfl, (blk_cell BK163.out 7).trans rfl⟩ (fun hHeld => ?_)
       clear hK K
       refine norm_ (a' := ?_) ?_ ?_
       rotate_left
       ·
        show Act.put _ (some 21) _ = _
        simp only [Act.put, List.setIfInBounds_toArray, List.set_cons_zero, List.set_cons_succ, i64_w, i32_w]
        rfl
       refine one_ (i := 3) (N := some 23) #[true, true, true, true, false, false] rfl rfl (by kernel_rfl) (by decide) (fun K hK => ?_)
       refine goes_ Tryd.func32 (by kernel_rfl) rfl #[.string t164, .agg #[.bool a1_0, .bool a1_1, .bool a1_2, .bool a1_3, .bool a1_4, .int .i64 a1_5, .int .i64 a1_6, .int .i32 a1_7]] (by rfl) rfl rfl (by (try simp only [List.map_toArray, List.map_cons, List.map_nil]); first | done | rfl | (simp only [List.length_drop, List.length_take]; rfl)) ?_
       with_reducible refine (buf_Pad.calls t164 a1_0 a1_1 a1_2 a1_3 a1_4 a1_5 a1_6 a1_7 t165 _ A14.out).mono ?_
       rintro e w17 ⟨rfl, hb⟩
       refine ⟨_, rfl, ?_⟩
       have n0_ := Aside0.mk (blk_below (g := gb163) (o := .cells #[.bool a1_0, .bool a1_1, .bool a1_2, .bool a1_3, .bool a1_4, .int .i64 a1_5, .int .i64 a1_6, .int .i32 a1_7] 28 (0, 0)) (by (with_reducible repeat (first | refine blk_drewN ?_ _ | refine blk_drew ?_ | refine blk_alloc ?_ _)); exact BK163.out) hb)
       have n1_ := Aside0.mk (below_step (by repeat (first | (with_reducible first | exact HB.out | apply below_alloc | apply pw_below_drewN | apply below_drew1 | refine below_set ?_ GE163.out) | exact HB.out)) hb)
       clear BK163
       clear HB
       have BK163 := n0_
       have HB := n1_
       clear n0_ n1_
       (try clear hb)
       (try clear hb2)
       (try clear hk)
       (try clear hi)
       refine hK.out _ _ ⟨(blk_cell BK163.out 0).trans rfl, (blk_cell BK163.out 1).trans rfl, (blk_cell BK163.out 2).trans rfl, (blk_cell BK163.out 3).trans rfl, (blk_cell BK163.out 4).trans rfl, (blk_cell BK163.out 5).trans rfl, (blk_cell BK163.out 6).trans rfl, (blk_cell BK163.out 7).trans rfl⟩ (fun hHeld => ?_)
       clear hK K
       refine norm_ (a' := ?_) ?_ ?_
       rotate_left
       ·
        show Act.put _ (some 23) _ = _
        simp only [Act.put, List.setIfInBounds_toArray, List.set_cons_zero, List.set_cons_succ, i64_w, i32_w]
        rfl
       refine pure_ (i := 4) (N := some 4) (v := ?_) (a' := ?_) #[true, true, true, true, true, false] rfl rfl (by kernel_rfl) (fun _ _ _ h => h) (Or.inl ⟨by rfl, ?_⟩) ?_ ?_
       rotate_left
       ·
        intro w'
        go_simp
        with_reducible rfl
       rotate_left
       ·
        simp only [Act.put, List.setIfInBounds_toArray, List.set_cons_zero, List.set_cons_succ, i64_w, i32_w]
        rfl
       refine pure_ (i := 5) (N := some 5) (v := ?_) (a' := ?_) #[true, true, true, true, true, true] rfl rfl (by kernel_rfl) (fun _ _ _ h => h) (Or.inl ⟨by rfl, ?_⟩) ?_ ?_
       rotate_left
       ·
        intro w'
        go_simp
        with_reducible rfl
       rotate_left
       ·
        simp only [Act.put, List.setIfInBounds_toArray, List.set_cons_zero, List.set_cons_succ, i64_w, i32_w]
        rfl
       refine done_ (by kernel_rfl) ?_
       try go_wp2
       go_ret2
       exact ⟨by first | rfl | (simp [errW_none, errW_some] <;> rfl) | (simp [*, errW_none, errW_some] <;> rfl), by repeat (first | (with_reducible first | exact HB.out | apply below_alloc | apply pw_below_drewN | apply below_drew1 | refine below_set ?_ GE163.out) | exact HB.out)⟩
      ·
       replace c12 := Bool.eq_false_iff.mpr c12
       subst c12
       have H1 : ((buf_Cut.f a0 a1_6).bind fun t166 => ((buf_Pad.f t166 a1_0 a1_1 a1_2 a1_3 a1_4 a1_5 a1_6 a1_7).bind fun t167 => (some (t167, true)))) = some (r1, r2) := by rw [if_neg (show ¬ (false = true) by decide)] at H; exact H
       clear H
       have H := H1
       clear H1
       replace H := Option.bind_eq_some_iff.mp H
       obtain ⟨t166, A180, H⟩ := H
       replace H : ((buf_Pad.f t166 a1_0 a1_1 a1_2 a1_3 a1_4 a1_5 a1_6 a1_7).bind fun t167 => (some (t167, true))) = some (r1, r2) := H
       have A18 := Aside0.mk A180
       clear A180
       replace H := Option.bind_eq_some_iff.mp H
       obtain ⟨t167, A190, H⟩ := H
       replace H : (some (t167, true)) = some (r1, r2) := H
       have A19 := Aside0.mk A190
       clear A190
       simp only [Option.some.injEq, Prod.mk.injEq] at H
       obtain ⟨rfl, rfl⟩ := H
       try go_wp2
       have n0_ := Aside0.mk (blk_drew BK163.out)
       have n1_ := Aside0.mk (below_drew1 HB.out)
       clear BK163
       clear HB
       have BK163 := n0_
       have HB := n1_
       clear n0_ n1_
       refine start_ (n := 8) (S := fun w' => w'.cell? ⟨gb163, 0, none⟩ = some (.bool a1_0) ∧ w'.cell? ⟨gb163, 1, none⟩ = some (.bool a1_1) ∧ w'.cell? ⟨gb163, 2, none⟩ = some (.bool a1_2) ∧ w'.cell? ⟨gb163, 3, none⟩ = some (.bool a1_3) ∧ w'.cell? ⟨gb163, 4, none⟩ = some (.bool a1_4) ∧ w'.cell? ⟨gb163, 5, none⟩ = some (.int .i64 a1_5) ∧ w'.cell? ⟨gb163, 6, none⟩ = some (.int .i64 a1_6) ∧ w'.cell? ⟨gb163, 7, none⟩ = some (.int .i32 a1_7)) (ds := []) #[false, false, false, false, false, false, false, false] (by kernel_rfl) rfl rfl ⟨(blk_cell BK163.out 0).trans rfl, (blk_cell BK163.out 1).trans rfl, (blk_cell BK163.out 2).trans rfl, (blk_cell BK163.out 3).trans rfl, (blk_cell BK163.out 4).trans rfl, (blk_cell BK163.out 5).trans rfl, (blk_cell BK163.out 6).trans rfl, (blk_cell BK163.out 7).trans rfl⟩ (fun hHeld => ?_); refine with_tabW quote_Text.tab6 quote_Text.bits6 (fun HT_ HW_ => ?_)
       generalize wc.drew = w20 at BK163 HB hHeld ⊢
       refine pure_ (i := 0) (N := some 24) (v := ?_) (a' := ?_) #[true, false, false, false, false, false, false, false] rfl rfl (any_of HT_.out (by kernel_rfl)) (fun _ _ _ h => h) (Or.inl ⟨by rfl, ?_⟩) ?_ ?_
       rotate_left
       ·
        intro w'
        go_simp
        with_reducible rfl
       rotate_left
       ·
        simp only [Act.put, List.setIfInBounds_toArray, List.set_cons_zero, List.set_cons_succ, i64_w, i32_w]
        rfl
       refine pure_ (i := 1) (N := some 25) (v := ?_) (a' := ?_) #[true, true, false, false, false, false, false, false] rfl rfl (any_of HT_.out (by kernel_rfl)) (fun _ _ _ h => h) (Or.inl ⟨by rfl, ?_⟩) ?_ ?_
       rotate_left
       ·
        intro w'
        go_simp
        with_reducible rfl
       rotate_left
       ·
        simp only [Act.put, List.setIfInBounds_toArray, List.set_cons_zero, List.set_cons_succ, i64_w, i32_w]
        rfl
       refine take_ (i := 2) (N := some 26) (v := ?_) (a' := ?_) #[true, true, true, false, false, false, false, false] rfl rfl (take_ofW HT_.out HW_.out (by kernel_rfl)) (fun _ _ _ h => h) (Or.inl ⟨by rfl, ?_⟩) hHeld ?_ ?_
       rotate_left
       ·
        rintro w' ⟨s0, s1, s2, s3, s4, s5, s6, s7⟩
        go_simp
        with_reducible rfl
       rotate_left
       ·
        simp only [Act.put, List.setIfInBounds_toArray, List.set_cons_zero, List.set_cons_succ, i64_w, i32_w]
        rfl
       refine take_ (i := 4) (N := some 28) (v := ?_) (a' := ?_) #[true, true, true, false, true, false, false, false] rfl rfl (take_ofW HT_.out HW_.out (by kernel_rfl)) (fun _ _ _ h => h) (Or.inl ⟨by rfl, ?_⟩) hHeld ?_ ?_
       rotate_left
       ·
        rintro w' ⟨s0, s1, s2, s3, s4, s5, s6, s7⟩
        go_simp
        with_reducible rfl
       rotate_left
       ·
        simp only [Act.put, List.setIfInBounds_toArray, List.set_cons_zero, List.set_cons_succ, i64_w, i32_w]
        rfl
       refine one_ (i := 3) (N := some 27) #[true, true, true, true, true, false, false, false] rfl rfl (one_of HT_.out (by kernel_rfl)) (by decide) (fun K hK => ?_)
       refine goes_ Tryd.func35 (by kernel_rfl) rfl #[.string a0, .int .i64 a1_6] (by rfl) rfl rfl (by (try simp only [List.map_toArray, List.map_cons, List.map_nil]); first | done | rfl | (simp only [List.length_drop, List.length_take]; rfl)) ?_
       with_reducible refine (buf_Cut.calls a0 a1_6 t166 _ A18.out).mono ?_
       rintro e w21 ⟨rfl, hb⟩
       refine ⟨_, rfl, ?_⟩
       have n0_ := Aside0.mk (blk_below (g := gb163) (o := .cells #[.bool a1_0, .bool a1_1, .bool a1_2, .bool a1_3, .bool a1_4, .int .i64 a1_5, .int .i64 a1_6, .int .i32 a1_7] 28 (0, 0)) (by (with_reducible repeat (first | refine blk_drewN ?_ _ | refine blk_drew ?_ | refine blk_alloc ?_ _)); exact BK163.out) hb)
       have n1_ := Aside0.mk (below_step (by repeat (first | (with_reducible first | exact HB.out | apply below_alloc | apply pw_below_drewN | apply below_drew1 | refine below_set ?_ GE163.out) | exact HB.out)) hb)
       clear BK163
       clear HB
       have BK163 := n0_
       have HB := n1_
       clear n0_ n1_
       (try clear hb)
       (try clear hb2)
       (try clear hk)
       (try clear hi)
       refine hK.out _ _ ⟨(blk_cell BK163.out 0).trans rfl, (blk_cell BK163.out 1).trans rfl, (blk_cell BK163.out 2).trans rfl, (blk_cell BK163.out 3).trans rfl, (blk_cell BK163.out 4).trans rfl, (blk_cell BK163.out 5).trans rfl, (blk_cell BK163.out 6).trans rfl, (blk_cell BK163.out 7).trans rfl⟩ (fun hHeld => ?_)
       clear hK K
       refine norm_ (a' := ?_) ?_ ?_
       rotate_left
       ·
        show Act.put _ (some 27) _ = _
        simp only [Act.put, List.setIfInBounds_toArray, List.set_cons_zero, List.set_cons_succ, i64_w, i32_w]
        rfl
       refine one_ (i := 5) (N := some 29) #[true, true, true, true, true, true, false, false] rfl rfl (one_of HT_.out (by kernel_rfl)) (by decide) (fun K hK => ?_)
       refine goes_ Tryd.func32 (by kernel_rfl) rfl #[.string t166, .agg #[.bool a1_0, .bool a1_1, .bool a1_2, .bool a1_3, .bool a1_4, .int .i64 a1_5, .int .i64 a1_6, .int .i32 a1_7]] (by rfl) rfl rfl (by (try simp only [List.map_toArray, List.map_cons, List.map_nil]); first | done | rfl | (simp only [List.length_drop, List.length_take]; rfl)) ?_
       with_reducible refine (buf_Pad.calls t166 a1_0 a1_1 a1_2 a1_3 a1_4 a1_5 a1_6 a1_7 t167 _ A19.out).mono ?_
       rintro e w22 ⟨rfl, hb⟩
       refine ⟨_, rfl, ?_⟩
       have n0_ := Aside0.mk (blk_below (g := gb163) (o := .cells #[.bool a1_0, .bool a1_1, .bool a1_2, .bool a1_3, .bool a1_4, .int .i64 a1_5, .int .i64 a1_6, .int .i32 a1_7] 28 (0, 0)) (by (with_reducible repeat (first | refine blk_drewN ?_ _ | refine blk_drew ?_ | refine blk_alloc ?_ _)); exact BK163.out) hb)
       have n1_ := Aside0.mk (below_step (by repeat (first | (with_reducible first | exact HB.out | apply below_alloc | apply pw_below_drewN | apply below_drew1 | refine below_set ?_ GE163.out) | exact HB.out)) hb)
       clear BK163
       clear HB
       have BK163 := n0_
       have HB := n1_
       clear n0_ n1_
       (try clear hb)
       (try clear hb2)
       (try clear hk)
       (try clear hi)
       refine hK.out _ _ ⟨(blk_cell BK163.out 0).trans rfl, (blk_cell BK163.out 1).trans rfl, (blk_cell BK163.out 2).trans rfl, (blk_cell BK163.out 3).trans rfl, (blk_cell BK163.out 4).trans rfl, (blk_cell BK163.out 5).trans rfl, (blk_cell BK163.out 6).trans rfl, (blk_cell BK163.out 7).trans rfl⟩ (fun hHeld => ?_)
       clear hK K
       refine norm_ (a' := ?_) ?_ ?_
       rotate_left
       ·
        show Act.put _ (some 29) _ = _
        simp only [Act.put, List.setIfInBounds_toArray, List.set_cons_zero, List.set_cons_succ, i64_w, i32_w]
        rfl
       refine pure_ (i := 6) (N := some 4) (v := ?_) (a' := ?_) #[true, true, true, true, true, true, true, false] rfl rfl (any_of HT_.out (by kernel_rfl)) (fun _ _ _ h => h) (Or.inl ⟨by rfl, ?_⟩) ?_ ?_
       rotate_left
       ·
        intro w'
        go_simp
        with_reducible rfl
       rotate_left
       ·
        simp only [Act.put, List.setIfInBounds_toArray, List.set_cons_zero, List.set_cons_succ, i64_w, i32_w]
        rfl
       refine pure_ (i := 7) (N := some 5) (v := ?_) (a' := ?_) #[true, true, true, true, true, true, true, true] rfl rfl (any_of HT_.out (by kernel_rfl)) (fun _ _ _ h => h) (Or.inl ⟨by rfl, ?_⟩) ?_ ?_
       rotate_left
       ·
        intro w'
        go_simp
        with_reducible rfl
       rotate_left
       ·
        simp only [Act.put, List.setIfInBounds_toArray, List.set_cons_zero, List.set_cons_succ, i64_w, i32_w]
        rfl
       refine done_ (done_of HT_.out (by kernel_rfl)) ?_
       try go_wp2
       go_ret2
       exact ⟨by first | rfl | (simp [errW_none, errW_some] <;> rfl) | (simp [*, errW_none, errW_some] <;> rfl), by repeat (first | (with_reducible first | exact HB.out | apply below_alloc | apply pw_below_drewN | apply below_drew1 | refine below_set ?_ GE163.out) | exact HB.out)⟩
   ·
    replace c7 := Bool.eq_false_iff.mpr c7
    subst c7
    have H1 : (if a1_7 = 113 then ((buf_Cut.f a0 a1_6).bind fun t168 => (if a1_2 = true then ((quote_Raw.f t168).bind fun bt169 => (if bt169.2 = true then ((buf_Pad.f bt169.1 a1_0 a1_1 a1_2 a1_3 a1_4 a1_5 a1_6 a1_7).bind fun t171 => (some (t171, true))) else ((quote_Quote.f t168 a1_0).bind fun t172 => ((buf_Pad.f t172 a1_0 a1_1 a1_2 a1_3 a1_4 a1_5 a1_6 a1_7).bind fun t173 => (some (t173, true)))))) else ((quote_Quote.f t168 a1_0).bind fun t174 => ((buf_Pad.f t174 a1_0 a1_1 a1_2 a1_3 a1_4 a1_5 a1_6 a1_7).bind fun t175 => (some (t175, true)))))) else (if a1_7 = 120 then ((quote_Hex.f kj2 a0 a1_0 a1_1 a1_2 a1_3 a1_4 a1_5 a1_6 a1_7).bind fun t176 => (some (t176, true))) else (if a1_7 = 88 then ((quote_Hex.f kj2 a0 a1_0 a1_1 a1_2 a1_3 a1_4 a1_5 a1_6 a1_7).bind fun t177 => (some (t177, true))) else (some ((⟨#[]⟩ : ByteArray), false))))) = some (r1, r2) := by rw [if_neg (show ¬ (false = true) by decide)] at H; exact H
    clear H
    have H := H1
    clear H1
    by_cases c23 : a1_7 = 113
    ·
     rw [if_pos c23] at H
     have c23b0 : (a1_7 == 113) = true := beq_iff_eq.mpr c23
     have c23b1 : (a1_7 != 113) = false := bne_eq_false_iff_eq.mpr c23
     clear c23
     replace H := Option.bind_eq_some_iff.mp H
     obtain ⟨t168, A240, H⟩ := H
     replace H : (if a1_2 = true then ((quote_Raw.f t168).bind fun bt169 => (if bt169.2 = true then ((buf_Pad.f bt169.1 a1_0 a1_1 a1_2 a1_3 a1_4 a1_5 a1_6 a1_7).bind fun t171 => (some (t171, true))) else ((quote_Quote.f t168 a1_0).bind fun t172 => ((buf_Pad.f t172 a1_0 a1_1 a1_2 a1_3 a1_4 a1_5 a1_6 a1_7).bind fun t173 => (some (t173, true)))))) else ((quote_Quote.f t168 a1_0).bind fun t174 => ((buf_Pad.f t174 a1_0 a1_1 a1_2 a1_3 a1_4 a1_5 a1_6 a1_7).bind fun t175 => (some (t175, true))))) = some (r1, r2) := H
     have A24 := Aside0.mk A240
     clear A240
     by_cases c25 : a1_2 = true
     ·
      subst c25
      have H1 : ((quote_Raw.f t168).bind fun bt169 => (if bt169.2 = true then ((buf_Pad.f bt169.1 a1_0 a1_1 true a1_3 a1_4 a1_5 a1_6 a1_7).bind fun t171 => (some (t171, true))) else ((quote_Quote.f t168 a1_0).bind fun t172 => ((buf_Pad.f t172 a1_0 a1_1 true a1_3 a1_4 a1_5 a1_6 a1_7).bind fun t173 => (some (t173, true)))))) = some (r1, r2) := by rw [if_pos rfl] at H; exact H
      clear H
      have H := H1
      clear H1
      replace H := Option.bind_eq_some_iff.mp H
      obtain ⟨⟨t169, t170⟩, A260, H⟩ := H
      replace H : (if t170 = true then ((buf_Pad.f t169 a1_0 a1_1 true a1_3 a1_4 a1_5 a1_6 a1_7).bind fun t171 => (some (t171, true))) else ((quote_Quote.f t168 a1_0).bind fun t172 => ((buf_Pad.f t172 a1_0 a1_1 true a1_3 a1_4 a1_5 a1_6 a1_7).bind fun t173 => (some (t173, true))))) = some (r1, r2) := H
      have A26 := Aside0.mk A260
      clear A260
      by_cases c27 : t170 = true
      ·
       subst c27
       have H1 : ((buf_Pad.f t169 a1_0 a1_1 true a1_3 a1_4 a1_5 a1_6 a1_7).bind fun t171 => (some (t171, true))) = some (r1, r2) := by rw [if_pos rfl] at H; exact H
       clear H
       have H := H1
       clear H1
       replace H := Option.bind_eq_some_iff.mp H
       obtain ⟨t171, A280, H⟩ := H
       replace H : (some (t171, true)) = some (r1, r2) := H
       have A28 := Aside0.mk A280
       clear A280
       simp only [Option.some.injEq, Prod.mk.injEq] at H
       obtain ⟨rfl, rfl⟩ := H
       have hcz29_0 : wc.cell? ⟨gb163, 0, none⟩ = some (.bool a1_0) := (blk_cell BK163.out 0).trans rfl
       have hcz29_1 : wc.cell? ⟨gb163, 1, none⟩ = some (.bool a1_1) := (blk_cell BK163.out 1).trans rfl
       have hcz29_2 : wc.cell? ⟨gb163, 2, none⟩ = some (.bool true) := (blk_cell BK163.out 2).trans rfl
       have hcz29_3 : wc.cell? ⟨gb163, 3, none⟩ = some (.bool a1_3) := (blk_cell BK163.out 3).trans rfl
       have hcz29_4 : wc.cell? ⟨gb163, 4, none⟩ = some (.bool a1_4) := (blk_cell BK163.out 4).trans rfl
       have hcz29_5 : wc.cell? ⟨gb163, 5, none⟩ = some (.int .i64 a1_5) := (blk_cell BK163.out 5).trans rfl
       have hcz29_6 : wc.cell? ⟨gb163, 6, none⟩ = some (.int .i64 a1_6) := (blk_cell BK163.out 6).trans rfl
       have hcz29_7 : wc.cell? ⟨gb163, 7, none⟩ = some (.int .i32 a1_7) := (blk_cell BK163.out 7).trans rfl
       have hfz29_0 := blk_frozen BK163.out 0
       have hfz29_1 := blk_frozen BK163.out 1
       have hfz29_2 := blk_frozen BK163.out 2
       have hfz29_3 := blk_frozen BK163.out 3
       have hfz29_4 := blk_frozen BK163.out 4
       have hfz29_5 := blk_frozen BK163.out 5
       have hfz29_6 := blk_frozen BK163.out 6
       have hfz29_7 := blk_frozen BK163.out 7
       go_wp2_with (first | ((with_reducible refine gate_callee (f := 35) rfl ?_); refine goesL_ (some 35) rfl rfl Tryd.func35 (by kernel_rfl) rfl #[.string a0, .int .i64 a1_6] rfl (by (try simp only [List.map_toArray, List.map_cons, List.map_nil]); first | done | rfl | (simp only [List.length_drop, List.length_take]; rfl)) ?_; (with_reducible refine (buf_Cut.calls a0 a1_6 t168 _ A24.out).mono ?_); rintro e w30 ⟨rfl, hb⟩; refine ⟨_, rfl, ?_⟩; have n0_ := Aside0.mk (blk_below (g := gb163) (o := .cells #[.bool a1_0, .bool a1_1, .bool true, .bool a1_3, .bool a1_4, .int .i64 a1_5, .int .i64 a1_6, .int .i32 a1_7] 28 (0, 0)) (by (with_reducible repeat (first | refine blk_drewN ?_ _ | refine blk_drew ?_ | refine blk_alloc ?_ _)); exact BK163.out) hb); have n1_ := Aside0.mk (below_step (by repeat (first | (with_reducible first | exact HB.out | apply below_alloc | apply pw_below_drewN | apply below_drew1 | refine below_set ?_ GE163.out) | exact HB.out)) hb); clear BK163; clear HB; have BK163 := n0_; have HB := n1_; clear n0_ n1_; (try clear hb); (try clear hb2); (try clear hk); (try clear hi); have hcz31_0 : w30.cell? ⟨gb163, 0, none⟩ = some (.bool a1_0) := (blk_cell BK163.out 0).trans rfl; have hcz31_1 : w30.cell? ⟨gb163, 1, none⟩ = some (.bool a1_1) := (blk_cell BK163.out 1).trans rfl; have hcz31_2 : w30.cell? ⟨gb163, 2, none⟩ = some (.bool true) := (blk_cell BK163.out 2).trans rfl; have hcz31_3 : w30.cell? ⟨gb163, 3, none⟩ = some (.bool a1_3) := (blk_cell BK163.out 3).trans rfl; have hcz31_4 : w30.cell? ⟨gb163, 4, none⟩ = some (.bool a1_4) := (blk_cell BK163.out 4).trans rfl; have hcz31_5 : w30.cell? ⟨gb163, 5, none⟩ = some (.int .i64 a1_5) := (blk_cell BK163.out 5).trans rfl; have hcz31_6 : w30.cell? ⟨gb163, 6, none⟩ = some (.int .i64 a1_6) := (blk_cell BK163.out 6).trans rfl; have hcz31_7 : w30.cell? ⟨gb163, 7, none⟩ = some (.int .i32 a1_7) := (blk_cell BK163.out 7).trans rfl; have hfz31_0 := blk_frozen BK163.out 0; have hfz31_1 := blk_frozen BK163.out 1; have hfz31_2 := blk_frozen BK163.out 2; have hfz31_3 := blk_frozen BK163.out 3; have hfz31_4 := blk_frozen BK163.out 4; have hfz31_5 := blk_frozen BK163.out 5; have hfz31_6 := blk_frozen BK163.out 6; have hfz31_7 := blk_frozen BK163.out 7) | ((with_reducible refine gate_callee (f := 36) rfl ?_); refine goesL_ (some 40) rfl rfl Tryd.func36 (by kernel_rfl) rfl #[.string t168] rfl (by (try simp only [List.map_toArray, List.map_cons, List.map_nil]); first | done | rfl | (simp only [List.length_drop, List.length_take]; rfl)) ?_; (with_reducible refine (quote_Raw.calls t168 t169 true _ (by (try refine Aside0.mk ?_); first | exact hOK.out | exact (hOK.out).drewN _ | (refine (hOK.out).later ?_; (repeat (first | (with_reducible first | exact HB.out | apply below_alloc | apply pw_below_drewN | apply below_drew1) | exact HB.out))) | (refine Ok.drewN ?_ _; exact hOK.out)) A26.out).mono ?_); rintro e w32 ⟨rfl, hb⟩; refine ⟨_, rfl, ?_⟩; have n0_ := Aside0.mk (blk_below (g := gb163) (o := .cells #[.bool a1_0, .bool a1_1, .bool true, .bool a1_3, .bool a1_4, .int .i64 a1_5, .int .i64 a1_6, .int .i32 a1_7] 28 (0, 0)) (by (with_reducible repeat (first | refine blk_drewN ?_ _ | refine blk_drew ?_ | refine blk_alloc ?_ _)); exact BK163.out) hb); have n1_ := Aside0.mk (below_step (by repeat (first | (with_reducible first | exact HB.out | apply below_alloc | apply pw_below_drewN | apply below_drew1 | refine below_set ?_ GE163.out) | exact HB.out)) hb); clear BK163; clear HB; have BK163 := n0_; have HB := n1_; clear n0_ n1_; (try clear hb); (try clear hb2); (try clear hk); (try clear hi); have hcz33_0 : w32.cell? ⟨gb163, 0, none⟩ = some (.bool a1_0) := (blk_cell BK163.out 0).trans rfl; have hcz33_1 : w32.cell? ⟨gb163, 1, none⟩ = some (.bool a1_1) := (blk_cell BK163.out 1).trans rfl; have hcz33_2 : w32.cell? ⟨gb163, 2, none⟩ = some (.bool true) := (blk_cell BK163.out 2).trans rfl; have hcz33_3 : w32.cell? ⟨gb163, 3, none⟩ = some (.bool a1_3) := (blk_cell BK163.out 3).trans rfl; have hcz33_4 : w32.cell? ⟨gb163, 4, none⟩ = some (.bool a1_4) := (blk_cell BK163.out 4).trans rfl; have hcz33_5 : w32.cell? ⟨gb163, 5, none⟩ = some (.int .i64 a1_5) := (blk_cell BK163.out 5).trans rfl; have hcz33_6 : w32.cell? ⟨gb163, 6, none⟩ = some (.int .i64 a1_6) := (blk_cell BK163.out 6).trans rfl; have hcz33_7 : w32.cell? ⟨gb163, 7, none⟩ = some (.int .i32 a1_7) := (blk_cell BK163.out 7).trans rfl; have hfz33_0 := blk_frozen BK163.out 0; have hfz33_1 := blk_frozen BK163.out 1; have hfz33_2 := blk_frozen BK163.out 2; have hfz33_3 := blk_frozen BK163.out 3; have hfz33_4 := blk_frozen BK163.out 4; have hfz33_5 := blk_frozen BK163.out 5; have hfz33_6 := blk_frozen BK163.out 6; have hfz33_7 := blk_frozen BK163.out 7) | ((with_reducible refine gate_callee (f := 32) rfl ?_); refine goesL_ (some 46) rfl rfl Tryd.func32 (by kernel_rfl) rfl #[.string t169, .agg #[.bool a1_0, .bool a1_1, .bool true, .bool a1_3, .bool a1_4, .int .i64 a1_5, .int .i64 a1_6, .int .i32 a1_7]] rfl (by (try simp only [List.map_toArray, List.map_cons, List.map_nil]); first | done | rfl | (simp only [List.length_drop, List.length_take]; rfl)) ?_; (with_reducible refine (buf_Pad.calls t169 a1_0 a1_1 true a1_3 a1_4 a1_5 a1_6 a1_7 t171 _ A28.out).mono ?_); rintro e w34 ⟨rfl, hb⟩; refine ⟨_, rfl, ?_⟩; have n0_ := Aside0.mk (blk_below (g := gb163) (o := .cells #[.bool a1_0, .bool a1_1, .bool true, .bool a1_3, .bool a1_4, .int .i64 a1_5, .int .i64 a1_6, .int .i32 a1_7] 28 (0, 0)) (by (with_reducible repeat (first | refine blk_drewN ?_ _ | refine blk_drew ?_ | refine blk_alloc ?_ _)); exact BK163.out) hb); have n1_ := Aside0.mk (below_step (by repeat (first | (with_reducible first | exact HB.out | apply below_alloc | apply pw_below_drewN | apply below_drew1 | refine below_set ?_ GE163.out) | exact HB.out)) hb); clear BK163; clear HB; have BK163 := n0_; have HB := n1_; clear n0_ n1_; (try clear hb); (try clear hb2); (try clear hk); (try clear hi)))
       go_ret2
       exact ⟨by first | rfl | (simp [errW_none, errW_some] <;> rfl) | (simp [*, errW_none, errW_some] <;> rfl), by repeat (first | (with_reducible first | exact HB.out | apply below_alloc | apply pw_below_drewN | apply below_drew1 | refine below_set ?_ GE163.out) | exact HB.out)⟩
      ·
       replace c27 := Bool.eq_false_iff.mpr c27
       subst c27
       have H1 : ((quote_Quote.f t168 a1_0).bind fun t172 => ((buf_Pad.f t172 a1_0 a1_1 true a1_3 a1_4 a1_5 a1_6 a1_7).bind fun t173 => (some (t173, true)))) = some (r1, r2) := by rw [if_neg (show ¬ (false = true) by decide)] at H; exact H
       clear H
       have H := H1
       clear H1
       replace H := Option.bind_eq_some_iff.mp H
       obtain ⟨t172, A350, H⟩ := H
       replace H : ((buf_Pad.f t172 a1_0 a1_1 true a1_3 a1_4 a1_5 a1_6 a1_7).bind fun t173 => (some (t173, true))) = some (r1, r2) := H
       have A35 := Aside0.mk A350
       clear A350
       replace H := Option.bind_eq_some_iff.mp H
       obtain ⟨t173, A360, H⟩ := H
       replace H : (some (t173, true)) = some (r1, r2) := H
       have A36 := Aside0.mk A360
       clear A360
       simp only [Option.some.injEq, Prod.mk.injEq] at H
       obtain ⟨rfl, rfl⟩ := H
       have hcz37_0 : wc.cell? ⟨gb163, 0, none⟩ = some (.bool a1_0) := (blk_cell BK163.out 0).trans rfl
       have hcz37_1 : wc.cell? ⟨gb163, 1, none⟩ = some (.bool a1_1) := (blk_cell BK163.out 1).trans rfl
       have hcz37_2 : wc.cell? ⟨gb163, 2, none⟩ = some (.bool true) := (blk_cell BK163.out 2).trans rfl
       have hcz37_3 : wc.cell? ⟨gb163, 3, none⟩ = some (.bool a1_3) := (blk_cell BK163.out 3).trans rfl
       have hcz37_4 : wc.cell? ⟨gb163, 4, none⟩ = some (.bool a1_4) := (blk_cell BK163.out 4).trans rfl
       have hcz37_5 : wc.cell? ⟨gb163, 5, none⟩ = some (.int .i64 a1_5) := (blk_cell BK163.out 5).trans rfl
       have hcz37_6 : wc.cell? ⟨gb163, 6, none⟩ = some (.int .i64 a1_6) := (blk_cell BK163.out 6).trans rfl
       have hcz37_7 : wc.cell? ⟨gb163, 7, none⟩ = some (.int .i32 a1_7) := (blk_cell BK163.out 7).trans rfl
       have hfz37_0 := blk_frozen BK163.out 0
       have hfz37_1 := blk_frozen BK163.out 1
       have hfz37_2 := blk_frozen BK163.out 2
       have hfz37_3 := blk_frozen BK163.out 3
       have hfz37_4 := blk_frozen BK163.out 4
       have hfz37_5 := blk_frozen BK163.out 5
       have hfz37_6 := blk_frozen BK163.out 6
       have hfz37_7 := blk_frozen BK163.out 7
       try go_wp2_with (first | ((with_reducible refine gate_callee (f := 35) rfl ?_); refine goesL_ (some 35) rfl rfl Tryd.func35 (by kernel_rfl) rfl #[.string a0, .int .i64 a1_6] rfl (by (try simp only [List.map_toArray, List.map_cons, List.map_nil]); first | done | rfl | (simp only [List.length_drop, List.length_take]; rfl)) ?_; (with_reducible refine (buf_Cut.calls a0 a1_6 t168 _ A24.out).mono ?_); rintro e w38 ⟨rfl, hb⟩; refine ⟨_, rfl, ?_⟩; have n0_ := Aside0.mk (blk_below (g := gb163) (o := .cells #[.bool a1_0, .bool a1_1, .bool true, .bool a1_3, .bool a1_4, .int .i64 a1_5, .int .i64 a1_6, .int .i32 a1_7] 28 (0, 0)) (by (with_reducible repeat (first | refine blk_drewN ?_ _ | refine blk_drew ?_ | refine blk_alloc ?_ _)); exact BK163.out) hb); have n1_ := Aside0.mk (below_step (by repeat (first | (with_reducible first | exact HB.out | apply below_alloc | apply pw_below_drewN | apply below_drew1 | refine below_set ?_ GE163.out) | exact HB.out)) hb); clear BK163; clear HB; have BK163 := n0_; have HB := n1_; clear n0_ n1_; (try clear hb); (try clear hb2); (try clear hk); (try clear hi); have hcz39_0 : w38.cell? ⟨gb163, 0, none⟩ = some (.bool a1_0) := (blk_cell BK163.out 0).trans rfl; have hcz39_1 : w38.cell? ⟨gb163, 1, none⟩ = some (.bool a1_1) := (blk_cell BK163.out 1).trans rfl; have hcz39_2 : w38.cell? ⟨gb163, 2, none⟩ = some (.bool true) := (blk_cell BK163.out 2).trans rfl; have hcz39_3 : w38.cell? ⟨gb163, 3, none⟩ = some (.bool a1_3) := (blk_cell BK163.out 3).trans rfl; have hcz39_4 : w38.cell? ⟨gb163, 4, none⟩ = some (.bool a1_4) := (blk_cell BK163.out 4).trans rfl; have hcz39_5 : w38.cell? ⟨gb163, 5, none⟩ = some (.int .i64 a1_5) := (blk_cell BK163.out 5).trans rfl; have hcz39_6 : w38.cell? ⟨gb163, 6, none⟩ = some (.int .i64 a1_6) := (blk_cell BK163.out 6).trans rfl; have hcz39_7 : w38.cell? ⟨gb163, 7, none⟩ = some (.int .i32 a1_7) := (blk_cell BK163.out 7).trans rfl; have hfz39_0 := blk_frozen BK163.out 0; have hfz39_1 := blk_frozen BK163.out 1; have hfz39_2 := blk_frozen BK163.out 2; have hfz39_3 := blk_frozen BK163.out 3; have hfz39_4 := blk_frozen BK163.out 4; have hfz39_5 := blk_frozen BK163.out 5; have hfz39_6 := blk_frozen BK163.out 6; have hfz39_7 := blk_frozen BK163.out 7) | ((with_reducible refine gate_callee (f := 36) rfl ?_); refine goesL_ (some 40) rfl rfl Tryd.func36 (by kernel_rfl) rfl #[.string t168] rfl (by (try simp only [List.map_toArray, List.map_cons, List.map_nil]); first | done | rfl | (simp only [List.length_drop, List.length_take]; rfl)) ?_; (with_reducible refine (quote_Raw.calls t168 t169 false _ (by (try refine Aside0.mk ?_); first | exact hOK.out | exact (hOK.out).drewN _ | (refine (hOK.out).later ?_; (repeat (first | (with_reducible first | exact HB.out | apply below_alloc | apply pw_below_drewN | apply below_drew1) | exact HB.out))) | (refine Ok.drewN ?_ _; exact hOK.out)) A26.out).mono ?_); rintro e w40 ⟨rfl, hb⟩; refine ⟨_, rfl, ?_⟩; have n0_ := Aside0.mk (blk_below (g := gb163) (o := .cells #[.bool a1_0, .bool a1_1, .bool true, .bool a1_3, .bool a1_4, .int .i64 a1_5, .int .i64 a1_6, .int .i32 a1_7] 28 (0, 0)) (by (with_reducible repeat (first | refine blk_drewN ?_ _ | refine blk_drew ?_ | refine blk_alloc ?_ _)); exact BK163.out) hb); have n1_ := Aside0.mk (below_step (by repeat (first | (with_reducible first | exact HB.out | apply below_alloc | apply pw_below_drewN | apply below_drew1 | refine below_set ?_ GE163.out) | exact HB.out)) hb); clear BK163; clear HB; have BK163 := n0_; have HB := n1_; clear n0_ n1_; (try clear hb); (try clear hb2); (try clear hk); (try clear hi)))
       have n0_ := Aside0.mk (blk_drew BK163.out)
       have n1_ := Aside0.mk (below_drew1 HB.out)
       clear BK163
       clear HB
       have BK163 := n0_
       have HB := n1_
       clear n0_ n1_
       refine start_ (n := 8) (S := fun w' => w'.cell? ⟨gb163, 0, none⟩ = some (.bool a1_0) ∧ w'.cell? ⟨gb163, 1, none⟩ = some (.bool a1_1) ∧ w'.cell? ⟨gb163, 2, none⟩ = some (.bool true) ∧ w'.cell? ⟨gb163, 3, none⟩ = some (.bool a1_3) ∧ w'.cell? ⟨gb163, 4, none⟩ = some (.bool a1_4) ∧ w'.cell? ⟨gb163, 5, none⟩ = some (.int .i64 a1_5) ∧ w'.cell? ⟨gb163, 6, none⟩ = some (.int .i64 a1_6) ∧ w'.cell? ⟨gb163, 7, none⟩ = some (.int .i32 a1_7)) (ds := []) #[false, false, false, false, false, false, false, false] (by kernel_rfl) rfl rfl ⟨(blk_cell BK163.out 0).trans rfl, (blk_cell BK163.out 1).trans rfl, (blk_cell BK163.out 2).trans rfl, (blk_cell BK163.out 3).trans rfl, (blk_cell BK163.out 4).trans rfl, (blk_cell BK163.out 5).trans rfl, (blk_cell BK163.out 6).trans rfl, (blk_cell BK163.out 7).trans rfl⟩ (fun hHeld => ?_); refine with_tabW quote_Text.tab13 quote_Text.bits13 (fun HT_ HW_ => ?_)
       generalize w40.drew = w41 at BK163 HB hHeld ⊢
       refine pure_ (i := 0) (N := some 47) (v := ?_) (a' := ?_) #[true, false, false, false, false, false, false, false] rfl rfl (any_of HT_.out (by kernel_rfl)) (fun _ _ _ h => h) (Or.inl ⟨by rfl, ?_⟩) ?_ ?_
       rotate_left
       ·
        intro w'
        go_simp
        with_reducible rfl
       rotate_left
       ·
        simp only [Act.put, List.setIfInBounds_toArray, List.set_cons_zero, List.set_cons_succ, i64_w, i32_w]
        rfl
       refine pure_ (i := 1) (N := some 48) (v := ?_) (a' := ?_) #[true, true, false, false, false, false, false, false] rfl rfl (any_of HT_.out (by kernel_rfl)) (fun _ _ _ h => h) (Or.inl ⟨by rfl, ?_⟩) ?_ ?_
       rotate_left
       ·
        intro w'
        go_simp
        with_reducible rfl
       rotate_left
       ·
        simp only [Act.put, List.setIfInBounds_toArray, List.set_cons_zero, List.set_cons_succ, i64_w, i32_w]
        rfl
       refine take_ (i := 2) (N := some 49) (v := ?_) (a' := ?_) #[true, true, true, false, false, false, false, false] rfl rfl (take_ofW HT_.out HW_.out (by kernel_rfl)) (fun _ _ _ h => h) (Or.inl ⟨by rfl, ?_⟩) hHeld ?_ ?_
       rotate_left
       ·
        rintro w' ⟨s0, s1, s2, s3, s4, s5, s6, s7⟩
        go_simp
        with_reducible rfl
       rotate_left
       ·
        simp only [Act.put, List.setIfInBounds_toArray, List.set_cons_zero, List.set_cons_succ, i64_w, i32_w]
        rfl
       refine take_ (i := 4) (N := some 51) (v := ?_) (a' := ?_) #[true, true, true, false, true, false, false, false] rfl rfl (take_ofW HT_.out HW_.out (by kernel_rfl)) (fun _ _ _ h => h) (Or.inl ⟨by rfl, ?_⟩) hHeld ?_ ?_
       rotate_left
       ·
        rintro w' ⟨s0, s1, s2, s3, s4, s5, s6, s7⟩
        go_simp
        with_reducible rfl
       rotate_left
       ·
        simp only [Act.put, List.setIfInBounds_toArray, List.set_cons_zero, List.set_cons_succ, i64_w, i32_w]
        rfl
       refine one_ (i := 3) (N := some 50) #[true, true, true, true, true, false, false, false] rfl rfl (one_of HT_.out (by kernel_rfl)) (by decide) (fun K hK => ?_)
       refine goes_ Tryd.func19 (by kernel_rfl) rfl #[.string t168, .bool a1_0] (by rfl) rfl rfl (by (try simp only [List.map_toArray, List.map_cons, List.map_nil]); first | done | rfl | (simp only [List.length_drop, List.length_take]; rfl)) ?_
       with_reducible refine (quote_Quote.calls t168 a1_0 t172 _ (by (try refine Aside0.mk ?_); first | exact hOK.out | exact (hOK.out).drewN _ | (refine (hOK.out).later ?_; (repeat (first | (with_reducible first | exact HB.out | apply below_alloc | apply pw_below_drewN | apply below_drew1) | exact HB.out))) | (refine Ok.drewN ?_ _; exact hOK.out)) A35.out).mono ?_
       rintro e w42 ⟨rfl, hb⟩
       refine ⟨_, rfl, ?_⟩
       have n0_ := Aside0.mk (blk_below (g := gb163) (o := .cells #[.bool a1_0, .bool a1_1, .bool true, .bool a1_3, .bool a1_4, .int .i64 a1_5, .int .i64 a1_6, .int .i32 a1_7] 28 (0, 0)) (by (with_reducible repeat (first | refine blk_drewN ?_ _ | refine blk_drew ?_ | refine blk_alloc ?_ _)); exact BK163.out) hb)
       have n1_ := Aside0.mk (below_step (by repeat (first | (with_reducible first | exact HB.out | apply below_alloc | apply pw_below_drewN | apply below_drew1 | refine below_set ?_ GE163.out) | exact HB.out)) hb)
       clear BK163
       clear HB
       have BK163 := n0_
       have HB := n1_
       clear n0_ n1_
       (try clear hb)
       (try clear hb2)
       (try clear hk)
       (try clear hi)
       refine hK.out _ _ ⟨(blk_cell BK163.out 0).trans rfl, (blk_cell BK163.out 1).trans rfl, (blk_cell BK163.out 2).trans rfl, (blk_cell BK163.out 3).trans rfl, (blk_cell BK163.out 4).trans rfl, (blk_cell BK163.out 5).trans rfl, (blk_cell BK163.out 6).trans rfl, (blk_cell BK163.out 7).trans rfl⟩ (fun hHeld => ?_)
       clear hK K
       refine norm_ (a' := ?_) ?_ ?_
       rotate_left
       ·
        show Act.put _ (some 50) _ = _
        simp only [Act.put, List.setIfInBounds_toArray, List.set_cons_zero, List.set_cons_succ, i64_w, i32_w]
        rfl
       refine one_ (i := 5) (N := some 52) #[true, true, true, true, true, true, false, false] rfl rfl (one_of HT_.out (by kernel_rfl)) (by decide) (fun K hK => ?_)
       refine goes_ Tryd.func32 (by kernel_rfl) rfl #[.string t172, .agg #[.bool a1_0, .bool a1_1, .bool true, .bool a1_3, .bool a1_4, .int .i64 a1_5, .int .i64 a1_6, .int .i32 a1_7]] (by rfl) rfl rfl (by (try simp only [List.map_toArray, List.map_cons, List.map_nil]); first | done | rfl | (simp only [List.length_drop, List.length_take]; rfl)) ?_
       with_reducible refine (buf_Pad.calls t172 a1_0 a1_1 true a1_3 a1_4 a1_5 a1_6 a1_7 t173 _ A36.out).mono ?_
       rintro e w43 ⟨rfl, hb⟩
       refine ⟨_, rfl, ?_⟩
       have n0_ := Aside0.mk (blk_below (g := gb163) (o := .cells #[.bool a1_0, .bool a1_1, .bool true, .bool a1_3, .bool a1_4, .int .i64 a1_5, .int .i64 a1_6, .int .i32 a1_7] 28 (0, 0)) (by (with_reducible repeat (first | refine blk_drewN ?_ _ | refine blk_drew ?_ | refine blk_alloc ?_ _)); exact BK163.out) hb)
       have n1_ := Aside0.mk (below_step (by repeat (first | (with_reducible first | exact HB.out | apply below_alloc | apply pw_below_drewN | apply below_drew1 | refine below_set ?_ GE163.out) | exact HB.out)) hb)
       clear BK163
       clear HB
       have BK163 := n0_
       have HB := n1_
       clear n0_ n1_
       (try clear hb)
       (try clear hb2)
       (try clear hk)
       (try clear hi)
       refine hK.out _ _ ⟨(blk_cell BK163.out 0).trans rfl, (blk_cell BK163.out 1).trans rfl, (blk_cell BK163.out 2).trans rfl, (blk_cell BK163.out 3).trans rfl, (blk_cell BK163.out 4).trans rfl, (blk_cell BK163.out 5).trans rfl, (blk_cell BK163.out 6).trans rfl, (blk_cell BK163.out 7).trans rfl⟩ (fun hHeld => ?_)
       clear hK K
       refine norm_ (a' := ?_) ?_ ?_
       rotate_left
       ·
        show Act.put _ (some 52) _ = _
        simp only [Act.put, List.setIfInBounds_toArray, List.set_cons_zero, List.set_cons_succ, i64_w, i32_w]
        rfl
       refine pure_ (i := 6) (N := some 4) (v := ?_) (a' := ?_) #[true, true, true, true, true, true, true, false] rfl rfl (any_of HT_.out (by kernel_rfl)) (fun _ _ _ h => h) (Or.inl ⟨by rfl, ?_⟩) ?_ ?_
       rotate_left
       ·
        intro w'
        go_simp
        with_reducible rfl
       rotate_left
       ·
        simp only [Act.put, List.setIfInBounds_toArray, List.set_cons_zero, List.set_cons_succ, i64_w, i32_w]
        rfl
       refine pure_ (i := 7) (N := some 5) (v := ?_) (a' := ?_) #[true, true, true, true, true, true, true, true] rfl rfl (any_of HT_.out (by kernel_rfl)) (fun _ _ _ h => h) (Or.inl ⟨by rfl, ?_⟩) ?_ ?_
       rotate_left
       ·
        intro w'
        go_simp
        with_reducible rfl
       rotate_left
       ·
        simp only [Act.put, List.setIfInBounds_toArray, List.set_cons_zero, List.set_cons_succ, i64_w, i32_w]
        rfl
       refine done_ (done_of HT_.out (by kernel_rfl)) ?_
       try go_wp2
       go_ret2
       exact ⟨by first | rfl | (simp [errW_none, errW_some] <;> rfl) | (simp [*, errW_none, errW_some] <;> rfl), by repeat (first | (with_reducible first | exact HB.out | apply below_alloc | apply pw_below_drewN | apply below_drew1 | refine below_set ?_ GE163.out) | exact HB.out)⟩
     ·
      replace c25 := Bool.eq_false_iff.mpr c25
      subst c25
      have H1 : ((quote_Quote.f t168 a1_0).bind fun t174 => ((buf_Pad.f t174 a1_0 a1_1 false a1_3 a1_4 a1_5 a1_6 a1_7).bind fun t175 => (some (t175, true)))) = some (r1, r2) := by rw [if_neg (show ¬ (false = true) by decide)] at H; exact H
      clear H
      have H := H1
      clear H1
      replace H := Option.bind_eq_some_iff.mp H
      obtain ⟨t174, A440, H⟩ := H
      replace H : ((buf_Pad.f t174 a1_0 a1_1 false a1_3 a1_4 a1_5 a1_6 a1_7).bind fun t175 => (some (t175, true))) = some (r1, r2) := H
      have A44 := Aside0.mk A440
      clear A440
      replace H := Option.bind_eq_some_iff.mp H
      obtain ⟨t175, A450, H⟩ := H
      replace H : (some (t175, true)) = some (r1, r2) := H
      have A45 := Aside0.mk A450
      clear A450
      simp only [Option.some.injEq, Prod.mk.injEq] at H
      obtain ⟨rfl, rfl⟩ := H
      have hcz46_0 : wc.cell? ⟨gb163, 0, none⟩ = some (.bool a1_0) := (blk_cell BK163.out 0).trans rfl
      have hcz46_1 : wc.cell? ⟨gb163, 1, none⟩ = some (.bool a1_1) := (blk_cell BK163.out 1).trans rfl
      have hcz46_2 : wc.cell? ⟨gb163, 2, none⟩ = some (.bool false) := (blk_cell BK163.out 2).trans rfl
      have hcz46_3 : wc.cell? ⟨gb163, 3, none⟩ = some (.bool a1_3) := (blk_cell BK163.out 3).trans rfl
      have hcz46_4 : wc.cell? ⟨gb163, 4, none⟩ = some (.bool a1_4) := (blk_cell BK163.out 4).trans rfl
      have hcz46_5 : wc.cell? ⟨gb163, 5, none⟩ = some (.int .i64 a1_5) := (blk_cell BK163.out 5).trans rfl
      have hcz46_6 : wc.cell? ⟨gb163, 6, none⟩ = some (.int .i64 a1_6) := (blk_cell BK163.out 6).trans rfl
      have hcz46_7 : wc.cell? ⟨gb163, 7, none⟩ = some (.int .i32 a1_7) := (blk_cell BK163.out 7).trans rfl
      have hfz46_0 := blk_frozen BK163.out 0
      have hfz46_1 := blk_frozen BK163.out 1
      have hfz46_2 := blk_frozen BK163.out 2
      have hfz46_3 := blk_frozen BK163.out 3
      have hfz46_4 := blk_frozen BK163.out 4
      have hfz46_5 := blk_frozen BK163.out 5
      have hfz46_6 := blk_frozen BK163.out 6
      have hfz46_7 := blk_frozen BK163.out 7
      try go_wp2_with (first | ((with_reducible refine gate_callee (f := 35) rfl ?_); refine goesL_ (some 35) rfl rfl Tryd.func35 (by kernel_rfl) rfl #[.string a0, .int .i64 a1_6] rfl (by (try simp only [List.map_toArray, List.map_cons, List.map_nil]); first | done | rfl | (simp only [List.length_drop, List.length_take]; rfl)) ?_; (with_reducible refine (buf_Cut.calls a0 a1_6 t168 _ A24.out).mono ?_); rintro e w47 ⟨rfl, hb⟩; refine ⟨_, rfl, ?_⟩; have n0_ := Aside0.mk (blk_below (g := gb163) (o := .cells #[.bool a1_0, .bool a1_1, .bool false, .bool a1_3, .bool a1_4, .int .i64 a1_5, .int .i64 a1_6, .int .i32 a1_7] 28 (0, 0)) (by (with_reducible repeat (first | refine blk_drewN ?_ _ | refine blk_drew ?_ | refine blk_alloc ?_ _)); exact BK163.out) hb); have n1_ := Aside0.mk (below_step (by repeat (first | (with_reducible first | exact HB.out | apply below_alloc | apply pw_below_drewN | apply below_drew1 | refine below_set ?_ GE163.out) | exact HB.out)) hb); clear BK163; clear HB; have BK163 := n0_; have HB := n1_; clear n0_ n1_; (try clear hb); (try clear hb2); (try clear hk); (try clear hi); have hcz48_0 : w47.cell? ⟨gb163, 0, none⟩ = some (.bool a1_0) := (blk_cell BK163.out 0).trans rfl; have hcz48_1 : w47.cell? ⟨gb163, 1, none⟩ = some (.bool a1_1) := (blk_cell BK163.out 1).trans rfl; have hcz48_2 : w47.cell? ⟨gb163, 2, none⟩ = some (.bool false) := (blk_cell BK163.out 2).trans rfl; have hcz48_3 : w47.cell? ⟨gb163, 3, none⟩ = some (.bool a1_3) := (blk_cell BK163.out 3).trans rfl; have hcz48_4 : w47.cell? ⟨gb163, 4, none⟩ = some (.bool a1_4) := (blk_cell BK163.out 4).trans rfl; have hcz48_5 : w47.cell? ⟨gb163, 5, none⟩ = some (.int .i64 a1_5) := (blk_cell BK163.out 5).trans rfl; have hcz48_6 : w47.cell? ⟨gb163, 6, none⟩ = some (.int .i64 a1_6) := (blk_cell BK163.out 6).trans rfl; have hcz48_7 : w47.cell? ⟨gb163, 7, none⟩ = some (.int .i32 a1_7) := (blk_cell BK163.out 7).trans rfl; have hfz48_0 := blk_frozen BK163.out 0; have hfz48_1 := blk_frozen BK163.out 1; have hfz48_2 := blk_frozen BK163.out 2; have hfz48_3 := blk_frozen BK163.out 3; have hfz48_4 := blk_frozen BK163.out 4; have hfz48_5 := blk_frozen BK163.out 5; have hfz48_6 := blk_frozen BK163.out 6; have hfz48_7 := blk_frozen BK163.out 7))
      have n0_ := Aside0.mk (blk_drew BK163.out)
      have n1_ := Aside0.mk (below_drew1 HB.out)
      clear BK163
      clear HB
      have BK163 := n0_
      have HB := n1_
      clear n0_ n1_
      refine start_ (n := 8) (S := fun w' => w'.cell? ⟨gb163, 0, none⟩ = some (.bool a1_0) ∧ w'.cell? ⟨gb163, 1, none⟩ = some (.bool a1_1) ∧ w'.cell? ⟨gb163, 2, none⟩ = some (.bool false) ∧ w'.cell? ⟨gb163, 3, none⟩ = some (.bool a1_3) ∧ w'.cell? ⟨gb163, 4, none⟩ = some (.bool a1_4) ∧ w'.cell? ⟨gb163, 5, none⟩ = some (.int .i64 a1_5) ∧ w'.cell? ⟨gb163, 6, none⟩ = some (.int .i64 a1_6) ∧ w'.cell? ⟨gb163, 7, none⟩ = some (.int .i32 a1_7)) (ds := []) #[false, false, false, false, false, false, false, false] (by kernel_rfl) rfl rfl ⟨(blk_cell BK163.out 0).trans rfl, (blk_cell BK163.out 1).trans rfl, (blk_cell BK163.out 2).trans rfl, (blk_cell BK163.out 3).trans rfl, (blk_cell BK163.out 4).trans rfl, (blk_cell BK163.out 5).trans rfl, (blk_cell BK163.out 6).trans rfl, (blk_cell BK163.out 7).trans rfl⟩ (fun hHeld => ?_); refine with_tabW quote_Text.tab13 quote_Text.bits13 (fun HT_ HW_ => ?_)
      generalize w47.drew = w49 at BK163 HB hHeld ⊢
      refine pure_ (i := 0) (N := some 47) (v := ?_) (a' := ?_) #[true, false, false, false, false, false, false, false] rfl rfl (any_of HT_.out (by kernel_rfl)) (fun _ _ _ h => h) (Or.inl ⟨by rfl, ?_⟩) ?_ ?_
      rotate_left
      ·
       intro w'
       go_simp
       with_reducible rfl
      rotate_left
      ·
       simp only [Act.put, List.setIfInBounds_toArray, List.set_cons_zero, List.set_cons_succ, i64_w, i32_w]
       rfl
      refine pure_ (i := 1) (N := some 48) (v := ?_) (a' := ?_) #[true, true, false, false, false, false, false, false] rfl rfl (any_of HT_.out (by kernel_rfl)) (fun _ _ _ h => h) (Or.inl ⟨by rfl, ?_⟩) ?_ ?_
      rotate_left
      ·
       intro w'
       go_simp
       with_reducible rfl
      rotate_left
      ·
       simp only [Act.put, List.setIfInBounds_toArray, List.set_cons_zero, List.set_cons_succ, i64_w, i32_w]
       rfl
      refine take_ (i := 2) (N := some 49) (v := ?_) (a' := ?_) #[true, true, true, false, false, false, false, false] rfl rfl (take_ofW HT_.out HW_.out (by kernel_rfl)) (fun _ _ _ h => h) (Or.inl ⟨by rfl, ?_⟩) hHeld ?_ ?_
      rotate_left
      ·
       rintro w' ⟨s0, s1, s2, s3, s4, s5, s6, s7⟩
       go_simp
       with_reducible rfl
      rotate_left
      ·
       simp only [Act.put, List.setIfInBounds_toArray, List.set_cons_zero, List.set_cons_succ, i64_w, i32_w]
       rfl
      refine take_ (i := 4) (N := some 51) (v := ?_) (a' := ?_) #[true, true, true, false, true, false, false, false] rfl rfl (take_ofW HT_.out HW_.out (by kernel_rfl)) (fun _ _ _ h => h) (Or.inl ⟨by rfl, ?_⟩) hHeld ?_ ?_
      rotate_left
      ·
       rintro w' ⟨s0, s1, s2, s3, s4, s5, s6, s7⟩
       go_simp
       with_reducible rfl
      rotate_left
      ·
       simp only [Act.put, List.setIfInBounds_toArray, List.set_cons_zero, List.set_cons_succ, i64_w, i32_w]
       rfl
      refine one_ (i := 3) (N := some 50) #[true, true, true, true, true, false, false, false] rfl rfl (one_of HT_.out (by kernel_rfl)) (by decide) (fun K hK => ?_)
      refine goes_ Tryd.func19 (by kernel_rfl) rfl #[.string t168, .bool a1_0] (by rfl) rfl rfl (by (try simp only [List.map_toArray, List.map_cons, List.map_nil]); first | done | rfl | (simp only [List.length_drop, List.length_take]; rfl)) ?_
      with_reducible refine (quote_Quote.calls t168 a1_0 t174 _ (by (try refine Aside0.mk ?_); first | exact hOK.out | exact (hOK.out).drewN _ | (refine (hOK.out).later ?_; (repeat (first | (with_reducible first | exact HB.out | apply below_alloc | apply pw_below_drewN | apply below_drew1) | exact HB.out))) | (refine Ok.drewN ?_ _; exact hOK.out)) A44.out).mono ?_
      rintro e w50 ⟨rfl, hb⟩
      refine ⟨_, rfl, ?_⟩
      have n0_ := Aside0.mk (blk_below (g := gb163) (o := .cells #[.bool a1_0, .bool a1_1, .bool false, .bool a1_3, .bool a1_4, .int .i64 a1_5, .int .i64 a1_6, .int .i32 a1_7] 28 (0, 0)) (by (with_reducible repeat (first | refine blk_drewN ?_ _ | refine blk_drew ?_ | refine blk_alloc ?_ _)); exact BK163.out) hb)
      have n1_ := Aside0.mk (below_step (by repeat (first | (with_reducible first | exact HB.out | apply below_alloc | apply pw_below_drewN | apply below_drew1 | refine below_set ?_ GE163.out) | exact HB.out)) hb)
      clear BK163
      clear HB
      have BK163 := n0_
      have HB := n1_
      clear n0_ n1_
      (try clear hb)
      (try clear hb2)
      (try clear hk)
      (try clear hi)
      refine hK.out _ _ ⟨(blk_cell BK163.out 0).trans rfl, (blk_cell BK163.out 1).trans rfl, (blk_cell BK163.out 2).trans rfl, (blk_cell BK163.out 3).trans rfl, (blk_cell BK163.out 4).trans rfl, (blk_cell BK163.out 5).trans rfl, (blk_cell BK163.out 6).trans rfl, (blk_cell BK163.out 7).trans rfl⟩ (fun hHeld => ?_)
      clear hK K
      refine norm_ (a' := ?_) ?_ ?_
      rotate_left
      ·
       show Act.put _ (some 50) _ = _
       simp only [Act.put, List.setIfInBounds_toArray, List.set_cons_zero, List.set_cons_succ, i64_w, i32_w]
       rfl
      refine one_ (i := 5) (N := some 52) #[true, true, true, true, true, true, false, false] rfl rfl (one_of HT_.out (by kernel_rfl)) (by decide) (fun K hK => ?_)
      refine goes_ Tryd.func32 (by kernel_rfl) rfl #[.string t174, .agg #[.bool a1_0, .bool a1_1, .bool false, .bool a1_3, .bool a1_4, .int .i64 a1_5, .int .i64 a1_6, .int .i32 a1_7]] (by rfl) rfl rfl (by (try simp only [List.map_toArray, List.map_cons, List.map_nil]); first | done | rfl | (simp only [List.length_drop, List.length_take]; rfl)) ?_
      with_reducible refine (buf_Pad.calls t174 a1_0 a1_1 false a1_3 a1_4 a1_5 a1_6 a1_7 t175 _ A45.out).mono ?_
      rintro e w51 ⟨rfl, hb⟩
      refine ⟨_, rfl, ?_⟩
      have n0_ := Aside0.mk (blk_below (g := gb163) (o := .cells #[.bool a1_0, .bool a1_1, .bool false, .bool a1_3, .bool a1_4, .int .i64 a1_5, .int .i64 a1_6, .int .i32 a1_7] 28 (0, 0)) (by (with_reducible repeat (first | refine blk_drewN ?_ _ | refine blk_drew ?_ | refine blk_alloc ?_ _)); exact BK163.out) hb)
      have n1_ := Aside0.mk (below_step (by repeat (first | (with_reducible first | exact HB.out | apply below_alloc | apply pw_below_drewN | apply below_drew1 | refine below_set ?_ GE163.out) | exact HB.out)) hb)
      clear BK163
      clear HB
      have BK163 := n0_
      have HB := n1_
      clear n0_ n1_
      (try clear hb)
      (try clear hb2)
      (try clear hk)
      (try clear hi)
      refine hK.out _ _ ⟨(blk_cell BK163.out 0).trans rfl, (blk_cell BK163.out 1).trans rfl, (blk_cell BK163.out 2).trans rfl, (blk_cell BK163.out 3).trans rfl, (blk_cell BK163.out 4).trans rfl, (blk_cell BK163.out 5).trans rfl, (blk_cell BK163.out 6).trans rfl, (blk_cell BK163.out 7).trans rfl⟩ (fun hHeld => ?_)
      clear hK K
      refine norm_ (a' := ?_) ?_ ?_
      rotate_left
      ·
       show Act.put _ (some 52) _ = _
       simp only [Act.put, List.setIfInBounds_toArray, List.set_cons_zero, List.set_cons_succ, i64_w, i32_w]
       rfl
      refine pure_ (i := 6) (N := some 4) (v := ?_) (a' := ?_) #[true, true, true, true, true, true, true, false] rfl rfl (any_of HT_.out (by kernel_rfl)) (fun _ _ _ h => h) (Or.inl ⟨by rfl, ?_⟩) ?_ ?_
      rotate_left
      ·
       intro w'
       go_simp
       with_reducible rfl
      rotate_left
      ·
       simp only [Act.put, List.setIfInBounds_toArray, List.set_cons_zero, List.set_cons_succ, i64_w, i32_w]
       rfl
      refine pure_ (i := 7) (N := some 5) (v := ?_) (a' := ?_) #[true, true, true, true, true, true, true, true] rfl rfl (any_of HT_.out (by kernel_rfl)) (fun _ _ _ h => h) (Or.inl ⟨by rfl, ?_⟩) ?_ ?_
      rotate_left
      ·
       intro w'
       go_simp
       with_reducible rfl
      rotate_left
      ·
       simp only [Act.put, List.setIfInBounds_toArray, List.set_cons_zero, List.set_cons_succ, i64_w, i32_w]
       rfl
      refine done_ (done_of HT_.out (by kernel_rfl)) ?_
      try go_wp2
      go_ret2
      exact ⟨by first | rfl | (simp [errW_none, errW_some] <;> rfl) | (simp [*, errW_none, errW_some] <;> rfl), by repeat (first | (with_reducible first | exact HB.out | apply below_alloc | apply pw_below_drewN | apply below_drew1 | refine below_set ?_ GE163.out) | exact HB.out)⟩
    ·
     rw [if_neg c23] at H
     have c23b0 : (a1_7 == 113) = false := beq_eq_false_iff_ne.mpr c23
     have c23b1 : (a1_7 != 113) = true := bne_iff_ne.mpr c23
     by_cases c52 : a1_7 = 120
     ·
      rw [if_pos c52] at H
      have c52b0 : (a1_7 == 120) = true := beq_iff_eq.mpr c52
      have c52b1 : (a1_7 != 120) = false := bne_eq_false_iff_eq.mpr c52
      clear c52
      replace H := Option.bind_eq_some_iff.mp H
      obtain ⟨t176, A530, H⟩ := H
      replace H : (some (t176, true)) = some (r1, r2) := H
      have A53 := Aside0.mk A530
      clear A530
      simp only [Option.some.injEq, Prod.mk.injEq] at H
      obtain ⟨rfl, rfl⟩ := H
      have hcz54_0 : wc.cell? ⟨gb163, 0, none⟩ = some (.bool a1_0) := (blk_cell BK163.out 0).trans rfl
      have hcz54_1 : wc.cell? ⟨gb163, 1, none⟩ = some (.bool a1_1) := (blk_cell BK163.out 1).trans rfl
      have hcz54_2 : wc.cell? ⟨gb163, 2, none⟩ = some (.bool a1_2) := (blk_cell BK163.out 2).trans rfl
      have hcz54_3 : wc.cell? ⟨gb163, 3, none⟩ = some (.bool a1_3) := (blk_cell BK163.out 3).trans rfl
      have hcz54_4 : wc.cell? ⟨gb163, 4, none⟩ = some (.bool a1_4) := (blk_cell BK163.out 4).trans rfl
      have hcz54_5 : wc.cell? ⟨gb163, 5, none⟩ = some (.int .i64 a1_5) := (blk_cell BK163.out 5).trans rfl
      have hcz54_6 : wc.cell? ⟨gb163, 6, none⟩ = some (.int .i64 a1_6) := (blk_cell BK163.out 6).trans rfl
      have hcz54_7 : wc.cell? ⟨gb163, 7, none⟩ = some (.int .i32 a1_7) := (blk_cell BK163.out 7).trans rfl
      have hfz54_0 := blk_frozen BK163.out 0
      have hfz54_1 := blk_frozen BK163.out 1
      have hfz54_2 := blk_frozen BK163.out 2
      have hfz54_3 := blk_frozen BK163.out 3
      have hfz54_4 := blk_frozen BK163.out 4
      have hfz54_5 := blk_frozen BK163.out 5
      have hfz54_6 := blk_frozen BK163.out 6
      have hfz54_7 := blk_frozen BK163.out 7
      go_wp2_with (first | ((with_reducible refine gate_callee (f := 15) rfl ?_); refine goesL_ (some 58) rfl rfl Tryd.func15 (by kernel_rfl) rfl #[.string a0, .agg #[.bool a1_0, .bool a1_1, .bool a1_2, .bool a1_3, .bool a1_4, .int .i64 a1_5, .int .i64 a1_6, .int .i32 a1_7]] rfl (by (try simp only [List.map_toArray, List.map_cons, List.map_nil]); first | done | rfl | (simp only [List.length_drop, List.length_take]; rfl)) ?_; (with_reducible refine (quote_Hex.calls kj2 a0 a1_0 a1_1 a1_2 a1_3 a1_4 a1_5 a1_6 a1_7 t176 _ A53.out).mono ?_); rintro e w55 ⟨rfl, hb⟩; refine ⟨_, rfl, ?_⟩; have n0_ := Aside0.mk (blk_below (g := gb163) (o := .cells #[.bool a1_0, .bool a1_1, .bool a1_2, .bool a1_3, .bool a1_4, .int .i64 a1_5, .int .i64 a1_6, .int .i32 a1_7] 28 (0, 0)) (by (with_reducible repeat (first | refine blk_drewN ?_ _ | refine blk_drew ?_ | refine blk_alloc ?_ _)); exact BK163.out) hb); have n1_ := Aside0.mk (below_step (by repeat (first | (with_reducible first | exact HB.out | apply below_alloc | apply pw_below_drewN | apply below_drew1 | refine below_set ?_ GE163.out) | exact HB.out)) hb); clear BK163; clear HB; have BK163 := n0_; have HB := n1_; clear n0_ n1_; (try clear hb); (try clear hb2); (try clear hk); (try clear hi)))
      go_ret2
      exact ⟨by first | rfl | (simp [errW_none, errW_some] <;> rfl) | (simp [*, errW_none, errW_some] <;> rfl), by repeat (first | (with_reducible first | exact HB.out | apply below_alloc | apply pw_below_drewN | apply below_drew1 | refine below_set ?_ GE163.out) | exact HB.out)⟩
     ·
      rw [if_neg c52] at H
      have c52b0 : (a1_7 == 120) = false := beq_eq_false_iff_ne.mpr c52
      have c52b1 : (a1_7 != 120) = true := bne_iff_ne.mpr c52
      by_cases c56 : a1_7 = 88
      ·
       rw [if_pos c56] at H
       have c56b0 : (a1_7 == 88) = true := beq_iff_eq.mpr c56
       have c56b1 : (a1_7 != 88) = false := bne_eq_false_iff_eq.mpr c56
       clear c56
       replace H := Option.bind_eq_some_iff.mp H
       obtain ⟨t177, A570, H⟩ := H
       replace H : (some (t177, true)) = some (r1, r2) := H
       have A57 := Aside0.mk A570
       clear A570
       simp only [Option.some.injEq, Prod.mk.injEq] at H
       obtain ⟨rfl, rfl⟩ := H
       have hcz58_0 : wc.cell? ⟨gb163, 0, none⟩ = some (.bool a1_0) := (blk_cell BK163.out 0).trans rfl
       have hcz58_1 : wc.cell? ⟨gb163, 1, none⟩ = some (.bool a1_1) := (blk_cell BK163.out 1).trans rfl
       have hcz58_2 : wc.cell? ⟨gb163, 2, none⟩ = some (.bool a1_2) := (blk_cell BK163.out 2).trans rfl
       have hcz58_3 : wc.cell? ⟨gb163, 3, none⟩ = some (.bool a1_3) := (blk_cell BK163.out 3).trans rfl
       have hcz58_4 : wc.cell? ⟨gb163, 4, none⟩ = some (.bool a1_4) := (blk_cell BK163.out 4).trans rfl
       have hcz58_5 : wc.cell? ⟨gb163, 5, none⟩ = some (.int .i64 a1_5) := (blk_cell BK163.out 5).trans rfl
       have hcz58_6 : wc.cell? ⟨gb163, 6, none⟩ = some (.int .i64 a1_6) := (blk_cell BK163.out 6).trans rfl
       have hcz58_7 : wc.cell? ⟨gb163, 7, none⟩ = some (.int .i32 a1_7) := (blk_cell BK163.out 7).trans rfl
       have hfz58_0 := blk_frozen BK163.out 0
       have hfz58_1 := blk_frozen BK163.out 1
       have hfz58_2 := blk_frozen BK163.out 2
       have hfz58_3 := blk_frozen BK163.out 3
       have hfz58_4 := blk_frozen BK163.out 4
       have hfz58_5 := blk_frozen BK163.out 5
       have hfz58_6 := blk_frozen BK163.out 6
       have hfz58_7 := blk_frozen BK163.out 7
       go_wp2_with (first | ((with_reducible refine gate_callee (f := 15) rfl ?_); refine goesL_ (some 58) rfl rfl Tryd.func15 (by kernel_rfl) rfl #[.string a0, .agg #[.bool a1_0, .bool a1_1, .bool a1_2, .bool a1_3, .bool a1_4, .int .i64 a1_5, .int .i64 a1_6, .int .i32 a1_7]] rfl (by (try simp only [List.map_toArray, List.map_cons, List.map_nil]); first | done | rfl | (simp only [List.length_drop, List.length_take]; rfl)) ?_; (with_reducible refine (quote_Hex.calls kj2 a0 a1_0 a1_1 a1_2 a1_3 a1_4 a1_5 a1_6 a1_7 t177 _ A57.out).mono ?_); rintro e w59 ⟨rfl, hb⟩; refine ⟨_, rfl, ?_⟩; have n0_ := Aside0.mk (blk_below (g := gb163) (o := .cells #[.bool a1_0, .bool a1_1, .bool a1_2, .bool a1_3, .bool a1_4, .int .i64 a1_5, .int .i64 a1_6, .int .i32 a1_7] 28 (0, 0)) (by (with_reducible repeat (first | refine blk_drewN ?_ _ | refine blk_drew ?_ | refine blk_alloc ?_ _)); exact BK163.out) hb); have n1_ := Aside0.mk (below_step (by repeat (first | (with_reducible first | exact HB.out | apply below_alloc | apply pw_below_drewN | apply below_drew1 | refine below_set ?_ GE163.out) | exact HB.out)) hb); clear BK163; clear HB; have BK163 := n0_; have HB := n1_; clear n0_ n1_; (try clear hb); (try clear hb2); (try clear hk); (try clear hi)))
       go_ret2
       exact ⟨by first | rfl | (simp [errW_none, errW_some] <;> rfl) | (simp [*, errW_none, errW_some] <;> rfl), by repeat (first | (with_reducible first | exact HB.out | apply below_alloc | apply pw_below_drewN | apply below_drew1 | refine below_set ?_ GE163.out) | exact HB.out)⟩
      ·
       rw [if_neg c56] at H
       have c56b0 : (a1_7 == 88) = false := beq_eq_false_iff_ne.mpr c56
       have c56b1 : (a1_7 != 88) = true := bne_iff_ne.mpr c56
       simp only [Option.some.injEq, Prod.mk.injEq] at H
       obtain ⟨rfl, rfl⟩ := H
       go_wp2
       go_ret2
       exact ⟨by first | rfl | (simp [errW_none, errW_some] <;> rfl) | (simp [*, errW_none, errW_some] <;> rfl), by repeat (first | (with_reducible first | exact HB.out | apply below_alloc | apply pw_below_drewN | apply below_drew1 | refine below_set ?_ GE163.out) | exact HB.out)⟩
end Go.Proofs.YtcoippikicikoaaDoor.PQGen
namespace Go.Proofs.YtcoippikicikoaaDoor.PQGen
open Go.RowKit Go.Proofs.YtcoippikicikoaaDoorW.PrintWords Go.Proofs.YtcoippikicikoaaDoorW.PrintLast Go.Proofs.YtcoippikicikoaaDoorW.PrintMore
attribute [local go_sem] max2_int min2_int max_two min_two
set_option linter.unusedVariables false
set_option linter.unusedSimpArgs false
def platenlaw02_lives.f (k : Nat)  : Option (Bool) := (quote_Text.f k (⟨#[195, 169]⟩ : ByteArray) true false false false false (-1) (-1) 113).bind fun bt178 => ((quote_Unquote.f (⟨#[34, 92, 120, 54, 49, 34]⟩ : ByteArray)).bind fun bt180 => (if bt178.2 = true then (if bt180.2 = true then (some false) else (if bt178.1.toList = ([34, 92, 117, 48, 48, 101, 57, 34] : List UInt8) then ((quote_Quote.f (⟨#[255]⟩ : ByteArray) false).bind fun t182 => (if t182.toList = ([34, 92, 120, 102, 102, 34] : List UInt8) then ((quote_Hex.f k (⟨#[97, 98]⟩ : ByteArray) false false true true false (-1) (-1) 120).bind fun t183 => (some (t183.toList == ([48, 120, 54, 49, 32, 48, 120, 54, 50] : List UInt8)))) else (some false))) else (some false))) else (some false)))
theorem platenlaw02_lives.mono : ∀ k, LeO (platenlaw02_lives.f k ) (platenlaw02_lives.f (k + 1) ) := by
 intro  k
 unfold platenlaw02_lives.f
 repeat' first
  | (with_reducible exact quote_Hex.mono _ _ _ _ _ _ _ _ _ _)
  | (with_reducible exact quote_Text.mono _ _ _ _ _ _ _ _ _ _)
  | (with_reducible exact LeO.refl _)
  | (with_reducible exact LeO.none _)
  | (with_reducible refine LeO.ite ?_ ?_)
  | (with_reducible refine LeO.bind ?_ (fun _ => ?_))
  | exact quote_Hex.mono _ _ _ _ _ _ _ _ _ _
  | exact quote_Text.mono _ _ _ _ _ _ _ _ _ _
  | exact LeO.none _
  | refine LeO.ite ?_ ?_
  | refine LeO.bind ?_ (fun _ => ?_)
set_option maxHeartbeats 8000000 in
set_option maxRecDepth 100000 in
theorem platenlaw02_lives.calls (k : Nat)  (r : Bool) (w : World) (hOK : Aside0 (Ok w)) (h : platenlaw02_lives.f k  = some r) :
 Calls Tryd.prog 14 #[] w fun e w' => e = .returned (.bool r) ∧ Below w.heap.size w w' := by
 have hu28 := Tryd.underlying28
 have HB := Aside0.mk (Below.refl w.heap.size w)
 have H : ((quote_Text.f k (⟨#[195, 169]⟩ : ByteArray) true false false false false (-1) (-1) 113).bind fun bt178 => ((quote_Unquote.f (⟨#[34, 92, 120, 54, 49, 34]⟩ : ByteArray)).bind fun bt180 => (if bt178.2 = true then (if bt180.2 = true then (some false) else (if bt178.1.toList = ([34, 92, 117, 48, 48, 101, 57, 34] : List UInt8) then ((quote_Quote.f (⟨#[255]⟩ : ByteArray) false).bind fun t182 => (if t182.toList = ([34, 92, 120, 102, 102, 34] : List UInt8) then ((quote_Hex.f k (⟨#[97, 98]⟩ : ByteArray) false false true true false (-1) (-1) 120).bind fun t183 => (some (t183.toList == ([48, 120, 54, 49, 32, 48, 120, 54, 50] : List UInt8)))) else (some false))) else (some false))) else (some false)))) = some r := h
 clear h
 replace H := Option.bind_eq_some_iff.mp H
 obtain ⟨⟨t178, t179⟩, A10, H⟩ := H
 replace H : ((quote_Unquote.f (⟨#[34, 92, 120, 54, 49, 34]⟩ : ByteArray)).bind fun bt180 => (if t179 = true then (if bt180.2 = true then (some false) else (if t178.toList = ([34, 92, 117, 48, 48, 101, 57, 34] : List UInt8) then ((quote_Quote.f (⟨#[255]⟩ : ByteArray) false).bind fun t182 => (if t182.toList = ([34, 92, 120, 102, 102, 34] : List UInt8) then ((quote_Hex.f k (⟨#[97, 98]⟩ : ByteArray) false false true true false (-1) (-1) 120).bind fun t183 => (some (t183.toList == ([48, 120, 54, 49, 32, 48, 120, 54, 50] : List UInt8)))) else (some false))) else (some false))) else (some false))) = some r := H
 have A1 := Aside0.mk A10
 clear A10
 replace H := Option.bind_eq_some_iff.mp H
 obtain ⟨⟨t180, t181⟩, A20, H⟩ := H
 replace H : (if t179 = true then (if t181 = true then (some false) else (if t178.toList = ([34, 92, 117, 48, 48, 101, 57, 34] : List UInt8) then ((quote_Quote.f (⟨#[255]⟩ : ByteArray) false).bind fun t182 => (if t182.toList = ([34, 92, 120, 102, 102, 34] : List UInt8) then ((quote_Hex.f k (⟨#[97, 98]⟩ : ByteArray) false false true true false (-1) (-1) 120).bind fun t183 => (some (t183.toList == ([48, 120, 54, 49, 32, 48, 120, 54, 50] : List UInt8)))) else (some false))) else (some false))) else (some false)) = some r := H
 have A2 := Aside0.mk A20
 clear A20
 by_cases c3 : t179 = true
 ·
  subst c3
  have H1 : (if t181 = true then (some false) else (if t178.toList = ([34, 92, 117, 48, 48, 101, 57, 34] : List UInt8) then ((quote_Quote.f (⟨#[255]⟩ : ByteArray) false).bind fun t182 => (if t182.toList = ([34, 92, 120, 102, 102, 34] : List UInt8) then ((quote_Hex.f k (⟨#[97, 98]⟩ : ByteArray) false false true true false (-1) (-1) 120).bind fun t183 => (some (t183.toList == ([48, 120, 54, 49, 32, 48, 120, 54, 50] : List UInt8)))) else (some false))) else (some false))) = some r := by rw [if_pos rfl] at H; exact H
  clear H
  have H := H1
  clear H1
  by_cases c4 : t181 = true
  ·
   subst c4
   have H1 : (some false) = some r := by rw [if_pos rfl] at H; exact H
   clear H
   have H := H1
   clear H1
   obtain rfl := Option.some.inj H
   go_enter Tryd.func14, Tryd.ntmps14
   go_wp2_with (first | ((with_reducible refine gate_callee (f := 17) rfl ?_); refine goesL_ (some 7) rfl rfl Tryd.func17 (by kernel_rfl) rfl #[.string (⟨#[195, 169]⟩ : ByteArray), .agg #[.bool true, .bool false, .bool false, .bool false, .bool false, .int .i64 (-1), .int .i64 (-1), .int .i32 113]] rfl (by (try simp only [List.map_toArray, List.map_cons, List.map_nil]); first | done | rfl | (simp only [List.length_drop, List.length_take]; rfl)) ?_; (with_reducible refine (quote_Text.calls k (⟨#[195, 169]⟩ : ByteArray) true false false false false (-1) (-1) 113 t178 true _ (by (try refine Aside0.mk ?_); first | exact hOK.out | exact (hOK.out).drewN _ | (refine (hOK.out).later ?_; (repeat (first | (with_reducible first | exact HB.out | apply below_alloc | apply pw_below_drewN | apply below_drew1) | exact HB.out))) | (refine Ok.drewN ?_ _; exact hOK.out)) A1.out).mono ?_); rintro e w5 ⟨rfl, hb⟩; refine ⟨_, rfl, ?_⟩; have n0_ := Aside0.mk (below_step (by repeat (first | (with_reducible first | exact HB.out | apply below_alloc | apply pw_below_drewN | apply below_drew1) | exact HB.out)) hb); clear HB; have HB := n0_; clear n0_; (try clear hb); (try clear hb2); (try clear hk); (try clear hi)) | ((with_reducible refine gate_callee (f := 12) rfl ?_); refine goesL_ (some 11) rfl rfl Tryd.func12 (by kernel_rfl) rfl #[.string (⟨#[34, 92, 120, 54, 49, 34]⟩ : ByteArray)] rfl (by (try simp only [List.map_toArray, List.map_cons, List.map_nil]); first | done | rfl | (simp only [List.length_drop, List.length_take]; rfl)) ?_; (with_reducible refine (quote_Unquote.calls (⟨#[34, 92, 120, 54, 49, 34]⟩ : ByteArray) t180 true _ (by (try refine Aside0.mk ?_); first | exact hOK.out | exact (hOK.out).drewN _ | (refine (hOK.out).later ?_; (repeat (first | (with_reducible first | exact HB.out | apply below_alloc | apply pw_below_drewN | apply below_drew1) | exact HB.out))) | (refine Ok.drewN ?_ _; exact hOK.out)) A2.out).mono ?_); rintro e w6 ⟨rfl, hb⟩; refine ⟨_, rfl, ?_⟩; have n0_ := Aside0.mk (below_step (by repeat (first | (with_reducible first | exact HB.out | apply below_alloc | apply pw_below_drewN | apply below_drew1) | exact HB.out)) hb); clear HB; have HB := n0_; clear n0_; (try clear hb); (try clear hb2); (try clear hk); (try clear hi)))
   go_ret
   exact ⟨by first | rfl | (simp [errW_none, errW_some] <;> rfl) | (simp [*, errW_none, errW_some] <;> rfl), by repeat (first | (with_reducible first | exact HB.out | apply below_alloc | apply pw_below_drewN | apply below_drew1) | exact HB.out)⟩
  ·
   replace c4 := Bool.eq_false_iff.mpr c4
   subst c4
   have H1 : (if t178.toList = ([34, 92, 117, 48, 48, 101, 57, 34] : List UInt8) then ((quote_Quote.f (⟨#[255]⟩ : ByteArray) false).bind fun t182 => (if t182.toList = ([34, 92, 120, 102, 102, 34] : List UInt8) then ((quote_Hex.f k (⟨#[97, 98]⟩ : ByteArray) false false true true false (-1) (-1) 120).bind fun t183 => (some (t183.toList == ([48, 120, 54, 49, 32, 48, 120, 54, 50] : List UInt8)))) else (some false))) else (some false)) = some r := by rw [if_neg (show ¬ (false = true) by decide)] at H; exact H
   clear H
   have H := H1
   clear H1
   by_cases c7 : t178.toList = ([34, 92, 117, 48, 48, 101, 57, 34] : List UInt8)
   ·
    rw [if_pos c7] at H
    have c7b0 : (t178.toList == ([34, 92, 117, 48, 48, 101, 57, 34] : List UInt8)) = true := beq_iff_eq.mpr c7
    have c7b1 : (t178.toList != ([34, 92, 117, 48, 48, 101, 57, 34] : List UInt8)) = false := bne_eq_false_iff_eq.mpr c7
    clear c7
    replace H := Option.bind_eq_some_iff.mp H
    obtain ⟨t182, A80, H⟩ := H
    replace H : (if t182.toList = ([34, 92, 120, 102, 102, 34] : List UInt8) then ((quote_Hex.f k (⟨#[97, 98]⟩ : ByteArray) false false true true false (-1) (-1) 120).bind fun t183 => (some (t183.toList == ([48, 120, 54, 49, 32, 48, 120, 54, 50] : List UInt8)))) else (some false)) = some r := H
    have A8 := Aside0.mk A80
    clear A80
    by_cases c9 : t182.toList = ([34, 92, 120, 102, 102, 34] : List UInt8)
    ·
     rw [if_pos c9] at H
     have c9b0 : (t182.toList == ([34, 92, 120, 102, 102, 34] : List UInt8)) = true := beq_iff_eq.mpr c9
     have c9b1 : (t182.toList != ([34, 92, 120, 102, 102, 34] : List UInt8)) = false := bne_eq_false_iff_eq.mpr c9
     clear c9
     replace H := Option.bind_eq_some_iff.mp H
     obtain ⟨t183, A100, H⟩ := H
     replace H : (some (t183.toList == ([48, 120, 54, 49, 32, 48, 120, 54, 50] : List UInt8))) = some r := H
     have A10 := Aside0.mk A100
     clear A100
     obtain rfl := Option.some.inj H
     go_enter Tryd.func14, Tryd.ntmps14
     go_wp2_with (first | ((with_reducible refine gate_callee (f := 17) rfl ?_); refine goesL_ (some 7) rfl rfl Tryd.func17 (by kernel_rfl) rfl #[.string (⟨#[195, 169]⟩ : ByteArray), .agg #[.bool true, .bool false, .bool false, .bool false, .bool false, .int .i64 (-1), .int .i64 (-1), .int .i32 113]] rfl (by (try simp only [List.map_toArray, List.map_cons, List.map_nil]); first | done | rfl | (simp only [List.length_drop, List.length_take]; rfl)) ?_; (with_reducible refine (quote_Text.calls k (⟨#[195, 169]⟩ : ByteArray) true false false false false (-1) (-1) 113 t178 true _ (by (try refine Aside0.mk ?_); first | exact hOK.out | exact (hOK.out).drewN _ | (refine (hOK.out).later ?_; (repeat (first | (with_reducible first | exact HB.out | apply below_alloc | apply pw_below_drewN | apply below_drew1) | exact HB.out))) | (refine Ok.drewN ?_ _; exact hOK.out)) A1.out).mono ?_); rintro e w11 ⟨rfl, hb⟩; refine ⟨_, rfl, ?_⟩; have n0_ := Aside0.mk (below_step (by repeat (first | (with_reducible first | exact HB.out | apply below_alloc | apply pw_below_drewN | apply below_drew1) | exact HB.out)) hb); clear HB; have HB := n0_; clear n0_; (try clear hb); (try clear hb2); (try clear hk); (try clear hi)) | ((with_reducible refine gate_callee (f := 12) rfl ?_); refine goesL_ (some 11) rfl rfl Tryd.func12 (by kernel_rfl) rfl #[.string (⟨#[34, 92, 120, 54, 49, 34]⟩ : ByteArray)] rfl (by (try simp only [List.map_toArray, List.map_cons, List.map_nil]); first | done | rfl | (simp only [List.length_drop, List.length_take]; rfl)) ?_; (with_reducible refine (quote_Unquote.calls (⟨#[34, 92, 120, 54, 49, 34]⟩ : ByteArray) t180 false _ (by (try refine Aside0.mk ?_); first | exact hOK.out | exact (hOK.out).drewN _ | (refine (hOK.out).later ?_; (repeat (first | (with_reducible first | exact HB.out | apply below_alloc | apply pw_below_drewN | apply below_drew1) | exact HB.out))) | (refine Ok.drewN ?_ _; exact hOK.out)) A2.out).mono ?_); rintro e w12 ⟨rfl, hb⟩; refine ⟨_, rfl, ?_⟩; have n0_ := Aside0.mk (below_step (by repeat (first | (with_reducible first | exact HB.out | apply below_alloc | apply pw_below_drewN | apply below_drew1) | exact HB.out)) hb); clear HB; have HB := n0_; clear n0_; (try clear hb); (try clear hb2); (try clear hk); (try clear hi)) | (go_at_call 19; (with_reducible refine (quote_Quote.calls (⟨#[255]⟩ : ByteArray) false t182 _ (by (try refine Aside0.mk ?_); first | exact hOK.out | exact (hOK.out).drewN _ | (refine (hOK.out).later ?_; (repeat (first | (with_reducible first | exact HB.out | apply below_alloc | apply pw_below_drewN | apply below_drew1) | exact HB.out))) | (refine Ok.drewN ?_ _; exact hOK.out)) A8.out).mono ?_); rintro e w13 ⟨rfl, hb⟩; have n0_ := Aside0.mk (below_step (by repeat (first | (with_reducible first | exact HB.out | apply below_alloc | apply pw_below_drewN | apply below_drew1) | exact HB.out)) hb); clear HB; have HB := n0_; clear n0_; (try clear hb); (try clear hb2); (try clear hk); (try clear hi)) | (go_at_call 15; (with_reducible refine (quote_Hex.calls k (⟨#[97, 98]⟩ : ByteArray) false false true true false (-1) (-1) 120 t183 _ A10.out).mono ?_); rintro e w14 ⟨rfl, hb⟩; have n0_ := Aside0.mk (below_step (by repeat (first | (with_reducible first | exact HB.out | apply below_alloc | apply pw_below_drewN | apply below_drew1) | exact HB.out)) hb); clear HB; have HB := n0_; clear n0_; (try clear hb); (try clear hb2); (try clear hk); (try clear hi)))
     go_ret
     exact ⟨by first | rfl | (simp [errW_none, errW_some] <;> rfl) | (simp [*, errW_none, errW_some] <;> rfl), by repeat (first | (with_reducible first | exact HB.out | apply below_alloc | apply pw_below_drewN | apply below_drew1) | exact HB.out)⟩
    ·
     rw [if_neg c9] at H
     have c9b0 : (t182.toList == ([34, 92, 120, 102, 102, 34] : List UInt8)) = false := beq_eq_false_iff_ne.mpr c9
     have c9b1 : (t182.toList != ([34, 92, 120, 102, 102, 34] : List UInt8)) = true := bne_iff_ne.mpr c9
     obtain rfl := Option.some.inj H
     go_enter Tryd.func14, Tryd.ntmps14
     go_wp2_with (first | ((with_reducible refine gate_callee (f := 17) rfl ?_); refine goesL_ (some 7) rfl rfl Tryd.func17 (by kernel_rfl) rfl #[.string (⟨#[195, 169]⟩ : ByteArray), .agg #[.bool true, .bool false, .bool false, .bool false, .bool false, .int .i64 (-1), .int .i64 (-1), .int .i32 113]] rfl (by (try simp only [List.map_toArray, List.map_cons, List.map_nil]); first | done | rfl | (simp only [List.length_drop, List.length_take]; rfl)) ?_; (with_reducible refine (quote_Text.calls k (⟨#[195, 169]⟩ : ByteArray) true false false false false (-1) (-1) 113 t178 true _ (by (try refine Aside0.mk ?_); first | exact hOK.out | exact (hOK.out).drewN _ | (refine (hOK.out).later ?_; (repeat (first | (with_reducible first | exact HB.out | apply below_alloc | apply pw_below_drewN | apply below_drew1) | exact HB.out))) | (refine Ok.drewN ?_ _; exact hOK.out)) A1.out).mono ?_); rintro e w15 ⟨rfl, hb⟩; refine ⟨_, rfl, ?_⟩; have n0_ := Aside0.mk (below_step (by repeat (first | (with_reducible first | exact HB.out | apply below_alloc | apply pw_below_drewN | apply below_drew1) | exact HB.out)) hb); clear HB; have HB := n0_; clear n0_; (try clear hb); (try clear hb2); (try clear hk); (try clear hi)) | ((with_reducible refine gate_callee (f := 12) rfl ?_); refine goesL_ (some 11) rfl rfl Tryd.func12 (by kernel_rfl) rfl #[.string (⟨#[34, 92, 120, 54, 49, 34]⟩ : ByteArray)] rfl (by (try simp only [List.map_toArray, List.map_cons, List.map_nil]); first | done | rfl | (simp only [List.length_drop, List.length_take]; rfl)) ?_; (with_reducible refine (quote_Unquote.calls (⟨#[34, 92, 120, 54, 49, 34]⟩ : ByteArray) t180 false _ (by (try refine Aside0.mk ?_); first | exact hOK.out | exact (hOK.out).drewN _ | (refine (hOK.out).later ?_; (repeat (first | (with_reducible first | exact HB.out | apply below_alloc | apply pw_below_drewN | apply below_drew1) | exact HB.out))) | (refine Ok.drewN ?_ _; exact hOK.out)) A2.out).mono ?_); rintro e w16 ⟨rfl, hb⟩; refine ⟨_, rfl, ?_⟩; have n0_ := Aside0.mk (below_step (by repeat (first | (with_reducible first | exact HB.out | apply below_alloc | apply pw_below_drewN | apply below_drew1) | exact HB.out)) hb); clear HB; have HB := n0_; clear n0_; (try clear hb); (try clear hb2); (try clear hk); (try clear hi)) | (go_at_call 19; (with_reducible refine (quote_Quote.calls (⟨#[255]⟩ : ByteArray) false t182 _ (by (try refine Aside0.mk ?_); first | exact hOK.out | exact (hOK.out).drewN _ | (refine (hOK.out).later ?_; (repeat (first | (with_reducible first | exact HB.out | apply below_alloc | apply pw_below_drewN | apply below_drew1) | exact HB.out))) | (refine Ok.drewN ?_ _; exact hOK.out)) A8.out).mono ?_); rintro e w17 ⟨rfl, hb⟩; have n0_ := Aside0.mk (below_step (by repeat (first | (with_reducible first | exact HB.out | apply below_alloc | apply pw_below_drewN | apply below_drew1) | exact HB.out)) hb); clear HB; have HB := n0_; clear n0_; (try clear hb); (try clear hb2); (try clear hk); (try clear hi)))
     go_ret
     exact ⟨by first | rfl | (simp [errW_none, errW_some] <;> rfl) | (simp [*, errW_none, errW_some] <;> rfl), by repeat (first | (with_reducible first | exact HB.out | apply below_alloc | apply pw_below_drewN | apply below_drew1) | exact HB.out)⟩
   ·
    rw [if_neg c7] at H
    have c7b0 : (t178.toList == ([34, 92, 117, 48, 48, 101, 57, 34] : List UInt8)) = false := beq_eq_false_iff_ne.mpr c7
    have c7b1 : (t178.toList != ([34, 92, 117, 48, 48, 101, 57, 34] : List UInt8)) = true := bne_iff_ne.mpr c7
    obtain rfl := Option.some.inj H
    go_enter Tryd.func14, Tryd.ntmps14
    go_wp2_with (first | ((with_reducible refine gate_callee (f := 17) rfl ?_); refine goesL_ (some 7) rfl rfl Tryd.func17 (by kernel_rfl) rfl #[.string (⟨#[195, 169]⟩ : ByteArray), .agg #[.bool true, .bool false, .bool false, .bool false, .bool false, .int .i64 (-1), .int .i64 (-1), .int .i32 113]] rfl (by (try simp only [List.map_toArray, List.map_cons, List.map_nil]); first | done | rfl | (simp only [List.length_drop, List.length_take]; rfl)) ?_; (with_reducible refine (quote_Text.calls k (⟨#[195, 169]⟩ : ByteArray) true false false false false (-1) (-1) 113 t178 true _ (by (try refine Aside0.mk ?_); first | exact hOK.out | exact (hOK.out).drewN _ | (refine (hOK.out).later ?_; (repeat (first | (with_reducible first | exact HB.out | apply below_alloc | apply pw_below_drewN | apply below_drew1) | exact HB.out))) | (refine Ok.drewN ?_ _; exact hOK.out)) A1.out).mono ?_); rintro e w18 ⟨rfl, hb⟩; refine ⟨_, rfl, ?_⟩; have n0_ := Aside0.mk (below_step (by repeat (first | (with_reducible first | exact HB.out | apply below_alloc | apply pw_below_drewN | apply below_drew1) | exact HB.out)) hb); clear HB; have HB := n0_; clear n0_; (try clear hb); (try clear hb2); (try clear hk); (try clear hi)) | ((with_reducible refine gate_callee (f := 12) rfl ?_); refine goesL_ (some 11) rfl rfl Tryd.func12 (by kernel_rfl) rfl #[.string (⟨#[34, 92, 120, 54, 49, 34]⟩ : ByteArray)] rfl (by (try simp only [List.map_toArray, List.map_cons, List.map_nil]); first | done | rfl | (simp only [List.length_drop, List.length_take]; rfl)) ?_; (with_reducible refine (quote_Unquote.calls (⟨#[34, 92, 120, 54, 49, 34]⟩ : ByteArray) t180 false _ (by (try refine Aside0.mk ?_); first | exact hOK.out | exact (hOK.out).drewN _ | (refine (hOK.out).later ?_; (repeat (first | (with_reducible first | exact HB.out | apply below_alloc | apply pw_below_drewN | apply below_drew1) | exact HB.out))) | (refine Ok.drewN ?_ _; exact hOK.out)) A2.out).mono ?_); rintro e w19 ⟨rfl, hb⟩; refine ⟨_, rfl, ?_⟩; have n0_ := Aside0.mk (below_step (by repeat (first | (with_reducible first | exact HB.out | apply below_alloc | apply pw_below_drewN | apply below_drew1) | exact HB.out)) hb); clear HB; have HB := n0_; clear n0_; (try clear hb); (try clear hb2); (try clear hk); (try clear hi)))
    go_ret
    exact ⟨by first | rfl | (simp [errW_none, errW_some] <;> rfl) | (simp [*, errW_none, errW_some] <;> rfl), by repeat (first | (with_reducible first | exact HB.out | apply below_alloc | apply pw_below_drewN | apply below_drew1) | exact HB.out)⟩
 ·
  replace c3 := Bool.eq_false_iff.mpr c3
  subst c3
  have H1 : (some false) = some r := by rw [if_neg (show ¬ (false = true) by decide)] at H; exact H
  clear H
  have H := H1
  clear H1
  obtain rfl := Option.some.inj H
  go_enter Tryd.func14, Tryd.ntmps14
  go_wp2_with (first | ((with_reducible refine gate_callee (f := 17) rfl ?_); refine goesL_ (some 7) rfl rfl Tryd.func17 (by kernel_rfl) rfl #[.string (⟨#[195, 169]⟩ : ByteArray), .agg #[.bool true, .bool false, .bool false, .bool false, .bool false, .int .i64 (-1), .int .i64 (-1), .int .i32 113]] rfl (by (try simp only [List.map_toArray, List.map_cons, List.map_nil]); first | done | rfl | (simp only [List.length_drop, List.length_take]; rfl)) ?_; (with_reducible refine (quote_Text.calls k (⟨#[195, 169]⟩ : ByteArray) true false false false false (-1) (-1) 113 t178 false _ (by (try refine Aside0.mk ?_); first | exact hOK.out | exact (hOK.out).drewN _ | (refine (hOK.out).later ?_; (repeat (first | (with_reducible first | exact HB.out | apply below_alloc | apply pw_below_drewN | apply below_drew1) | exact HB.out))) | (refine Ok.drewN ?_ _; exact hOK.out)) A1.out).mono ?_); rintro e w20 ⟨rfl, hb⟩; refine ⟨_, rfl, ?_⟩; have n0_ := Aside0.mk (below_step (by repeat (first | (with_reducible first | exact HB.out | apply below_alloc | apply pw_below_drewN | apply below_drew1) | exact HB.out)) hb); clear HB; have HB := n0_; clear n0_; (try clear hb); (try clear hb2); (try clear hk); (try clear hi)) | ((with_reducible refine gate_callee (f := 12) rfl ?_); refine goesL_ (some 11) rfl rfl Tryd.func12 (by kernel_rfl) rfl #[.string (⟨#[34, 92, 120, 54, 49, 34]⟩ : ByteArray)] rfl (by (try simp only [List.map_toArray, List.map_cons, List.map_nil]); first | done | rfl | (simp only [List.length_drop, List.length_take]; rfl)) ?_; (with_reducible refine (quote_Unquote.calls (⟨#[34, 92, 120, 54, 49, 34]⟩ : ByteArray) t180 t181 _ (by (try refine Aside0.mk ?_); first | exact hOK.out | exact (hOK.out).drewN _ | (refine (hOK.out).later ?_; (repeat (first | (with_reducible first | exact HB.out | apply below_alloc | apply pw_below_drewN | apply below_drew1) | exact HB.out))) | (refine Ok.drewN ?_ _; exact hOK.out)) A2.out).mono ?_); rintro e w21 ⟨rfl, hb⟩; refine ⟨_, rfl, ?_⟩; have n0_ := Aside0.mk (below_step (by repeat (first | (with_reducible first | exact HB.out | apply below_alloc | apply pw_below_drewN | apply below_drew1) | exact HB.out)) hb); clear HB; have HB := n0_; clear n0_; (try clear hb); (try clear hb2); (try clear hk); (try clear hi)))
  go_ret
  exact ⟨by first | rfl | (simp [errW_none, errW_some] <;> rfl) | (simp [*, errW_none, errW_some] <;> rfl), by repeat (first | (with_reducible first | exact HB.out | apply below_alloc | apply pw_below_drewN | apply below_drew1) | exact HB.out)⟩
end Go.Proofs.YtcoippikicikoaaDoor.PQGen
namespace Go.Proofs.YtcoippikicikoaaDoor.PQGen
open Go.RowKit Go.Proofs.YtcoippikicikoaaDoorW.PrintWords Go.Proofs.YtcoippikicikoaaDoorW.PrintLast Go.Proofs.YtcoippikicikoaaDoorW.PrintMore
attribute [local go_sem] max2_int min2_int max_two min_two
set_option linter.unusedVariables false
set_option linter.unusedSimpArgs false
end Go.Proofs.YtcoippikicikoaaDoor.PQGen
namespace Go.Proofs.YtcoippikicikoaaDoor.PQGen
open Go.RowKit Go.Proofs.YtcoippikicikoaaDoorW.PrintWords Go.Proofs.YtcoippikicikoaaDoorW.PrintLast Go.Proofs.YtcoippikicikoaaDoorW.PrintMore
attribute [local go_sem] max2_int min2_int max_two min_two
set_option linter.unusedVariables false
set_option linter.unusedSimpArgs false
end Go.Proofs.YtcoippikicikoaaDoor.PQGen
namespace Go.Proofs.YtcoippikicikoaaDoor.PQChars
open Go.RowKit Go.Proofs.YtcoippikicikoaaDoorW.PrintWords Go.Proofs.YtcoippikicikoaaDoorW.PrintLast Go.Proofs.YtcoippikicikoaaDoorW.PrintMore
attribute [local go_sem] max2_int min2_int max_two min_two
set_option linter.unusedVariables false
set_option linter.unusedSimpArgs false
def errW : Option Int → Value
 | none => .nilIface
 | some c => .iface 0 (.int .i64 c)
theorem errW_none : errW none = .nilIface := rfl
theorem errW_some (c : Int) : errW (some c) = .iface 0 (.int .i64 c) := rfl
end Go.Proofs.YtcoippikicikoaaDoor.PQChars
namespace Go.Proofs.YtcoippikicikoaaDoor.PQChars
open Go.RowKit Go.Proofs.YtcoippikicikoaaDoorW.PrintWords Go.Proofs.YtcoippikicikoaaDoorW.PrintLast Go.Proofs.YtcoippikicikoaaDoorW.PrintMore
attribute [local go_sem] max2_int min2_int max_two min_two
set_option linter.unusedVariables false
set_option linter.unusedSimpArgs false
end Go.Proofs.YtcoippikicikoaaDoor.PQChars
namespace Go.Proofs.YtcoippikicikoaaDoor.PQChars
open Go.RowKit Go.Proofs.YtcoippikicikoaaDoorW.PrintWords Go.Proofs.YtcoippikicikoaaDoorW.PrintLast Go.Proofs.YtcoippikicikoaaDoorW.PrintMore
attribute [local go_sem] max2_int min2_int max_two min_two
set_option linter.unusedVariables false
set_option linter.unusedSimpArgs false
end Go.Proofs.YtcoippikicikoaaDoor.PQChars
namespace Go.Proofs.YtcoippikicikoaaDoor
open Go.RowKit Go.Proofs.YtcoippikicikoaaDoorW.PrintWords Go.Proofs.YtcoippikicikoaaDoorW.PrintMore Go.Proofs.YtcoippikicikoaaDoor.PQRef
open Go.Proofs.YtcoippikicikoaaDoor.PQPut (quote_put.f quote_escape.f)
theorem lives_a : PQGen.platenlaw02_lives.f 100 = some true := by decide +kernel
theorem lives_f (k : Nat) : PQGen.platenlaw02_lives.f (k + 100) = some true :=
  at_rounds (fun k => PQGen.platenlaw02_lives.mono k) (Nat.le_add_left 100 k) lives_a
theorem putL_length (c q : Nat) (asc : Bool) : 1 ≤ (putL c q asc).length ∧ (putL c q asc).length ≤ 10 := by
  have := enc_length (c : Int)
  unfold putL
  repeat' split
  all_goals first | exact ⟨by omega, by omega⟩ | (simp [hexL_length])
end Go.Proofs.YtcoippikicikoaaDoor
namespace Go.Proofs.YtcoippikicikoaaDoor
open Go.RowKit Go.Proofs.YtcoippikicikoaaDoorW.PrintWords Go.Proofs.YtcoippikicikoaaDoorW.PrintMore Go.Proofs.YtcoippikicikoaaDoor.PQRef
open Go.Proofs.YtcoippikicikoaaDoor.PQPut (quote_put.f quote_escape.f)
theorem decN_small (n b0 b1 b2 b3 : Nat) : (Lib.decodeN n b0 b1 b2 b3).1 ≤ 1114111 := by
  unfold Lib.decodeN
  repeat' split
  all_goals simp only []
  all_goals omega
theorem dec_small (s : ByteArray) (p : Nat) : (Utf8.decode s p).1 ≤ 1114111 := by
  rw [Lib.decode_at]; exact decN_small _ _ _ _ _
def part (s : ByteArray) (asc : Bool) (p : Nat) : List UInt8 :=
  if (Utf8.decode s p).1 = 65533 ∧ (Utf8.decode s p).2 = 1 then [92, 120] ++ hexL 2 (s.get! p).toNat else putL (Utf8.decode s p).1 34 asc
theorem part_length (s : ByteArray) (asc : Bool) (p : Nat) : 1 ≤ (part s asc p).length ∧ (part s asc p).length ≤ 10 := by
  unfold part
  split
  · simp [hexL_length]
  · exact putL_length _ _ _
def qparts (s : ByteArray) (asc : Bool) : Nat → Nat → List UInt8
  | 0, _ => []
  | f + 1, p => if p < s.size then part s asc p ++ qparts s asc f (p + (Utf8.decode s p).2) else []
theorem part_f (s : ByteArray) (asc : Bool) (p : Nat) (l : List Int) (hl : l.length ≤ 10000000) :
    (if (Utf8.decode s p).1 = 65533 ∧ (Utf8.decode s p).2 = 1 then quote_escape.f 100 l 120 (bt s (p : Int)) 2 else quote_put.f 100 l ((Utf8.decode s p).1 : Int) 34 asc) = some (l ++ ints (part s asc p)) := by
  unfold part
  have hb : (s.get! p).toNat < 256 := bt_lt s p
  by_cases h : (Utf8.decode s p).1 = 65533 ∧ (Utf8.decode s p).2 = 1
  · rw [if_pos h, if_pos h, bt_get, show (120 : Int) = ((120 : Nat) : Int) from rfl, show (2 : Int) = ((2 : Nat) : Int) from rfl, escape_f 100 (by omega) _ 120 2 (by omega) l (by omega) (by omega) (by omega)]
    rfl
  · rw [if_neg h, if_neg h, show (34 : Int) = ((34 : Nat) : Int) from rfl, put_f _ 34 asc (dec_small s p) l hl]
theorem quoteGo_f (s : ByteArray) (asc : Bool) : ∀ (f p : Nat) (l : List Int), s.size ≤ p + f → l.length + 10 * f ≤ 10000000 → quoteGo s asc f p l = some (l ++ ints (qparts s asc f p)) := by
  intro f
  induction f with
  | zero =>
    intro p l h1 _
    rw [quoteGo_end _ _ _ _ _ (by omega)]
    simp [qparts, ints]
  | succ f ih =>
    intro p l h1 h2
    by_cases hp : p < s.size
    · have hw := dec_pos s p hp
      obtain ⟨l1, l2⟩ := part_length s asc p
      unfold quoteGo qparts
      rw [if_pos hp, if_pos hp, part_f s asc p l (by omega), Option.bind_some, ih _ _ (by omega) (by rw [List.length_append, ints_length]; omega), ints_append, List.append_assoc]
    · rw [quoteGo_end _ _ _ _ _ hp]
      unfold qparts
      rw [if_neg hp]
      simp [ints]
def quoteB (s : ByteArray) (asc : Bool) : List UInt8 := [34] ++ qparts s asc s.size 0 ++ [34]
theorem qparts_length (s : ByteArray) (asc : Bool) : ∀ f p, (qparts s asc f p).length ≤ 10 * f := by
  intro f
  induction f with
  | zero => intro p; simp [qparts]
  | succ f ih =>
    intro p
    unfold qparts
    split
    · have := part_length s asc p
      have := ih (p + (Utf8.decode s p).2)
      rw [List.length_append]; omega
    · simp
theorem Quote_f (s : ByteArray) (asc : Bool) (h : s.size ≤ 100000) : quote_Quote.f s asc = some (T (quoteB s asc)) := by
  have hq := qparts_length s asc s.size 0
  unfold quote_Quote.f
  rw [if_pos (by omega), quoteGo_f s asc s.size 0 [34] (by omega) (by simp; omega), Option.bind_some, if_pos (by rw [List.length_append, ints_length, List.length_singleton]; omega)]
  have := strOfNums_ints (quoteB s asc)
  unfold quoteB at this ⊢
  rw [← this, ints_append, ints_append]
  rfl
end Go.Proofs.YtcoippikicikoaaDoor
namespace Go.Proofs.YtcoippikicikoaaDoor
open Go.RowKit Go.Proofs.YtcoippikicikoaaDoorW.PrintWords Go.Proofs.YtcoippikicikoaaDoorW.PrintMore Go.Proofs.YtcoippikicikoaaDoor.PQRef
end Go.Proofs.YtcoippikicikoaaDoor
namespace Go.Proofs.YtcoippikicikoaaDoor
open Go.RowKit Go.Proofs.YtcoippikicikoaaDoorW.PrintWords Go.Proofs.YtcoippikicikoaaDoorW.PrintMore Go.Proofs.YtcoippikicikoaaDoor.PQRef
theorem getT (l : List UInt8) (i : Nat) : (T l).get! i = l.getD i 0 := by
  show (l.toArray)[i]! = _
  rw [Array.getElem!_eq_getD]
  simp [List.getD]
  rfl
theorem toNat_ofNat (x : Nat) (h : x < 256) : (UInt8.ofNat x).toNat = x := by rw [UInt8.toNat_ofNat']; omega
theorem extT (l : List UInt8) (i j : Nat) : (T l).extract i j = T ((l.take j).drop i) := by
  refine bytes_ext ?_
  rw [ByteArray.data_extract, Array.toList_extract, List.extract_eq_take_drop, List.drop_take]
theorem T_self (s : ByteArray) : T s.data.toList = s := bytes_ext rfl
theorem dec_le (s : ByteArray) (p : Nat) (hp : p < s.size) : p + (Utf8.decode s p).2 ≤ s.size := by
  have hsz := size_extract s p
  have e := dec_extract s p hp
  unfold Lib.decodeGo at e
  rw [if_neg (by omega)] at e
  have := decB_le (s.extract p s.size)
  unfold decB at this
  rw [if_neg (by omega), e] at this
  omega
theorem drop_take (l : List UInt8) (p w : Nat) : (l.drop p).take w ++ l.drop (p + w) = l.drop p := by
  rw [← List.drop_drop, List.take_append_drop]
theorem quoteB_length (s : ByteArray) (asc : Bool) : (quoteB s asc).length = (qparts s asc s.size 0).length + 2 := by
  unfold quoteB; simp
end Go.Proofs.YtcoippikicikoaaDoor
namespace Go.Proofs.YtcoippikicikoaaDoor.PQBack
open Go.RowKit Go.Proofs.YtcoippikicikoaaDoorW.PrintWords Go.Proofs.YtcoippikicikoaaDoorW.PrintLast Go.Proofs.YtcoippikicikoaaDoorW.PrintMore
attribute [local go_sem] max2_int min2_int max_two min_two
set_option linter.unusedVariables false
set_option linter.unusedSimpArgs false
def errW : Option Int → Value
 | none => .nilIface
 | some c => .iface 0 (.int .i64 c)
theorem errW_none : errW none = .nilIface := rfl
theorem errW_some (c : Int) : errW (some c) = .iface 0 (.int .i64 c) := rfl
end Go.Proofs.YtcoippikicikoaaDoor.PQBack
namespace Go.Proofs.YtcoippikicikoaaDoor.PQBack
open Go.RowKit Go.Proofs.YtcoippikicikoaaDoorW.PrintWords Go.Proofs.YtcoippikicikoaaDoorW.PrintLast Go.Proofs.YtcoippikicikoaaDoorW.PrintMore
attribute [local go_sem] max2_int min2_int max_two min_two
set_option linter.unusedVariables false
set_option linter.unusedSimpArgs false
end Go.Proofs.YtcoippikicikoaaDoor.PQBack
namespace Go.Proofs.YtcoippikicikoaaDoor.PQBack
open Go.RowKit Go.Proofs.YtcoippikicikoaaDoorW.PrintWords Go.Proofs.YtcoippikicikoaaDoorW.PrintLast Go.Proofs.YtcoippikicikoaaDoorW.PrintMore
attribute [local go_sem] max2_int min2_int max_two min_two
set_option linter.unusedVariables false
set_option linter.unusedSimpArgs false
end Go.Proofs.YtcoippikicikoaaDoor.PQBack
namespace Go.Proofs.YtcoippikicikoaaDoor
open Go.RowKit Go.Proofs.YtcoippikicikoaaDoorW.PrintWords Go.Proofs.YtcoippikicikoaaDoorW.PrintMore Go.Proofs.YtcoippikicikoaaDoor.PQRef
theorem quoteB_le (s : ByteArray) (asc : Bool) : (quoteB s asc).length ≤ 10 * s.size + 2 := by
  have := qparts_length s asc s.size 0
  rw [quoteB_length]; omega
theorem cut_f (a0 : ByteArray) : ∃ t, platenlaw02_cut.f a0 = some t ∧ t.size ≤ 1000 := by
  unfold platenlaw02_cut.f
  by_cases h : (a0.size : Int) > 1000
  · rw [if_pos h, if_pos (by omega), if_pos (by omega)]
    exact ⟨_, rfl, by rw [ByteArray.size_extract]; omega⟩
  · rw [if_neg h]
    exact ⟨a0, rfl, by omega⟩
theorem bnd2 (a b : Nat) (ha : a ≤ 100000) (hb : b ≤ 100000) : a + b ≤ 9223372036854775807 := by omega
theorem sz_app (a b : List UInt8) (ha : a.length ≤ 100000) (hb : b.length ≤ 100000) : (T a).size + (T b).size ≤ 9223372036854775807 := by
  rw [T_size, T_size]; exact bnd2 _ _ ha hb
theorem ofNat_ints (n : Nat) (h : n < 256) : strOfNums [(n : Int)] = T [UInt8.ofNat n] := by
  rw [← strOfNums_ints]
  simp only [ints, List.map_cons, List.map_nil]
  rw [toNat_ofNat n h]
end Go.Proofs.YtcoippikicikoaaDoor
namespace Go.Proofs.YtcoippikicikoaaDoor.PQReads
open Go.RowKit Go.Proofs.YtcoippikicikoaaDoorW.PrintWords Go.Proofs.YtcoippikicikoaaDoorW.PrintLast Go.Proofs.YtcoippikicikoaaDoorW.PrintMore
attribute [local go_sem] max2_int min2_int max_two min_two
set_option linter.unusedVariables false
set_option linter.unusedSimpArgs false
def errW : Option Int → Value
 | none => .nilIface
 | some c => .iface 0 (.int .i64 c)
theorem errW_none : errW none = .nilIface := rfl
theorem errW_some (c : Int) : errW (some c) = .iface 0 (.int .i64 c) := rfl
end Go.Proofs.YtcoippikicikoaaDoor.PQReads
namespace Go.Proofs.YtcoippikicikoaaDoor.PQReads
open Go.RowKit Go.Proofs.YtcoippikicikoaaDoorW.PrintWords Go.Proofs.YtcoippikicikoaaDoorW.PrintLast Go.Proofs.YtcoippikicikoaaDoorW.PrintMore
attribute [local go_sem] max2_int min2_int max_two min_two
set_option linter.unusedVariables false
set_option linter.unusedSimpArgs false
end Go.Proofs.YtcoippikicikoaaDoor.PQReads
namespace Go.Proofs.YtcoippikicikoaaDoor.PQReads
open Go.RowKit Go.Proofs.YtcoippikicikoaaDoorW.PrintWords Go.Proofs.YtcoippikicikoaaDoorW.PrintLast Go.Proofs.YtcoippikicikoaaDoorW.PrintMore
attribute [local go_sem] max2_int min2_int max_two min_two
set_option linter.unusedVariables false
set_option linter.unusedSimpArgs false
end Go.Proofs.YtcoippikicikoaaDoor.PQReads
namespace Go.Proofs.YtcoippikicikoaaDoor
open Go.RowKit Go.Proofs.YtcoippikicikoaaDoorW.PrintWords Go.Proofs.YtcoippikicikoaaDoorW.PrintMore Go.Proofs.YtcoippikicikoaaDoor.PQRef
end Go.Proofs.YtcoippikicikoaaDoor
namespace Go.Proofs.YtcoippikicikoaaDoor
open Go.RowKit Go.Proofs.YtcoippikicikoaaDoorW.PrintWords Go.Proofs.YtcoippikicikoaaDoorW.PrintMore Go.Proofs.YtcoippikicikoaaDoor.PQRef
end Go.Proofs.YtcoippikicikoaaDoor
namespace Go.Proofs.YtcoippikicikoaaDoor
open Go.RowKit Go.Proofs.YtcoippikicikoaaDoorW.PrintWords Go.Proofs.YtcoippikicikoaaDoorW.PrintMore Go.Proofs.YtcoippikicikoaaDoor.PQRef
end Go.Proofs.YtcoippikicikoaaDoor
namespace Go.Proofs.YtcoippikicikoaaDoor
open Go.RowKit Go.Proofs.YtcoippikicikoaaDoorW.PrintWords Go.Proofs.YtcoippikicikoaaDoorW.PrintMore Go.Proofs.YtcoippikicikoaaDoor.PQRef
def fillL (c : UInt8) (n : Nat) : List UInt8 := List.replicate n c
theorem fillL_length (c : UInt8) (n : Nat) : (fillL c n).length = n := List.length_replicate
def lacksN (wid : Int) (n : Nat) : Nat := (min wid 1000).toNat - n
def padL (x : List UInt8) (minus zero : Bool) (wid : Int) : List UInt8 :=
  if lacksN wid (Lib.runeCount (T x)) = 0 then x
  else if minus = true then x ++ fillL 32 (lacksN wid (Lib.runeCount (T x)))
  else if zero = true then fillL 48 (lacksN wid (Lib.runeCount (T x))) ++ x
  else fillL 32 (lacksN wid (Lib.runeCount (T x))) ++ x
theorem padL_length (x : List UInt8) (minus zero : Bool) (wid : Int) : (padL x minus zero wid).length ≤ x.length + 1000 := by
  have h : lacksN wid (Lib.runeCount (T x)) ≤ 1000 := by unfold lacksN; omega
  unfold padL
  repeat' split
  all_goals (try rw [List.length_append, fillL_length])
  all_goals omega
theorem bufFill_f (c : Nat) (n : Nat) (hc : c < 256) (hn : n ≤ 1000) : PQGen.buf_Fill.f (c : Int) (n : Int) = some (T (fillL (UInt8.ofNat c) n)) := by
  have e1 : mx 0 (mn (n : Int) 1000) = (n : Int) := by unfold mx mn; (repeat' split) <;> omega
  unfold PQGen.buf_Fill.f strings_Repeat.f
  rw [e1, ofNat_ints c hc, Int.toNat_natCast]
  have sz : (T [UInt8.ofNat c]).size = 1 := T_size _
  rw [if_pos ⟨by omega, by omega, by rw [sz]; omega⟩, Option.bind_some]
  unfold repB fillL
  have := Lib.repeatL_replicate (UInt8.ofNat c) 1 n
  rw [Nat.mul_one] at this
  exact congrArg (fun l => some (T l)) this
theorem bufPad_f (x : List UInt8) (b0 minus b2 b3 zero : Bool) (wid p v : Int) (hx : x.length ≤ 100000) :
    PQGen.buf_Pad.f (T x) b0 minus b2 b3 zero wid p v = some (T (padL x minus zero wid)) := by
  have hsz : (T x).size = x.length := T_size x
  have hc := Lib.runeCount_le (T x)
  unfold PQGen.buf_Pad.f buf_Count.f
  rw [if_pos (by omega), Option.bind_some]
  unfold padL
  generalize Lib.runeCount (T x) = N at hc ⊢
  have hm : mx 0 (mn wid 1000) = (((min wid 1000).toNat : Nat) : Int) := by unfold mx mn; (repeat' split) <;> omega
  have hle : (min wid 1000).toNat ≤ 1000 := by omega
  rw [hm]
  unfold lacksN
  generalize (min wid 1000).toNat = M at hle ⊢
  rw [wrap64_id (by omega) (by omega)]
  by_cases h0 : M - N = 0
  · rw [if_pos (by omega), if_pos h0]
  · have e : ((M : Int) - (N : Int)) = ((M - N : Nat) : Int) := by omega
    have f32 := bufFill_f 32 (M - N) (by omega) (by omega)
    have f48 := bufFill_f 48 (M - N) (by omega) (by omega)
    rw [if_neg (by omega), if_neg h0, e]
    have s1 := sz_app x (fillL 32 (M - N)) (by omega) (by rw [fillL_length]; omega)
    have s2 := sz_app (fillL 48 (M - N)) x (by rw [fillL_length]; omega) (by omega)
    have s3 := sz_app (fillL 32 (M - N)) x (by rw [fillL_length]; omega) (by omega)
    rw [show (32 : Int) = ((32 : Nat) : Int) from rfl, show (48 : Int) = ((48 : Nat) : Int) from rfl, f32, f48, Option.bind_some, Option.bind_some, Option.bind_some]
    cases minus with
    | true => rw [if_pos rfl, if_pos rfl]; exact (if_pos s1).trans (by rw [← T_append]; rfl)
    | false =>
      rw [if_neg Bool.false_ne_true, if_neg Bool.false_ne_true]
      cases zero with
      | true => rw [if_pos rfl, if_pos rfl]; exact (if_pos s2).trans (by rw [← T_append]; rfl)
      | false => rw [if_neg Bool.false_ne_true, if_neg Bool.false_ne_true]; exact (if_pos s3).trans (by rw [← T_append]; rfl)
end Go.Proofs.YtcoippikicikoaaDoor
namespace Go.Proofs.YtcoippikicikoaaDoor.PQHexes
open Go.RowKit Go.Proofs.YtcoippikicikoaaDoorW.PrintWords Go.Proofs.YtcoippikicikoaaDoorW.PrintLast Go.Proofs.YtcoippikicikoaaDoorW.PrintMore
attribute [local go_sem] max2_int min2_int max_two min_two
set_option linter.unusedVariables false
set_option linter.unusedSimpArgs false
def errW : Option Int → Value
 | none => .nilIface
 | some c => .iface 0 (.int .i64 c)
theorem errW_none : errW none = .nilIface := rfl
theorem errW_some (c : Int) : errW (some c) = .iface 0 (.int .i64 c) := rfl
end Go.Proofs.YtcoippikicikoaaDoor.PQHexes
namespace Go.Proofs.YtcoippikicikoaaDoor.PQHexes
open Go.RowKit Go.Proofs.YtcoippikicikoaaDoorW.PrintWords Go.Proofs.YtcoippikicikoaaDoorW.PrintLast Go.Proofs.YtcoippikicikoaaDoorW.PrintMore
attribute [local go_sem] max2_int min2_int max_two min_two
set_option linter.unusedVariables false
set_option linter.unusedSimpArgs false
end Go.Proofs.YtcoippikicikoaaDoor.PQHexes
namespace Go.Proofs.YtcoippikicikoaaDoor.PQHexes
open Go.RowKit Go.Proofs.YtcoippikicikoaaDoorW.PrintWords Go.Proofs.YtcoippikicikoaaDoorW.PrintLast Go.Proofs.YtcoippikicikoaaDoorW.PrintMore
attribute [local go_sem] max2_int min2_int max_two min_two
set_option linter.unusedVariables false
set_option linter.unusedSimpArgs false
end Go.Proofs.YtcoippikicikoaaDoor.PQHexes
namespace Go.Proofs.YtcoippikicikoaaDoor
open Go.RowKit Go.Proofs.YtcoippikicikoaaDoorW.PrintWords Go.Proofs.YtcoippikicikoaaDoorW.PrintMore Go.Proofs.YtcoippikicikoaaDoor.PQRef
def hxg (g : Bool) (d : Nat) : UInt8 := UInt8.ofNat (if d < 10 then 48 + d else if g = true then 55 + d else 87 + d)
def markL (g sh : Bool) : List UInt8 := if sh = true then (if g = true then [48, 88] else [48, 120]) else []
def hexAt (s : ByteArray) (g sp sh : Bool) (i : Nat) : List UInt8 :=
  (if sp = true ∧ 0 < i then [32] else []) ++ (if sp = true ∨ i = 0 then markL g sh else []) ++ [hxg g ((s.get! i).toNat / 16), hxg g ((s.get! i).toNat % 16)]
def hexT (s : ByteArray) (g sp sh : Bool) : Nat → Nat → List UInt8
  | 0, _ => []
  | n + 1, i => if i < s.size then hexAt s g sp sh i ++ hexT s g sp sh n (i + 1) else []
theorem markL_length (g sh : Bool) : (markL g sh).length ≤ 2 := by cases g <;> cases sh <;> decide
theorem hexAt_length (s : ByteArray) (g sp sh : Bool) (i : Nat) : (hexAt s g sp sh i).length ≤ 5 ∧ 2 ≤ (hexAt s g sp sh i).length := by
  have := markL_length g sh
  unfold hexAt
  repeat' split
  all_goals simp
  all_goals omega
theorem hexT_length (s : ByteArray) (g sp sh : Bool) : ∀ n i, (hexT s g sp sh n i).length ≤ 5 * n := by
  intro n
  induction n with
  | zero => intro i; simp [hexT]
  | succ n ih =>
    intro i
    unfold hexT
    split
    · have := hexAt_length s g sp sh i
      have := ih (i + 1)
      rw [List.length_append]; omega
    · simp
def digB (g : Bool) : ByteArray := if g = true then ⟨#[48, 49, 50, 51, 52, 53, 54, 55, 56, 57, 65, 66, 67, 68, 69, 70]⟩ else ⟨#[48, 49, 50, 51, 52, 53, 54, 55, 56, 57, 97, 98, 99, 100, 101, 102]⟩
theorem digB_size (g : Bool) : (digB g).size = 16 := by cases g <;> rfl
theorem digB_bt (g : Bool) (d : Nat) (h : d < 16) : bt (digB g) (d : Int) = ((hxg g d).toNat : Int) := by
  have : ∀ g : Bool, ∀ d : Fin 16, bt (digB g) ((d.val : Nat) : Int) = ((hxg g d.val).toNat : Int) := by decide
  exact this g ⟨d, h⟩
theorem bytesOf_T (l : List UInt8) : bytesOf (T l) = ints l := rfl
theorem extT1 (n : Nat) (a b : List UInt8) (h : a.length = n) : (T (a ++ b)).extract n (T (a ++ b)).size = T b := by
  rw [extT, T_size, List.take_length, ← h, List.drop_left]
theorem padL_none (x : List UInt8) (minus zero : Bool) : padL x minus zero (-1) = x := by
  have h : ∀ n, lacksN (-1) n = 0 := fun n => by unfold lacksN; omega
  unfold padL
  rw [if_pos (h _)]
theorem lt_big (a b : Nat) (h : a ≤ 1000000) (h2 : b ≤ 1000000) : a + b < 140737488355328 := by omega
theorem lt_big1 (a : Nat) (h : a ≤ 1000000) : a < 140737488355328 := by omega
theorem hex_step (k : Nat) (s : ByteArray) (g sh sp : Bool) (acc : List UInt8) (i : Nat) (b0 b1 b4 : Bool) (w p v : Int) (hi : i < s.size) (hs : s.size ≤ 100000) (ha : acc.length ≤ 600000) :
    PQGen.quote_Hex.l0 (k + 2) s (digB g) (T (markL g sh)) (ints acc) (s.size : Int) (i : Int) b0 b1 sh sp b4 w p v =
      PQGen.quote_Hex.l0 k s (digB g) (T (markL g sh)) (ints (acc ++ hexAt s g sp sh i)) (s.size : Int) ((i + 1 : Nat) : Int) b0 b1 sh sp b4 w p v := by
  have hb := bt_lt s i
  have hml := markL_length g sh
  have e1 : wrap64 ((i : Int) + 1) = ((i + 1 : Nat) : Int) := by rw [wrap64_id (by omega) (by omega)]; omega
  have eb := bt_get s i
  have ed : bt s (i : Int) / 16 = (((s.get! i).toNat / 16 : Nat) : Int) := by rw [eb]; omega
  have em : Go.bits .and .u8 (bt s (i : Int)) 15 = (((s.get! i).toNat % 16 : Nat) : Int) := by rw [eb, u8_and15 (x := (((s.get! i).toNat : Nat) : Int)) (by omega) (by omega)]; omega
  have g1 := digB_bt g ((s.get! i).toNat / 16) (by omega)
  have g2 := digB_bt g ((s.get! i).toNat % 16) (by omega)
  have dz := digB_size g
  have p0 : (0 : Int) ≤ (i : Int) := by omega
  have p1 : (i : Int) < (s.size : Int) := by omega
  have p2 : (0 : Int) ≤ (((s.get! i).toNat / 16 : Nat) : Int) := by omega
  have p3 : (((s.get! i).toNat / 16 : Nat) : Int) < ((digB g).size : Int) := by omega
  have p4 : (0 : Int) ≤ (((s.get! i).toNat % 16 : Nat) : Int) := by omega
  have p5 : (((s.get! i).toNat % 16 : Nat) : Int) < ((digB g).size : Int) := by omega
  have mz : (T (markL g sh)).size ≤ 2 := by rw [T_size]; exact hml
  have hx : [(((hxg g ((s.get! i).toNat / 16)).toNat : Nat) : Int), (((hxg g ((s.get! i).toNat % 16)).toNat : Nat) : Int)] = ints [hxg g ((s.get! i).toNat / 16), hxg g ((s.get! i).toNat % 16)] := rfl
  have h32 : ([32] : List Int) = ints [32] := rfl
  rw [PQGen.quote_Hex.l0, if_pos p1]
  cases sp with
  | true =>
    rw [if_pos rfl, PQGen.quote_Hex.j5]
    by_cases h0 : 0 < i
    · have eh : hexAt s g true sh i = [32] ++ markL g sh ++ [hxg g ((s.get! i).toNat / 16), hxg g ((s.get! i).toNat % 16)] := by unfold hexAt; rw [if_pos ⟨rfl, h0⟩, if_pos (.inl rfl)]
      have l1 : (ints acc).length < 140737488355328 := lt_big1 _ (by rw [ints_length]; omega)
      have l2 : (ints acc ++ [32]).length + (T (markL g sh)).size < 140737488355328 := lt_big _ _ (by rw [List.length_append, ints_length]; simp; omega) (by omega)
      have l3 : (ints (acc ++ [32] ++ markL g sh)).length + (ints [hxg g ((s.get! i).toNat / 16), hxg g ((s.get! i).toNat % 16)]).length < 140737488355328 := lt_big _ _ (by rw [ints_length]; simp; omega) (by rw [ints_length]; simp)
      rw [if_pos (decide_eq_true (by omega)), if_pos l1, Option.bind_some, if_pos rfl, if_pos l2, Option.bind_some, if_pos p0, if_pos p1, ed, em, if_pos p2, if_pos p3, if_pos p4, if_pos p5, Option.bind_some, g1, g2, hx, bytesOf_T, h32, ← ints_append, ← ints_append, if_pos l3, e1, ← ints_append, eh]
      congr 2
      simp only [List.append_assoc]
    · obtain rfl : i = 0 := by omega
      have eh : hexAt s g true sh 0 = markL g sh ++ [hxg g ((s.get! 0).toNat / 16), hxg g ((s.get! 0).toNat % 16)] := by unfold hexAt; rw [if_neg (by simp), if_pos (.inl rfl)]; rfl
      have l2 : (ints acc).length + (T (markL g sh)).size < 140737488355328 := lt_big _ _ (by rw [ints_length]; omega) (by omega)
      have l3 : (ints (acc ++ markL g sh)).length + (ints [hxg g ((s.get! 0).toNat / 16), hxg g ((s.get! 0).toNat % 16)]).length < 140737488355328 := lt_big _ _ (by rw [ints_length]; simp; omega) (by rw [ints_length]; simp)
      rw [if_neg (by rw [decide_eq_false (by omega)]; exact Bool.false_ne_true), if_pos rfl, if_pos l2, Option.bind_some, if_pos p0, if_pos p1, ed, em, if_pos p2, if_pos p3, if_pos p4, if_pos p5, Option.bind_some, g1, g2, hx, bytesOf_T, ← ints_append, if_pos l3, e1, ← ints_append, eh]
      congr 2
      simp only [List.append_assoc]
  | false =>
    rw [if_neg Bool.false_ne_true, PQGen.quote_Hex.j5, if_neg Bool.false_ne_true, if_neg Bool.false_ne_true]
    by_cases h0 : 0 < i
    · have eh : hexAt s g false sh i = [hxg g ((s.get! i).toNat / 16), hxg g ((s.get! i).toNat % 16)] := by unfold hexAt; rw [if_neg (by simp), if_neg (by simp; omega)]; rfl
      have l3 : (ints acc).length + (ints [hxg g ((s.get! i).toNat / 16), hxg g ((s.get! i).toNat % 16)]).length < 140737488355328 := lt_big _ _ (by rw [ints_length]; omega) (by rw [ints_length]; simp)
      rw [if_neg (show ¬ (i : Int) = 0 by omega), if_pos p0, if_pos p1, ed, em, if_pos p2, if_pos p3, if_pos p4, if_pos p5, Option.bind_some, g1, g2, hx, if_pos l3, e1, ← ints_append, eh]
    · obtain rfl : i = 0 := by omega
      have eh : hexAt s g false sh 0 = markL g sh ++ [hxg g ((s.get! 0).toNat / 16), hxg g ((s.get! 0).toNat % 16)] := by unfold hexAt; rw [if_neg (by simp), if_pos (.inr rfl)]; rfl
      have l2 : (ints acc).length + (T (markL g sh)).size < 140737488355328 := lt_big _ _ (by rw [ints_length]; omega) (by omega)
      have l3 : (ints (acc ++ markL g sh)).length + (ints [hxg g ((s.get! 0).toNat / 16), hxg g ((s.get! 0).toNat % 16)]).length < 140737488355328 := lt_big _ _ (by rw [ints_length]; simp; omega) (by rw [ints_length]; simp)
      rw [if_pos (show ((0 : Nat) : Int) = 0 from rfl), if_pos l2, Option.bind_some, if_pos p0, if_pos p1, ed, em, if_pos p2, if_pos p3, if_pos p4, if_pos p5, Option.bind_some, g1, g2, hx, bytesOf_T, ← ints_append, if_pos l3, e1, ← ints_append, eh]
      congr 2
      simp only [List.append_assoc]
theorem hex_l0 (s : ByteArray) (g sh sp b0 minus zero : Bool) (w p v : Int) (hs : s.size ≤ 10000) : ∀ (n i k : Nat) (acc : List UInt8), s.size ≤ i + n → i ≤ s.size → 2 * n + 1 ≤ k → acc.length + 5 * n ≤ 50000 →
    PQGen.quote_Hex.l0 k s (digB g) (T (markL g sh)) (ints acc) (s.size : Int) (i : Int) b0 minus sh sp zero w p v = some (T (padL (acc ++ hexT s g sp sh n i) minus zero w)) := by
  have fin : ∀ (i k : Nat) (acc : List UInt8), ¬ i < s.size → acc.length ≤ 50000 → PQGen.quote_Hex.l0 (k + 1) s (digB g) (T (markL g sh)) (ints acc) (s.size : Int) (i : Int) b0 minus sh sp zero w p v = some (T (padL acc minus zero w)) := by
    intro i k acc hi ha
    rw [PQGen.quote_Hex.l0, if_neg (by omega), strOfNums_ints, bufPad_f acc b0 minus sh sp zero w p v (by omega)]
    rfl
  intro n
  induction n with
  | zero =>
    intro i k acc h1 h2 hk ha
    obtain ⟨k, rfl⟩ : ∃ k', k = k' + 1 := ⟨k - 1, by omega⟩
    rw [fin i k acc (by omega) (by omega)]
    simp [hexT]
  | succ n ih =>
    intro i k acc h1 h2 hk ha
    obtain ⟨k, rfl⟩ : ∃ k', k = k' + 2 := ⟨k - 2, by omega⟩
    by_cases hi : i < s.size
    · have hl := hexAt_length s g sp sh i
      rw [hex_step k s g sh sp acc i b0 minus zero w p v hi (by omega) (by omega), ih (i + 1) k _ (by omega) (by omega) (by omega) (by rw [List.length_append]; omega)]
      rw [hexT, if_pos hi, List.append_assoc]
    · rw [show k + 2 = (k + 1) + 1 from rfl, fin i (k + 1) acc hi (by omega)]
      simp [hexT, hi]
def cutH (s : ByteArray) (p : Int) : ByteArray := if 0 ≤ p ∧ p < (s.size : Int) then s.extract 0 p.toNat else s
theorem cutH_size (s : ByteArray) (p : Int) : (cutH s p).size ≤ s.size := by
  unfold cutH
  split
  · rw [ByteArray.size_extract]; omega
  · exact Nat.le_refl _
def hexL2 (s : ByteArray) (g sp sh : Bool) : List UInt8 := hexT s g sp sh s.size 0
theorem hexL2_length (s : ByteArray) (g sp sh : Bool) : (hexL2 s g sp sh).length ≤ 5 * s.size := hexT_length _ _ _ _ _ _
theorem Hex_f (k : Nat) (s : ByteArray) (b0 minus sh sp zero : Bool) (w p v : Int) (hs : s.size ≤ 10000) (hk : 2 * s.size + 100 ≤ k) :
    PQGen.quote_Hex.f k s b0 minus sh sp zero w p v = some (T (padL (hexL2 (cutH s p) (decide (v = 88)) sp sh) minus zero w)) := by
  have hj : ∀ (t : ByteArray) (k : Nat), t.size ≤ s.size → 2 * s.size + 50 ≤ k → PQGen.quote_Hex.j1 k t b0 minus sh sp zero w p v = some (T (padL (hexL2 t (decide (v = 88)) sp sh) minus zero w)) := by
    intro t k ht hk
    obtain ⟨k, rfl⟩ : ∃ k', k = k' + 3 := ⟨k - 3, by omega⟩
    have h3 : ∀ g : Bool, PQGen.quote_Hex.j3 (k + 1) t (digB g) (T (markL g sh)) b0 minus sh sp zero w p v = some (T (padL (hexL2 t g sp sh) minus zero w)) := by
      intro g
      have := hex_l0 t g sh sp b0 minus zero w p v (by omega) t.size 0 k [] (by omega) (by omega) (by omega) (by simp; omega)
      rw [PQGen.quote_Hex.j3]
      exact this
    have h2 : ∀ g : Bool, decide (v = 88) = g → PQGen.quote_Hex.j2 (k + 2) t (digB g) (⟨#[]⟩ : ByteArray) b0 minus sh sp zero w p v = some (T (padL (hexL2 t g sp sh) minus zero w)) := by
      intro g hg
      rw [← h3 g, PQGen.quote_Hex.j2]
      cases sh with
      | false => rw [if_neg Bool.false_ne_true]; rfl
      | true =>
        rw [if_pos rfl]
        cases g with
        | true => rw [if_pos (of_decide_eq_true hg)]; rfl
        | false => rw [if_neg (of_decide_eq_false hg)]; rfl
    rw [PQGen.quote_Hex.j1]
    by_cases hv : v = 88
    · rw [if_pos hv]
      have hd : decide (v = 88) = true := decide_eq_true hv
      rw [hd]
      exact h2 true hd
    · rw [if_neg hv]
      have hd : decide (v = 88) = false := decide_eq_false hv
      rw [hd]
      exact h2 false hd
  obtain ⟨k, rfl⟩ : ∃ k', k = k' + 1 := ⟨k - 1, by omega⟩
  unfold PQGen.quote_Hex.f cutH
  by_cases h1 : 0 ≤ p
  · rw [if_pos (by omega), PQGen.quote_Hex.j0]
    by_cases h2 : p < (s.size : Int)
    · rw [if_pos (decide_eq_true h2), if_pos h1, if_pos (by omega), if_pos ⟨h1, h2⟩]
      exact hj _ k (by rw [ByteArray.size_extract]; omega) (by omega)
    · rw [if_neg (by rw [decide_eq_false h2]; exact Bool.false_ne_true), if_neg (fun h => h2 h.2)]
      exact hj s k (Nat.le_refl _) (by omega)
  · rw [if_neg (by omega), PQGen.quote_Hex.j0, if_neg Bool.false_ne_true, if_neg (fun h => h1 h.1)]
    exact hj s k (Nat.le_refl _) (by omega)
end Go.Proofs.YtcoippikicikoaaDoor
namespace Go.Proofs.YtcoippikicikoaaDoor.PQWrites
open Go.RowKit Go.Proofs.YtcoippikicikoaaDoorW.PrintWords Go.Proofs.YtcoippikicikoaaDoorW.PrintLast Go.Proofs.YtcoippikicikoaaDoorW.PrintMore
attribute [local go_sem] max2_int min2_int max_two min_two
set_option linter.unusedVariables false
set_option linter.unusedSimpArgs false
def errW : Option Int → Value
 | none => .nilIface
 | some c => .iface 0 (.int .i64 c)
theorem errW_none : errW none = .nilIface := rfl
theorem errW_some (c : Int) : errW (some c) = .iface 0 (.int .i64 c) := rfl
end Go.Proofs.YtcoippikicikoaaDoor.PQWrites
namespace Go.Proofs.YtcoippikicikoaaDoor.PQWrites
open Go.RowKit Go.Proofs.YtcoippikicikoaaDoorW.PrintWords Go.Proofs.YtcoippikicikoaaDoorW.PrintLast Go.Proofs.YtcoippikicikoaaDoorW.PrintMore
attribute [local go_sem] max2_int min2_int max_two min_two
set_option linter.unusedVariables false
set_option linter.unusedSimpArgs false
end Go.Proofs.YtcoippikicikoaaDoor.PQWrites
namespace Go.Proofs.YtcoippikicikoaaDoor.PQWrites
open Go.RowKit Go.Proofs.YtcoippikicikoaaDoorW.PrintWords Go.Proofs.YtcoippikicikoaaDoorW.PrintLast Go.Proofs.YtcoippikicikoaaDoorW.PrintMore
attribute [local go_sem] max2_int min2_int max_two min_two
set_option linter.unusedVariables false
set_option linter.unusedSimpArgs false
end Go.Proofs.YtcoippikicikoaaDoor.PQWrites
namespace Go.Proofs.YtcoippikicikoaaDoor
open Go.RowKit Go.Proofs.YtcoippikicikoaaDoorW.PrintWords Go.Proofs.YtcoippikicikoaaDoorW.PrintMore Go.Proofs.YtcoippikicikoaaDoor.PQRef
theorem cutB_size (s : ByteArray) (n : Int) : (cutB s n).size ≤ s.size := by
  unfold cutB
  split
  · exact Nat.le_refl _
  · rw [ByteArray.size_extract]; omega
def textB (s : ByteArray) (plus sh sp : Bool) (p v : Int) : Option (List UInt8) :=
  if v = 118 then some (if sh = true then quoteB s false else (cutB s p).data.toList)
  else if v = 115 then some (cutB s p).data.toList
  else if v = 113 then some (if sh = true ∧ (rawB (cutB s p)).2 = true then (rawB (cutB s p)).1.data.toList else quoteB (cutB s p) plus)
  else if v = 120 ∨ v = 88 then some (hexL2 (cutH s p) (decide (v = 88)) sp sh)
  else none
theorem rawB_size (s : ByteArray) : (rawB s).1.size ≤ s.size + 2 := by
  unfold rawB
  split
  · simp only [ByteArray.size_append]
    have : (T [96]).size = 1 := rfl
    omega
  · simp [T_size]
theorem textB_length (s : ByteArray) (plus sh sp : Bool) (p v : Int) (x : List UInt8) (h : textB s plus sh sp p v = some x) : x.length ≤ 10 * s.size + 2 := by
  have h1 := cutB_size s p
  have h2 := quoteB_le s false
  have h3 := quoteB_le (cutB s p) plus
  have h4 := rawB_size (cutB s p)
  have h5 := hexL2_length (cutH s p) (decide (v = 88)) sp sh
  have h6 := cutH_size s p
  unfold textB at h
  split at h
  · obtain rfl := Option.some.inj h
    split
    · omega
    · rw [← Lib.size_eq]; omega
  split at h
  · obtain rfl := Option.some.inj h
    rw [← Lib.size_eq]; omega
  split at h
  · obtain rfl := Option.some.inj h
    split
    · rw [← Lib.size_eq]; omega
    · omega
  split at h
  · obtain rfl := Option.some.inj h
    omega
  · cases h
def textR (o : Option (List UInt8)) (minus zero : Bool) (w : Int) : ByteArray × Bool := match o with
  | some x => (T (padL x minus zero w), true)
  | none => (T [], false)
theorem Text_f (k : Nat) (s : ByteArray) (plus minus sh sp zero : Bool) (w p v : Int) (hs : s.size ≤ 1000) (hp : p ≤ 9223372036854775807) (hk : 10000 ≤ k) :
    PQGen.quote_Text.f k s plus minus sh sp zero w p v = some (textR (textB s plus sh sp p v) minus zero w) := by
  obtain ⟨k, rfl⟩ : ∃ k', k = k' + 2 := ⟨k - 2, by omega⟩
  have hcs := cutB_size s p
  have cut : buf_Cut.f s p = some (cutB s p) := by unfold buf_Cut.f; rw [if_pos ⟨by omega, hp⟩]
  have pad : ∀ x : List UInt8, x.length ≤ 20000 → PQGen.buf_Pad.f (T x) plus minus sh sp zero w p v = some (T (padL x minus zero w)) := fun x hx => bufPad_f x plus minus sh sp zero w p v (by omega)
  have padB : ∀ b : ByteArray, b.size ≤ 20000 → PQGen.buf_Pad.f b plus minus sh sp zero w p v = some (T (padL b.data.toList minus zero w)) := fun b hb => by
    have := pad b.data.toList (by rw [← Lib.size_eq]; exact hb)
    rw [T_self] at this
    exact this
  have q1 := quoteB_le s false
  have q2 := quoteB_le (cutB s p) plus
  have q3 := rawB_size (cutB s p)
  have j1 : PQGen.quote_Text.j1 (k + 1) s false plus minus sh sp zero w p v = some (T (padL (cutB s p).data.toList minus zero w), true) := by
    rw [PQGen.quote_Text.j1, if_neg Bool.false_ne_true, cut, Option.bind_some, padB _ (by omega), Option.bind_some]
  unfold PQGen.quote_Text.f textB
  by_cases h1 : v = 118
  · have e : (v == 118) = true := beq_iff_eq.2 h1
    rw [if_pos h1, e, PQGen.quote_Text.j0, if_pos rfl, if_pos h1, if_pos h1]
    cases sh with
    | true =>
      rw [PQGen.quote_Text.j1, if_pos rfl, if_pos rfl, Quote_f s false (by omega), Option.bind_some, pad _ (by omega), Option.bind_some]
      rfl
    | false =>
      rw [if_neg Bool.false_ne_true, j1]
      rfl
  rw [if_neg h1, if_neg h1]
  by_cases h2 : v = 115
  · have e : (v == 115) = true := beq_iff_eq.2 h2
    rw [e, PQGen.quote_Text.j0, if_pos rfl, if_neg h1, if_pos h2, j1]
    rfl
  have e : (v == 115) = false := beq_eq_false_iff_ne.2 h2
  rw [e, PQGen.quote_Text.j0, if_neg Bool.false_ne_true, if_neg h2]
  by_cases h3 : v = 113
  · rw [if_pos h3, if_pos h3, cut, Option.bind_some]
    have hq : ((quote_Quote.f (cutB s p) plus).bind fun t172 => ((PQGen.buf_Pad.f t172 plus minus sh sp zero w p v).bind fun t173 => (some (t173, true)))) = some (T (padL (quoteB (cutB s p) plus) minus zero w), true) := by
      rw [Quote_f _ plus (by omega), Option.bind_some, pad _ (by omega), Option.bind_some]
    cases sh with
    | true =>
      have hr : quote_Raw.f (cutB s p) = some (rawB (cutB s p)) := by unfold quote_Raw.f; rw [if_pos (by omega)]
      rw [if_pos rfl, hr, Option.bind_some]
      by_cases h4 : (rawB (cutB s p)).2 = true
      · rw [if_pos h4, if_pos ⟨rfl, h4⟩, padB _ (by omega)]
        rfl
      · rw [if_neg h4, if_neg (fun h => h4 h.2)]
        exact hq
    | false =>
      rw [if_neg Bool.false_ne_true, if_neg (fun h => Bool.false_ne_true h.1)]
      exact hq
  rw [if_neg h3, if_neg h3]
  by_cases h4 : v = 120
  · rw [if_pos h4, if_pos (.inl h4), Hex_f (k + 1) s plus minus sh sp zero w p v (by omega) (by omega)]
    rfl
  rw [if_neg h4]
  by_cases h5 : v = 88
  · rw [if_pos h5, if_pos (.inr h5), Hex_f (k + 1) s plus minus sh sp zero w p v (by omega) (by omega)]
    rfl
  · rw [if_neg h5, if_neg (fun h => h.elim h4 h5)]
    rfl
end Go.Proofs.YtcoippikicikoaaDoor
namespace Go.Proofs.YtcoippikicikoaaDoor.PQWide
open Go.RowKit Go.Proofs.YtcoippikicikoaaDoorW.PrintWords Go.Proofs.YtcoippikicikoaaDoorW.PrintLast Go.Proofs.YtcoippikicikoaaDoorW.PrintMore
attribute [local go_sem] max2_int min2_int max_two min_two
set_option linter.unusedVariables false
set_option linter.unusedSimpArgs false
def errW : Option Int → Value
 | none => .nilIface
 | some c => .iface 0 (.int .i64 c)
theorem errW_none : errW none = .nilIface := rfl
theorem errW_some (c : Int) : errW (some c) = .iface 0 (.int .i64 c) := rfl
end Go.Proofs.YtcoippikicikoaaDoor.PQWide
namespace Go.Proofs.YtcoippikicikoaaDoor.PQWide
open Go.RowKit Go.Proofs.YtcoippikicikoaaDoorW.PrintWords Go.Proofs.YtcoippikicikoaaDoorW.PrintLast Go.Proofs.YtcoippikicikoaaDoorW.PrintMore
attribute [local go_sem] max2_int min2_int max_two min_two
set_option linter.unusedVariables false
set_option linter.unusedSimpArgs false
end Go.Proofs.YtcoippikicikoaaDoor.PQWide
namespace Go.Proofs.YtcoippikicikoaaDoor.PQWide
open Go.RowKit Go.Proofs.YtcoippikicikoaaDoorW.PrintWords Go.Proofs.YtcoippikicikoaaDoorW.PrintLast Go.Proofs.YtcoippikicikoaaDoorW.PrintMore
attribute [local go_sem] max2_int min2_int max_two min_two
set_option linter.unusedVariables false
set_option linter.unusedSimpArgs false
mutual
def platenlaw02_QuoteWide.j0 : Nat → ByteArray → Bool → ByteArray → Bool → Bool → Bool → Bool → Bool → Bool → Int → Int → Int → Option (Bool)
 | 0, _, _, _, _, _, _, _, _, _, _, _, _ => none
 | k + 1, x6, x7, x8, x35, x102000, x102001, x102002, x102003, x102004, x102005, x102006, x102007 => if x35 = true then (some false) else (if x7 = true then (if x102001 = true then (if 0 ≤ (x8.size : Int) then (if (x8.size : Int) ≤ (x6.size : Int) then (if (x6.extract 0 x8.size).toList = x8.toList then (platenlaw02_QuoteWide.j1 k x6 x8 false x102000 x102001 x102002 x102003 x102004 x102005 x102006 x102007) else (platenlaw02_QuoteWide.j1 k x6 x8 true x102000 x102001 x102002 x102003 x102004 x102005 x102006 x102007)) else (none)) else (none)) else (if 0 ≤ (wrap64 ((x6.size : Int) - (x8.size : Int))) then (if (wrap64 ((x6.size : Int) - (x8.size : Int))) ≤ (x6.size : Int) then (platenlaw02_QuoteWide.j1 k x6 x8 ((x6.extract ((wrap64 ((x6.size : Int) - (x8.size : Int))) : Int).toNat x6.size).toList != x8.toList) x102000 x102001 x102002 x102003 x102004 x102005 x102006 x102007) else (none)) else (none))) else (if x6.toList = ([] : List UInt8) then (if x8.toList = ([] : List UInt8) then ((PQGen.platenlaw02_lives.f k).bind fun t108 => (some t108)) else (some false)) else (some false)))
def platenlaw02_QuoteWide.j1 : Nat → ByteArray → ByteArray → Bool → Bool → Bool → Bool → Bool → Bool → Int → Int → Int → Option (Bool)
 | 0, _, _, _, _, _, _, _, _, _, _, _ => none
 | k + 1, x6, x8, x72, x102000, x102001, x102002, x102003, x102004, x102005, x102006, x102007 => if x72 = true then (some false) else ((buf_Count.f x6).bind fun t109 => ((buf_Count.f x8).bind fun t110 => (if t109 = (mx t110 (mn x102005 1000)) then ((PQGen.platenlaw02_lives.f k).bind fun t111 => (some t111)) else (some false))))
end
def platenlaw02_QuoteWide.f (k : Nat) (a0 : ByteArray) (a1_0 : Bool) (a1_1 : Bool) (a1_2 : Bool) (a1_3 : Bool) (a1_4 : Bool) (a1_5 : Int) (a1_6 : Int) (a1_7 : Int) : Option (Bool) := (PQRef.platenlaw02_cut.f a0).bind fun t102 => ((PQGen.quote_Text.f k t102 a1_0 a1_1 a1_2 a1_3 a1_4 a1_5 a1_6 a1_7).bind fun bt104 => ((PQGen.quote_Text.f k t102 a1_0 a1_1 a1_2 a1_3 a1_4 (-1) a1_6 a1_7).bind fun bt106 => (if (bt104.2 != bt106.2) = true then (platenlaw02_QuoteWide.j0 k bt104.1 bt104.2 bt106.1 true a1_0 a1_1 a1_2 a1_3 a1_4 a1_5 a1_6 a1_7) else (platenlaw02_QuoteWide.j0 k bt104.1 bt104.2 bt106.1 (decide ((bt104.1.size : Int) < (bt106.1.size : Int))) a1_0 a1_1 a1_2 a1_3 a1_4 a1_5 a1_6 a1_7))))
def platenlaw02_QuoteWide.T12 : Bool × List (List Nat × List Nat) := (true, [([], []), ([0], [0]), ([], []), ([2, 1], [2]), ([], []), ([4], [4]), ([5], [5]), ([3, 6], [3, 6]), ([1, 7], [1, 7]), ([8, 3], [8]), ([9, 9], [9]), ([9, 10], [9, 10]), ([11, 10, 0, 1, 2, 3, 4, 5, 6, 7, 8, 9, 10, 11], [11])])
def platenlaw02_QuoteWide.B12 : List Nat := [0, 1, 0, 7, 0, 16, 48, 127, 255, 511, 1023, 2047, 4095]
theorem platenlaw02_QuoteWide.tab12 : rtab .any (opsOf Tryd.f8 12) = platenlaw02_QuoteWide.T12 := by kernel_rfl
theorem platenlaw02_QuoteWide.bits12 : waitsOk platenlaw02_QuoteWide.T12.2 platenlaw02_QuoteWide.B12 = true := by kernel_rfl
set_option maxHeartbeats 8000000 in
set_option maxRecDepth 100000 in
theorem platenlaw02_QuoteWide.calls (k : Nat) (a0 : ByteArray) (a1_0 : Bool) (a1_1 : Bool) (a1_2 : Bool) (a1_3 : Bool) (a1_4 : Bool) (a1_5 : Int) (a1_6 : Int) (a1_7 : Int) (r : Bool) (w : World) (hOK : Aside0 (Ok w)) (h : platenlaw02_QuoteWide.f k a0 a1_0 a1_1 a1_2 a1_3 a1_4 a1_5 a1_6 a1_7 = some r) :
 Calls Tryd.prog 8 #[.string a0, .agg #[.bool a1_0, .bool a1_1, .bool a1_2, .bool a1_3, .bool a1_4, .int .i64 a1_5, .int .i64 a1_6, .int .i32 a1_7]] w fun e w' => e = .returned (.bool r) ∧ Below w.heap.size w w' := by
 have hu28 := Tryd.underlying28
 have HB := Aside0.mk (Below.refl w.heap.size w)
 have H : ((PQRef.platenlaw02_cut.f a0).bind fun t102 => ((PQGen.quote_Text.f k t102 a1_0 a1_1 a1_2 a1_3 a1_4 a1_5 a1_6 a1_7).bind fun bt104 => ((PQGen.quote_Text.f k t102 a1_0 a1_1 a1_2 a1_3 a1_4 (-1) a1_6 a1_7).bind fun bt106 => (if (bt104.2 != bt106.2) = true then (platenlaw02_QuoteWide.j0 k bt104.1 bt104.2 bt106.1 true a1_0 a1_1 a1_2 a1_3 a1_4 a1_5 a1_6 a1_7) else (platenlaw02_QuoteWide.j0 k bt104.1 bt104.2 bt106.1 (decide ((bt104.1.size : Int) < (bt106.1.size : Int))) a1_0 a1_1 a1_2 a1_3 a1_4 a1_5 a1_6 a1_7))))) = some r := h
 clear h
 replace H := Option.bind_eq_some_iff.mp H
 obtain ⟨t102, A30, H⟩ := H
 replace H : ((PQGen.quote_Text.f k t102 a1_0 a1_1 a1_2 a1_3 a1_4 a1_5 a1_6 a1_7).bind fun bt104 => ((PQGen.quote_Text.f k t102 a1_0 a1_1 a1_2 a1_3 a1_4 (-1) a1_6 a1_7).bind fun bt106 => (if (bt104.2 != bt106.2) = true then (platenlaw02_QuoteWide.j0 k bt104.1 bt104.2 bt106.1 true a1_0 a1_1 a1_2 a1_3 a1_4 a1_5 a1_6 a1_7) else (platenlaw02_QuoteWide.j0 k bt104.1 bt104.2 bt106.1 (decide ((bt104.1.size : Int) < (bt106.1.size : Int))) a1_0 a1_1 a1_2 a1_3 a1_4 a1_5 a1_6 a1_7)))) = some r := H
 have A3 := Aside0.mk A30
 clear A30
 replace H := Option.bind_eq_some_iff.mp H
 obtain ⟨⟨t104, t105⟩, A40, H⟩ := H
 replace H : ((PQGen.quote_Text.f k t102 a1_0 a1_1 a1_2 a1_3 a1_4 (-1) a1_6 a1_7).bind fun bt106 => (if (t105 != bt106.2) = true then (platenlaw02_QuoteWide.j0 k t104 t105 bt106.1 true a1_0 a1_1 a1_2 a1_3 a1_4 a1_5 a1_6 a1_7) else (platenlaw02_QuoteWide.j0 k t104 t105 bt106.1 (decide ((t104.size : Int) < (bt106.1.size : Int))) a1_0 a1_1 a1_2 a1_3 a1_4 a1_5 a1_6 a1_7))) = some r := H
 have A4 := Aside0.mk A40
 clear A40
 replace H := Option.bind_eq_some_iff.mp H
 obtain ⟨⟨t106, t107⟩, A50, H⟩ := H
 replace H : (if (t105 != t107) = true then (platenlaw02_QuoteWide.j0 k t104 t105 t106 true a1_0 a1_1 a1_2 a1_3 a1_4 a1_5 a1_6 a1_7) else (platenlaw02_QuoteWide.j0 k t104 t105 t106 (decide ((t104.size : Int) < (t106.size : Int))) a1_0 a1_1 a1_2 a1_3 a1_4 a1_5 a1_6 a1_7)) = some r := H
 have A5 := Aside0.mk A50
 clear A50
 have HC6 := Aside0.mk H
 clear H
 go_enter Tryd.func8, Tryd.ntmps8
 go_upto_region 6 with (first | ((with_reducible refine gate_dst (N := 3) rfl ?_); (try (refine gate_guard (by rfl) ?_; dsimp only)); refine box_event ?hg (N := 3) ?hd (cs := #[.bool a1_0, .bool a1_1, .bool a1_2, .bool a1_3, .bool a1_4, .int .i64 a1_5, .int .i64 a1_6, .int .i32 a1_7]) (t := 28) ?hr ?_; (case hd => rfl); (case hg => rfl); (case hr => first | (go_simp; done) | (go_simp; rfl)); intro gb101 hg w7 hbox hb; have n0_ := Aside0.mk (below_step (by repeat (first | (with_reducible first | exact HB.out | apply below_alloc | apply pw_below_drewN | apply below_drew1) | exact HB.out)) hb); have n1_ := Aside0.mk (hbox); have n2_ := Aside0.mk ((by rw [hg]; exact (below_size (by repeat (first | (with_reducible first | exact HB.out | apply below_alloc | apply pw_below_drewN | apply below_drew1) | exact HB.out))) : w.heap.size ≤ gb101)); have n3_ := Aside0.mk ((by rw [hg]; exact (below_size (by repeat (first | (with_reducible first | exact HB.out | apply below_alloc | apply pw_below_drewN | apply below_drew1) | exact HB.out))) : w.heap.size ≤ gb101)); clear HB; have HB := n0_; have BK101 := n1_; have GW101 := n2_; have GE101 := n3_; clear n0_ n1_ n2_ n3_; clear hb hbox hg) | ((with_reducible refine gate_callee (f := 11) rfl ?_); refine goesL_ (some 11) rfl rfl Tryd.func11 (by kernel_rfl) rfl #[.string a0] rfl (by (try simp only [List.map_toArray, List.map_cons, List.map_nil]); first | done | rfl | (simp only [List.length_drop, List.length_take]; rfl)) ?_; (with_reducible refine (PQRef.platenlaw02_cut.calls a0 t102 _ A3.out).mono ?_); rintro e w' ⟨rfl, ⟨nd, rfl⟩⟩; refine ⟨_, rfl, ?_⟩; (try (rw [drewN_self w7]; generalize hq_ : World.drewN w7 _ = w7; have n0_ : Aside0 (w7.heap[gb101]? = some (.cells #[.bool a1_0, .bool a1_1, .bool a1_2, .bool a1_3, .bool a1_4, .int .i64 a1_5, .int .i64 a1_6, .int .i32 a1_7] 28 (0, 0))) := ⟨by rw [← hq_]; exact (by (with_reducible repeat (first | refine blk_drewN ?_ _ | refine blk_drew ?_ | refine blk_alloc ?_ _)); exact BK101.out)⟩; have n1_ : Aside0 (Below w.heap.size w w7) := ⟨by rw [← hq_]; exact (by repeat (first | (with_reducible first | exact HB.out | apply below_alloc | apply pw_below_drewN | apply below_drew1 | refine below_set ?_ GE101.out) | exact HB.out))⟩; clear BK101 HB hq_; have BK101 := n0_; have HB := n1_; clear n0_ n1_)); have hcz8_0 : w7.cell? ⟨gb101, 0, none⟩ = some (.bool a1_0) := (blk_cell BK101.out 0).trans rfl; have hcz8_1 : w7.cell? ⟨gb101, 1, none⟩ = some (.bool a1_1) := (blk_cell BK101.out 1).trans rfl; have hcz8_2 : w7.cell? ⟨gb101, 2, none⟩ = some (.bool a1_2) := (blk_cell BK101.out 2).trans rfl; have hcz8_3 : w7.cell? ⟨gb101, 3, none⟩ = some (.bool a1_3) := (blk_cell BK101.out 3).trans rfl; have hcz8_4 : w7.cell? ⟨gb101, 4, none⟩ = some (.bool a1_4) := (blk_cell BK101.out 4).trans rfl; have hcz8_5 : w7.cell? ⟨gb101, 5, none⟩ = some (.int .i64 a1_5) := (blk_cell BK101.out 5).trans rfl; have hcz8_6 : w7.cell? ⟨gb101, 6, none⟩ = some (.int .i64 a1_6) := (blk_cell BK101.out 6).trans rfl; have hcz8_7 : w7.cell? ⟨gb101, 7, none⟩ = some (.int .i32 a1_7) := (blk_cell BK101.out 7).trans rfl; have hfz8_0 := blk_frozen BK101.out 0; have hfz8_1 := blk_frozen BK101.out 1; have hfz8_2 := blk_frozen BK101.out 2; have hfz8_3 := blk_frozen BK101.out 3; have hfz8_4 := blk_frozen BK101.out 4; have hfz8_5 := blk_frozen BK101.out 5; have hfz8_6 := blk_frozen BK101.out 6; have hfz8_7 := blk_frozen BK101.out 7) | ((with_reducible refine gate_dst (N := 5) rfl ?_); (try (refine gate_guard (by rfl) ?_; dsimp only)); refine box_event ?hg (N := 5) ?hd (cs := #[.bool false, .bool false, .bool false, .bool false, .bool false, .int .i64 0, .int .i64 0, .int .i32 0]) (t := 28) ?hr ?_; (case hd => rfl); (case hg => rfl); (case hr => first | (go_simp; done) | (go_simp; rfl)); intro gb103 hg w9 hbox hb; have n0_ := Aside0.mk (blk_below (g := gb101) (o := .cells #[.bool a1_0, .bool a1_1, .bool a1_2, .bool a1_3, .bool a1_4, .int .i64 a1_5, .int .i64 a1_6, .int .i32 a1_7] 28 (0, 0)) (by (with_reducible repeat (first | refine blk_drewN ?_ _ | refine blk_drew ?_ | refine blk_alloc ?_ _)); exact BK101.out) hb); have n1_ := Aside0.mk (below_step (by repeat (first | (with_reducible first | exact HB.out | apply below_alloc | apply pw_below_drewN | apply below_drew1 | refine below_set ?_ GE101.out) | exact HB.out)) hb); have n2_ := Aside0.mk (hbox); have n3_ := Aside0.mk ((by rw [hg]; exact (below_size (by repeat (first | (with_reducible first | exact HB.out | apply below_alloc | apply pw_below_drewN | apply below_drew1 | refine below_set ?_ GE101.out) | exact HB.out))) : w.heap.size ≤ gb103)); have n4_ := Aside0.mk ((by rw [hg]; exact (below_size (by repeat (first | (with_reducible first | exact HB.out | apply below_alloc | apply pw_below_drewN | apply below_drew1 | refine below_set ?_ GE101.out) | exact HB.out))) : w.heap.size ≤ gb103)); have n5_ := Aside0.mk ((by rw [hg]; exact Nat.ne_of_lt (blk_lt (g := gb101) (o := .cells #[.bool a1_0, .bool a1_1, .bool a1_2, .bool a1_3, .bool a1_4, .int .i64 a1_5, .int .i64 a1_6, .int .i32 a1_7] 28 (0, 0)) (by (with_reducible repeat (first | refine blk_drewN ?_ _ | refine blk_drew ?_ | refine blk_alloc ?_ _)); exact BK101.out)) : gb101 ≠ gb103)); have n6_ := Aside0.mk ((by rw [hg]; exact Nat.ne_of_gt (blk_lt (g := gb101) (o := .cells #[.bool a1_0, .bool a1_1, .bool a1_2, .bool a1_3, .bool a1_4, .int .i64 a1_5, .int .i64 a1_6, .int .i32 a1_7] 28 (0, 0)) (by (with_reducible repeat (first | refine blk_drewN ?_ _ | refine blk_drew ?_ | refine blk_alloc ?_ _)); exact BK101.out)) : gb103 ≠ gb101)); clear BK101; clear HB; have BK101 := n0_; have HB := n1_; have BK103 := n2_; have GW103 := n3_; have GE103 := n4_; have NB101_103 := n5_; have NB103_101 := n6_; clear n0_ n1_ n2_ n3_ n4_ n5_ n6_; clear hb hbox hg; have hnb10 := NB103_101.out; have hnc10 := NB101_103.out; have hcz11_0 : w9.cell? ⟨gb103, 0, none⟩ = some (.bool false) := (blk_cell BK103.out 0).trans rfl; have hcz11_1 : w9.cell? ⟨gb103, 1, none⟩ = some (.bool false) := (blk_cell BK103.out 1).trans rfl; have hcz11_2 : w9.cell? ⟨gb103, 2, none⟩ = some (.bool false) := (blk_cell BK103.out 2).trans rfl; have hcz11_3 : w9.cell? ⟨gb103, 3, none⟩ = some (.bool false) := (blk_cell BK103.out 3).trans rfl; have hcz11_4 : w9.cell? ⟨gb103, 4, none⟩ = some (.bool false) := (blk_cell BK103.out 4).trans rfl; have hcz11_5 : w9.cell? ⟨gb103, 5, none⟩ = some (.int .i64 0) := (blk_cell BK103.out 5).trans rfl; have hcz11_6 : w9.cell? ⟨gb103, 6, none⟩ = some (.int .i64 0) := (blk_cell BK103.out 6).trans rfl; have hcz11_7 : w9.cell? ⟨gb103, 7, none⟩ = some (.int .i32 0) := (blk_cell BK103.out 7).trans rfl; have hfz11_0 := blk_frozen BK103.out 0; have hfz11_1 := blk_frozen BK103.out 1; have hfz11_2 := blk_frozen BK103.out 2; have hfz11_3 := blk_frozen BK103.out 3; have hfz11_4 := blk_frozen BK103.out 4; have hfz11_5 := blk_frozen BK103.out 5; have hfz11_6 := blk_frozen BK103.out 6; have hfz11_7 := blk_frozen BK103.out 7; have hcz12_0 : w9.cell? ⟨gb101, 0, none⟩ = some (.bool a1_0) := (blk_cell BK101.out 0).trans rfl; have hcz12_1 : w9.cell? ⟨gb101, 1, none⟩ = some (.bool a1_1) := (blk_cell BK101.out 1).trans rfl; have hcz12_2 : w9.cell? ⟨gb101, 2, none⟩ = some (.bool a1_2) := (blk_cell BK101.out 2).trans rfl; have hcz12_3 : w9.cell? ⟨gb101, 3, none⟩ = some (.bool a1_3) := (blk_cell BK101.out 3).trans rfl; have hcz12_4 : w9.cell? ⟨gb101, 4, none⟩ = some (.bool a1_4) := (blk_cell BK101.out 4).trans rfl; have hcz12_5 : w9.cell? ⟨gb101, 5, none⟩ = some (.int .i64 a1_5) := (blk_cell BK101.out 5).trans rfl; have hcz12_6 : w9.cell? ⟨gb101, 6, none⟩ = some (.int .i64 a1_6) := (blk_cell BK101.out 6).trans rfl; have hcz12_7 : w9.cell? ⟨gb101, 7, none⟩ = some (.int .i32 a1_7) := (blk_cell BK101.out 7).trans rfl; have hfz12_0 := blk_frozen BK101.out 0; have hfz12_1 := blk_frozen BK101.out 1; have hfz12_2 := blk_frozen BK101.out 2; have hfz12_3 := blk_frozen BK101.out 3; have hfz12_4 := blk_frozen BK101.out 4; have hfz12_5 := blk_frozen BK101.out 5; have hfz12_6 := blk_frozen BK101.out 6; have hfz12_7 := blk_frozen BK101.out 7) | ((with_reducible refine gate_callee (f := 17) rfl ?_); refine goesL_ (some 17) rfl rfl Tryd.func17 (by kernel_rfl) rfl #[.string t102, .agg #[.bool a1_0, .bool a1_1, .bool a1_2, .bool a1_3, .bool a1_4, .int .i64 a1_5, .int .i64 a1_6, .int .i32 a1_7]] rfl (by (try simp only [List.map_toArray, List.map_cons, List.map_nil]); first | done | rfl | (simp only [List.length_drop, List.length_take]; rfl)) ?_; (with_reducible refine (PQGen.quote_Text.calls k t102 a1_0 a1_1 a1_2 a1_3 a1_4 a1_5 a1_6 a1_7 t104 t105 _ (by (try refine Aside0.mk ?_); first | exact hOK.out | exact (hOK.out).drewN _ | (refine (hOK.out).later ?_; (repeat (first | (with_reducible first | exact HB.out | apply below_alloc | apply pw_below_drewN | apply below_drew1) | exact HB.out | (refine Below.setCell ?_ (show _ ≤ _ from Aside0.out (by assumption)) _)))) | (refine Ok.drewN ?_ _; exact hOK.out)) A4.out).mono ?_); rintro e w13 ⟨rfl, hb⟩; refine ⟨_, rfl, ?_⟩; have n0_ := Aside0.mk (blk_below (g := gb101) (o := .cells #[.bool a1_0, .bool a1_1, .bool a1_2, .bool a1_3, .bool a1_4, .int .i64 a1_5, .int .i64 a1_6, .int .i32 a1_7] 28 (0, 0)) (by (with_reducible repeat (first | refine blk_drewN ?_ _ | refine blk_drew ?_ | refine blk_alloc ?_ _)); refine blk_far ?_ NB101_103.out _; (with_reducible repeat (first | refine blk_drewN ?_ _ | refine blk_drew ?_ | refine blk_alloc ?_ _)); refine blk_far ?_ NB101_103.out _; (with_reducible repeat (first | refine blk_drewN ?_ _ | refine blk_drew ?_ | refine blk_alloc ?_ _)); refine blk_far ?_ NB101_103.out _; (with_reducible repeat (first | refine blk_drewN ?_ _ | refine blk_drew ?_ | refine blk_alloc ?_ _)); refine blk_far ?_ NB101_103.out _; (with_reducible repeat (first | refine blk_drewN ?_ _ | refine blk_drew ?_ | refine blk_alloc ?_ _)); refine blk_far ?_ NB101_103.out _; (with_reducible repeat (first | refine blk_drewN ?_ _ | refine blk_drew ?_ | refine blk_alloc ?_ _)); refine blk_far ?_ NB101_103.out _; (with_reducible repeat (first | refine blk_drewN ?_ _ | refine blk_drew ?_ | refine blk_alloc ?_ _)); refine blk_far ?_ NB101_103.out _; (with_reducible repeat (first | refine blk_drewN ?_ _ | refine blk_drew ?_ | refine blk_alloc ?_ _)); refine blk_far ?_ NB101_103.out _; (with_reducible repeat (first | refine blk_drewN ?_ _ | refine blk_drew ?_ | refine blk_alloc ?_ _)); refine blk_far ?_ NB101_103.out _; (with_reducible repeat (first | refine blk_drewN ?_ _ | refine blk_drew ?_ | refine blk_alloc ?_ _)); exact BK101.out) hb); have n1_ := Aside0.mk (blk_below (g := gb103) (o := .cells #[.bool a1_0, .bool a1_1, .bool a1_2, .bool a1_3, .bool a1_4, .int .i64 (-1), .int .i64 a1_6, .int .i32 a1_7] 28 (0, 0)) (by (with_reducible repeat (first | refine blk_drewN ?_ _ | refine blk_drew ?_ | refine blk_alloc ?_ _)); refine blk_put (cs := #[.bool a1_0, .bool a1_1, .bool a1_2, .bool a1_3, .bool a1_4, .int .i64 a1_5, .int .i64 a1_6, .int .i32 a1_7]) ?_ 5 _ rfl; (with_reducible repeat (first | refine blk_drewN ?_ _ | refine blk_drew ?_ | refine blk_alloc ?_ _)); refine blk_put (cs := #[.bool a1_0, .bool a1_1, .bool a1_2, .bool a1_3, .bool a1_4, .int .i64 a1_5, .int .i64 a1_6, .int .i32 0]) ?_ 7 _ rfl; (with_reducible repeat (first | refine blk_drewN ?_ _ | refine blk_drew ?_ | refine blk_alloc ?_ _)); refine blk_put (cs := #[.bool a1_0, .bool a1_1, .bool a1_2, .bool a1_3, .bool a1_4, .int .i64 a1_5, .int .i64 0, .int .i32 0]) ?_ 6 _ rfl; (with_reducible repeat (first | refine blk_drewN ?_ _ | refine blk_drew ?_ | refine blk_alloc ?_ _)); refine blk_put (cs := #[.bool a1_0, .bool a1_1, .bool a1_2, .bool a1_3, .bool a1_4, .int .i64 0, .int .i64 0, .int .i32 0]) ?_ 5 _ rfl; (with_reducible repeat (first | refine blk_drewN ?_ _ | refine blk_drew ?_ | refine blk_alloc ?_ _)); refine blk_put (cs := #[.bool a1_0, .bool a1_1, .bool a1_2, .bool a1_3, .bool false, .int .i64 0, .int .i64 0, .int .i32 0]) ?_ 4 _ rfl; (with_reducible repeat (first | refine blk_drewN ?_ _ | refine blk_drew ?_ | refine blk_alloc ?_ _)); refine blk_put (cs := #[.bool a1_0, .bool a1_1, .bool a1_2, .bool false, .bool false, .int .i64 0, .int .i64 0, .int .i32 0]) ?_ 3 _ rfl; (with_reducible repeat (first | refine blk_drewN ?_ _ | refine blk_drew ?_ | refine blk_alloc ?_ _)); refine blk_put (cs := #[.bool a1_0, .bool a1_1, .bool false, .bool false, .bool false, .int .i64 0, .int .i64 0, .int .i32 0]) ?_ 2 _ rfl; (with_reducible repeat (first | refine blk_drewN ?_ _ | refine blk_drew ?_ | refine blk_alloc ?_ _)); refine blk_put (cs := #[.bool a1_0, .bool false, .bool false, .bool false, .bool false, .int .i64 0, .int .i64 0, .int .i32 0]) ?_ 1 _ rfl; (with_reducible repeat (first | refine blk_drewN ?_ _ | refine blk_drew ?_ | refine blk_alloc ?_ _)); refine blk_put (cs := #[.bool false, .bool false, .bool false, .bool false, .bool false, .int .i64 0, .int .i64 0, .int .i32 0]) ?_ 0 _ rfl; (with_reducible repeat (first | refine blk_drewN ?_ _ | refine blk_drew ?_ | refine blk_alloc ?_ _)); exact BK103.out) hb); have n2_ := Aside0.mk (below_step (by repeat (first | (with_reducible first | exact HB.out | apply below_alloc | apply pw_below_drewN | apply below_drew1 | refine below_set ?_ GE101.out | refine below_set ?_ GE103.out) | exact HB.out)) hb); clear BK101; clear BK103; clear HB; have BK101 := n0_; have BK103 := n1_; have HB := n2_; clear n0_ n1_ n2_; (try clear hb); (try clear hb2); (try clear hk); (try clear hi); have hcz14_0 : w13.cell? ⟨gb103, 0, none⟩ = some (.bool a1_0) := (blk_cell BK103.out 0).trans rfl; have hcz14_1 : w13.cell? ⟨gb103, 1, none⟩ = some (.bool a1_1) := (blk_cell BK103.out 1).trans rfl; have hcz14_2 : w13.cell? ⟨gb103, 2, none⟩ = some (.bool a1_2) := (blk_cell BK103.out 2).trans rfl; have hcz14_3 : w13.cell? ⟨gb103, 3, none⟩ = some (.bool a1_3) := (blk_cell BK103.out 3).trans rfl; have hcz14_4 : w13.cell? ⟨gb103, 4, none⟩ = some (.bool a1_4) := (blk_cell BK103.out 4).trans rfl; have hcz14_5 : w13.cell? ⟨gb103, 5, none⟩ = some (.int .i64 (-1)) := (blk_cell BK103.out 5).trans rfl; have hcz14_6 : w13.cell? ⟨gb103, 6, none⟩ = some (.int .i64 a1_6) := (blk_cell BK103.out 6).trans rfl; have hcz14_7 : w13.cell? ⟨gb103, 7, none⟩ = some (.int .i32 a1_7) := (blk_cell BK103.out 7).trans rfl; have hfz14_0 := blk_frozen BK103.out 0; have hfz14_1 := blk_frozen BK103.out 1; have hfz14_2 := blk_frozen BK103.out 2; have hfz14_3 := blk_frozen BK103.out 3; have hfz14_4 := blk_frozen BK103.out 4; have hfz14_5 := blk_frozen BK103.out 5; have hfz14_6 := blk_frozen BK103.out 6; have hfz14_7 := blk_frozen BK103.out 7) | ((with_reducible refine gate_callee (f := 17) rfl ?_); refine goesL_ (some 23) rfl rfl Tryd.func17 (by kernel_rfl) rfl #[.string t102, .agg #[.bool a1_0, .bool a1_1, .bool a1_2, .bool a1_3, .bool a1_4, .int .i64 (-1), .int .i64 a1_6, .int .i32 a1_7]] rfl (by (try simp only [List.map_toArray, List.map_cons, List.map_nil]); first | done | rfl | (simp only [List.length_drop, List.length_take]; rfl)) ?_; (with_reducible refine (PQGen.quote_Text.calls k t102 a1_0 a1_1 a1_2 a1_3 a1_4 (-1) a1_6 a1_7 t106 t107 _ (by (try refine Aside0.mk ?_); first | exact hOK.out | exact (hOK.out).drewN _ | (refine (hOK.out).later ?_; (repeat (first | (with_reducible first | exact HB.out | apply below_alloc | apply pw_below_drewN | apply below_drew1) | exact HB.out | (refine Below.setCell ?_ (show _ ≤ _ from Aside0.out (by assumption)) _)))) | (refine Ok.drewN ?_ _; exact hOK.out)) A5.out).mono ?_); rintro e w15 ⟨rfl, hb⟩; refine ⟨_, rfl, ?_⟩; have n0_ := Aside0.mk (blk_below (g := gb101) (o := .cells #[.bool a1_0, .bool a1_1, .bool a1_2, .bool a1_3, .bool a1_4, .int .i64 a1_5, .int .i64 a1_6, .int .i32 a1_7] 28 (0, 0)) (by (with_reducible repeat (first | refine blk_drewN ?_ _ | refine blk_drew ?_ | refine blk_alloc ?_ _)); exact BK101.out) hb); have n1_ := Aside0.mk (blk_below (g := gb103) (o := .cells #[.bool a1_0, .bool a1_1, .bool a1_2, .bool a1_3, .bool a1_4, .int .i64 (-1), .int .i64 a1_6, .int .i32 a1_7] 28 (0, 0)) (by (with_reducible repeat (first | refine blk_drewN ?_ _ | refine blk_drew ?_ | refine blk_alloc ?_ _)); exact BK103.out) hb); have n2_ := Aside0.mk (below_step (by repeat (first | (with_reducible first | exact HB.out | apply below_alloc | apply pw_below_drewN | apply below_drew1 | refine below_set ?_ GE101.out | refine below_set ?_ GE103.out) | exact HB.out)) hb); clear BK101; clear BK103; clear HB; have BK101 := n0_; have BK103 := n1_; have HB := n2_; clear n0_ n1_ n2_; (try clear hb); (try clear hb2); (try clear hk); (try clear hi)))
 (try simp only [Act.put, List.setIfInBounds_toArray, List.set_cons_zero, List.set_cons_succ])
 go_cut [35] (fun v35 wc => ∃ (kq : Nat) (x35_5 : Bool), v35 = .bool x35_5 ∧ Aside0 (platenlaw02_QuoteWide.j0 kq t104 t105 t106 x35_5 a1_0 a1_1 a1_2 a1_3 a1_4 a1_5 a1_6 a1_7 = some r) ∧ Aside0 (kq ≤ k) ∧ Aside0 (wc.heap[gb101]? = some (.cells #[.bool a1_0, .bool a1_1, .bool a1_2, .bool a1_3, .bool a1_4, .int .i64 a1_5, .int .i64 a1_6, .int .i32 a1_7] 28 (0, 0))) ∧ Aside0 (wc.heap[gb103]? = some (.cells #[.bool a1_0, .bool a1_1, .bool a1_2, .bool a1_3, .bool a1_4, .int .i64 (-1), .int .i64 a1_6, .int .i32 a1_7] 28 (0, 0))) ∧ Aside0 (Below w.heap.size w wc))
 case first =>
  have H := HC6.out
  clear HC6
  by_cases c16 : (t105 != t107) = true
  ·
   rw [if_pos c16] at H
   have c16b0 : (t105 != t107) = true := c16
   (try (have c16b1 : decide (t105 = t107) = false := by simpa using c16))
   (try (have c16b2 : (t105 == t107) = false := by simpa using c16))
   (try (have c16b3 : ¬ (t105 = t107) := by simpa using c16))
   clear c16
   (first | rw [c16b0] | (simp only [i64_w, i32_w]; rw [c16b0]) | skip)
   have H' := Aside0.mk H
   clear H
   go_wp2
   (first | go_meet | (refine Met.intro ?_; go_step; (repeat apply Exists.intro); refine ⟨?rel, (by first | rfl | (simp only [c16b0]; rfl))⟩))
   case rel => exact ⟨_, (true), (by first | rfl | (simp; done) | (simp [*]; done)), H', ⟨by first | omega | exact Nat.le_refl _⟩, ⟨by (with_reducible repeat (first | refine blk_drewN ?_ _ | refine blk_drew ?_ | refine blk_alloc ?_ _)); exact BK101.out⟩, ⟨by (with_reducible repeat (first | refine blk_drewN ?_ _ | refine blk_drew ?_ | refine blk_alloc ?_ _)); exact BK103.out⟩, ⟨by repeat (first | (with_reducible first | exact HB.out | apply below_alloc | apply pw_below_drewN | apply below_drew1 | refine below_set ?_ GE101.out | refine below_set ?_ GE103.out) | exact HB.out)⟩⟩
  ·
   rw [if_neg c16] at H
   have c16b0 : (t105 != t107) = false := by simpa using c16
   (try (have c16b1 : decide (t105 = t107) = true := by simpa using c16))
   (try (have c16b2 : (t105 == t107) = true := by simpa using c16))
   clear c16
   (first | rw [c16b0] | (simp only [i64_w, i32_w]; rw [c16b0]) | skip)
   have H' := Aside0.mk H
   clear H
   go_wp2
   (first | go_meet | (refine Met.intro ?_; go_step; (repeat apply Exists.intro); refine ⟨?rel, (by first | rfl | (simp only [c16b0]; rfl))⟩))
   case rel => exact ⟨_, (decide ((t104.size : Int) < (t106.size : Int))), (by first | rfl | (simp; done) | (simp [*]; done)), H', ⟨by first | omega | exact Nat.le_refl _⟩, ⟨by (with_reducible repeat (first | refine blk_drewN ?_ _ | refine blk_drew ?_ | refine blk_alloc ?_ _)); exact BK101.out⟩, ⟨by (with_reducible repeat (first | refine blk_drewN ?_ _ | refine blk_drew ?_ | refine blk_alloc ?_ _)); exact BK103.out⟩, ⟨by repeat (first | (with_reducible first | exact HB.out | apply below_alloc | apply pw_below_drewN | apply below_drew1 | refine below_set ?_ GE101.out | refine below_set ?_ GE103.out) | exact HB.out)⟩⟩
 case rest =>
  clear HC6
  try clear c1
  try clear p2
  try clear c8
  try clear c10
  try clear c11
  try clear c16
  try clear c16b0
  try clear c16b1
  try clear c16b2
  try clear hcz11_0
  try clear hcz11_1
  try clear hcz11_2
  try clear hcz11_3
  try clear hcz11_4
  try clear hcz11_5
  try clear hcz11_6
  try clear hcz11_7
  try clear hcz12_0
  try clear hcz12_1
  try clear hcz12_2
  try clear hcz12_3
  try clear hcz12_4
  try clear hcz12_5
  try clear hcz12_6
  try clear hcz12_7
  try clear hcz14_0
  try clear hcz14_1
  try clear hcz14_2
  try clear hcz14_3
  try clear hcz14_4
  try clear hcz14_5
  try clear hcz14_6
  try clear hcz14_7
  try clear hcz8_0
  try clear hcz8_1
  try clear hcz8_2
  try clear hcz8_3
  try clear hcz8_4
  try clear hcz8_5
  try clear hcz8_6
  try clear hcz8_7
  try clear hfz11_0
  try clear hfz11_1
  try clear hfz11_2
  try clear hfz11_3
  try clear hfz11_4
  try clear hfz11_5
  try clear hfz11_6
  try clear hfz11_7
  try clear hfz12_0
  try clear hfz12_1
  try clear hfz12_2
  try clear hfz12_3
  try clear hfz12_4
  try clear hfz12_5
  try clear hfz12_6
  try clear hfz12_7
  try clear hfz14_0
  try clear hfz14_1
  try clear hfz14_2
  try clear hfz14_3
  try clear hfz14_4
  try clear hfz14_5
  try clear hfz14_6
  try clear hfz14_7
  try clear hfz8_0
  try clear hfz8_1
  try clear hfz8_2
  try clear hfz8_3
  try clear hfz8_4
  try clear hfz8_5
  try clear hfz8_6
  try clear hfz8_7
  obtain ⟨kq, x35_5, rfl, HA, HJ5, BK101, BK103, HB⟩ := hcut
  cases kq with
  | zero => exact absurd HA.out (by simp [platenlaw02_QuoteWide.j0])
  | succ kj5 =>
   have H := HA.out
   clear HA
   simp only [platenlaw02_QuoteWide.j0] at H
   by_cases c17 : x35_5 = true
   ·
    subst c17
    have H1 : (some false) = some r := by rw [if_pos rfl] at H; exact H
    clear H
    have H := H1
    clear H1
    obtain rfl := Option.some.inj H
    go_wp2
    go_ret
    exact ⟨by first | rfl | (simp [errW_none, errW_some] <;> rfl) | (simp [*, errW_none, errW_some] <;> rfl), by repeat (first | (with_reducible first | exact HB.out | apply below_alloc | apply pw_below_drewN | apply below_drew1 | refine below_set ?_ GE101.out | refine below_set ?_ GE103.out) | exact HB.out)⟩
   ·
    replace c17 := Bool.eq_false_iff.mpr c17
    subst c17
    have H1 : (if t105 = true then (if a1_1 = true then (if 0 ≤ (t106.size : Int) then (if (t106.size : Int) ≤ (t104.size : Int) then (if (t104.extract 0 t106.size).toList = t106.toList then (platenlaw02_QuoteWide.j1 kj5 t104 t106 false a1_0 a1_1 a1_2 a1_3 a1_4 a1_5 a1_6 a1_7) else (platenlaw02_QuoteWide.j1 kj5 t104 t106 true a1_0 a1_1 a1_2 a1_3 a1_4 a1_5 a1_6 a1_7)) else (none)) else (none)) else (if 0 ≤ (wrap64 ((t104.size : Int) - (t106.size : Int))) then (if (wrap64 ((t104.size : Int) - (t106.size : Int))) ≤ (t104.size : Int) then (platenlaw02_QuoteWide.j1 kj5 t104 t106 ((t104.extract ((wrap64 ((t104.size : Int) - (t106.size : Int))) : Int).toNat t104.size).toList != t106.toList) a1_0 a1_1 a1_2 a1_3 a1_4 a1_5 a1_6 a1_7) else (none)) else (none))) else (if t104.toList = ([] : List UInt8) then (if t106.toList = ([] : List UInt8) then ((PQGen.platenlaw02_lives.f kj5).bind fun t108 => (some t108)) else (some false)) else (some false))) = some r := by rw [if_neg (show ¬ (false = true) by decide)] at H; exact H
    clear H
    have H := H1
    clear H1
    by_cases c18 : t105 = true
    ·
     subst c18
     have H1 : (if a1_1 = true then (if 0 ≤ (t106.size : Int) then (if (t106.size : Int) ≤ (t104.size : Int) then (if (t104.extract 0 t106.size).toList = t106.toList then (platenlaw02_QuoteWide.j1 kj5 t104 t106 false a1_0 a1_1 a1_2 a1_3 a1_4 a1_5 a1_6 a1_7) else (platenlaw02_QuoteWide.j1 kj5 t104 t106 true a1_0 a1_1 a1_2 a1_3 a1_4 a1_5 a1_6 a1_7)) else (none)) else (none)) else (if 0 ≤ (wrap64 ((t104.size : Int) - (t106.size : Int))) then (if (wrap64 ((t104.size : Int) - (t106.size : Int))) ≤ (t104.size : Int) then (platenlaw02_QuoteWide.j1 kj5 t104 t106 ((t104.extract ((wrap64 ((t104.size : Int) - (t106.size : Int))) : Int).toNat t104.size).toList != t106.toList) a1_0 a1_1 a1_2 a1_3 a1_4 a1_5 a1_6 a1_7) else (none)) else (none))) = some r := by rw [if_pos rfl] at H; exact H
     clear H
     have H := H1
     clear H1
     have HC19 := Aside0.mk H
     clear H
     go_upto_region 10 with (fail)
     go_cut [72] (fun v72 wc => ∃ (kq : Nat) (x72_18 : Bool), v72 = .bool x72_18 ∧ Aside0 (platenlaw02_QuoteWide.j1 kq t104 t106 x72_18 a1_0 a1_1 a1_2 a1_3 a1_4 a1_5 a1_6 a1_7 = some r) ∧ Aside0 (kq ≤ kj5) ∧ Aside0 (wc.heap[gb101]? = some (.cells #[.bool a1_0, .bool a1_1, .bool a1_2, .bool a1_3, .bool a1_4, .int .i64 a1_5, .int .i64 a1_6, .int .i32 a1_7] 28 (0, 0))) ∧ Aside0 (wc.heap[gb103]? = some (.cells #[.bool a1_0, .bool a1_1, .bool a1_2, .bool a1_3, .bool a1_4, .int .i64 (-1), .int .i64 a1_6, .int .i32 a1_7] 28 (0, 0))) ∧ Aside0 (Below w.heap.size w wc))
     case first =>
      have H := HC19.out
      clear HC19
      by_cases c20 : a1_1 = true
      ·
       subst c20
       have H1 : (if 0 ≤ (t106.size : Int) then (if (t106.size : Int) ≤ (t104.size : Int) then (if (t104.extract 0 t106.size).toList = t106.toList then (platenlaw02_QuoteWide.j1 kj5 t104 t106 false a1_0 true a1_2 a1_3 a1_4 a1_5 a1_6 a1_7) else (platenlaw02_QuoteWide.j1 kj5 t104 t106 true a1_0 true a1_2 a1_3 a1_4 a1_5 a1_6 a1_7)) else (none)) else (none)) = some r := by rw [if_pos rfl] at H; exact H
       clear H
       have H := H1
       clear H1
       by_cases c21 : 0 ≤ (t106.size : Int)
       ·
        rw [if_pos c21] at H
        have c21b0 := eq_true c21
        have c21b1 : decide (0 ≤ (t106.size : Int)) = true := decide_eq_true c21
        clear c21
        by_cases c22 : (t106.size : Int) ≤ (t104.size : Int)
        ·
         rw [if_pos c22] at H
         have c22b0 := eq_true c22
         have c22b1 : decide ((t106.size : Int) ≤ (t104.size : Int)) = true := decide_eq_true c22
         clear c22
         by_cases c23 : (t104.extract 0 t106.size).toList = t106.toList
         ·
          rw [if_pos c23] at H
          have c23b0 : ((t104.extract 0 t106.size).toList == t106.toList) = true := beq_iff_eq.mpr c23
          have c23b1 : ((t104.extract 0 t106.size).toList != t106.toList) = false := bne_eq_false_iff_eq.mpr c23
          clear c23
          (first | rw [c23b0] | (simp only [i64_w, i32_w]; rw [c23b0]) | skip)
          have H' := Aside0.mk H
          clear H
          have hnb24 := NB101_103.out
          have hnc24 := NB103_101.out
          have hcz25_0 : wc.cell? ⟨gb101, 0, none⟩ = some (.bool a1_0) := (blk_cell BK101.out 0).trans rfl
          have hcz25_1 : wc.cell? ⟨gb101, 1, none⟩ = some (.bool true) := (blk_cell BK101.out 1).trans rfl
          have hcz25_2 : wc.cell? ⟨gb101, 2, none⟩ = some (.bool a1_2) := (blk_cell BK101.out 2).trans rfl
          have hcz25_3 : wc.cell? ⟨gb101, 3, none⟩ = some (.bool a1_3) := (blk_cell BK101.out 3).trans rfl
          have hcz25_4 : wc.cell? ⟨gb101, 4, none⟩ = some (.bool a1_4) := (blk_cell BK101.out 4).trans rfl
          have hcz25_5 : wc.cell? ⟨gb101, 5, none⟩ = some (.int .i64 a1_5) := (blk_cell BK101.out 5).trans rfl
          have hcz25_6 : wc.cell? ⟨gb101, 6, none⟩ = some (.int .i64 a1_6) := (blk_cell BK101.out 6).trans rfl
          have hcz25_7 : wc.cell? ⟨gb101, 7, none⟩ = some (.int .i32 a1_7) := (blk_cell BK101.out 7).trans rfl
          have hfz25_0 := blk_frozen BK101.out 0
          have hfz25_1 := blk_frozen BK101.out 1
          have hfz25_2 := blk_frozen BK101.out 2
          have hfz25_3 := blk_frozen BK101.out 3
          have hfz25_4 := blk_frozen BK101.out 4
          have hfz25_5 := blk_frozen BK101.out 5
          have hfz25_6 := blk_frozen BK101.out 6
          have hfz25_7 := blk_frozen BK101.out 7
          go_wp2
          (first | go_meet | (refine Met.intro ?_; go_step; (repeat apply Exists.intro); refine ⟨?rel, (by first | rfl | (simp only [c23b0]; rfl))⟩))
          case rel => exact ⟨_, (false), (by first | rfl | (simp; done) | (simp [*]; done)), H', ⟨by have := HJ5.out; first | omega | exact Nat.le_refl _⟩, ⟨by (with_reducible repeat (first | refine blk_drewN ?_ _ | refine blk_drew ?_ | refine blk_alloc ?_ _)); exact BK101.out⟩, ⟨by (with_reducible repeat (first | refine blk_drewN ?_ _ | refine blk_drew ?_ | refine blk_alloc ?_ _)); exact BK103.out⟩, ⟨by repeat (first | (with_reducible first | exact HB.out | apply below_alloc | apply pw_below_drewN | apply below_drew1 | refine below_set ?_ GE101.out | refine below_set ?_ GE103.out) | exact HB.out)⟩⟩
         ·
          rw [if_neg c23] at H
          have c23b0 : ((t104.extract 0 t106.size).toList == t106.toList) = false := beq_eq_false_iff_ne.mpr c23
          have c23b1 : ((t104.extract 0 t106.size).toList != t106.toList) = true := bne_iff_ne.mpr c23
          (first | rw [c23b0] | (simp only [i64_w, i32_w]; rw [c23b0]) | skip)
          have H' := Aside0.mk H
          clear H
          have hnb26 := NB101_103.out
          have hnc26 := NB103_101.out
          have hcz27_0 : wc.cell? ⟨gb101, 0, none⟩ = some (.bool a1_0) := (blk_cell BK101.out 0).trans rfl
          have hcz27_1 : wc.cell? ⟨gb101, 1, none⟩ = some (.bool true) := (blk_cell BK101.out 1).trans rfl
          have hcz27_2 : wc.cell? ⟨gb101, 2, none⟩ = some (.bool a1_2) := (blk_cell BK101.out 2).trans rfl
          have hcz27_3 : wc.cell? ⟨gb101, 3, none⟩ = some (.bool a1_3) := (blk_cell BK101.out 3).trans rfl
          have hcz27_4 : wc.cell? ⟨gb101, 4, none⟩ = some (.bool a1_4) := (blk_cell BK101.out 4).trans rfl
          have hcz27_5 : wc.cell? ⟨gb101, 5, none⟩ = some (.int .i64 a1_5) := (blk_cell BK101.out 5).trans rfl
          have hcz27_6 : wc.cell? ⟨gb101, 6, none⟩ = some (.int .i64 a1_6) := (blk_cell BK101.out 6).trans rfl
          have hcz27_7 : wc.cell? ⟨gb101, 7, none⟩ = some (.int .i32 a1_7) := (blk_cell BK101.out 7).trans rfl
          have hfz27_0 := blk_frozen BK101.out 0
          have hfz27_1 := blk_frozen BK101.out 1
          have hfz27_2 := blk_frozen BK101.out 2
          have hfz27_3 := blk_frozen BK101.out 3
          have hfz27_4 := blk_frozen BK101.out 4
          have hfz27_5 := blk_frozen BK101.out 5
          have hfz27_6 := blk_frozen BK101.out 6
          have hfz27_7 := blk_frozen BK101.out 7
          go_wp2
          (first | go_meet | (refine Met.intro ?_; go_step; (repeat apply Exists.intro); refine ⟨?rel, (by first | rfl | (simp only [c23b0]; rfl))⟩))
          case rel => exact ⟨_, (true), (by first | rfl | (simp; done) | (simp [*]; done)), H', ⟨by have := HJ5.out; first | omega | exact Nat.le_refl _⟩, ⟨by (with_reducible repeat (first | refine blk_drewN ?_ _ | refine blk_drew ?_ | refine blk_alloc ?_ _)); exact BK101.out⟩, ⟨by (with_reducible repeat (first | refine blk_drewN ?_ _ | refine blk_drew ?_ | refine blk_alloc ?_ _)); exact BK103.out⟩, ⟨by repeat (first | (with_reducible first | exact HB.out | apply below_alloc | apply pw_below_drewN | apply below_drew1 | refine below_set ?_ GE101.out | refine below_set ?_ GE103.out) | exact HB.out)⟩⟩
        ·
         rw [if_neg c22] at H
         exact absurd H (by simp)
       ·
        rw [if_neg c21] at H
        exact absurd H (by simp)
      ·
       replace c20 := Bool.eq_false_iff.mpr c20
       subst c20
       have H1 : (if 0 ≤ (wrap64 ((t104.size : Int) - (t106.size : Int))) then (if (wrap64 ((t104.size : Int) - (t106.size : Int))) ≤ (t104.size : Int) then (platenlaw02_QuoteWide.j1 kj5 t104 t106 ((t104.extract ((wrap64 ((t104.size : Int) - (t106.size : Int))) : Int).toNat t104.size).toList != t106.toList) a1_0 false a1_2 a1_3 a1_4 a1_5 a1_6 a1_7) else (none)) else (none)) = some r := by rw [if_neg (show ¬ (false = true) by decide)] at H; exact H
       clear H
       have H := H1
       clear H1
       obtain ⟨ji28, hji28⟩ : ∃ j_ : Int, (wrap64 ((t104.size : Int) - (t106.size : Int))) = j_ := ⟨_, rfl⟩
       replace H : (if 0 ≤ (ji28) then (if (ji28) ≤ (t104.size : Int) then (platenlaw02_QuoteWide.j1 kj5 t104 t106 ((t104.extract ((ji28) : Int).toNat t104.size).toList != t106.toList) a1_0 false a1_2 a1_3 a1_4 a1_5 a1_6 a1_7) else (none)) else (none)) = some r := by first | (rw [hji28] at H; exact H) | (simp only [hji28] at H ⊢; exact H)
       have hji28w : (IntKind.i64.wrap ((t104.size : Int) - (t106.size : Int))) = ji28 := (i64_w _).trans hji28
       by_cases c29 : 0 ≤ (ji28)
       ·
        rw [if_pos c29] at H
        have c29b0 := eq_true c29
        have c29b1 : decide (0 ≤ (ji28)) = true := decide_eq_true c29
        clear c29
        by_cases c30 : (ji28) ≤ (t104.size : Int)
        ·
         rw [if_pos c30] at H
         have c30b0 := eq_true c30
         have c30b1 : decide ((ji28) ≤ (t104.size : Int)) = true := decide_eq_true c30
         clear c30
         have H' := Aside0.mk H
         clear H
         have hnb31 := NB101_103.out
         have hnc31 := NB103_101.out
         have hcz32_0 : wc.cell? ⟨gb101, 0, none⟩ = some (.bool a1_0) := (blk_cell BK101.out 0).trans rfl
         have hcz32_1 : wc.cell? ⟨gb101, 1, none⟩ = some (.bool false) := (blk_cell BK101.out 1).trans rfl
         have hcz32_2 : wc.cell? ⟨gb101, 2, none⟩ = some (.bool a1_2) := (blk_cell BK101.out 2).trans rfl
         have hcz32_3 : wc.cell? ⟨gb101, 3, none⟩ = some (.bool a1_3) := (blk_cell BK101.out 3).trans rfl
         have hcz32_4 : wc.cell? ⟨gb101, 4, none⟩ = some (.bool a1_4) := (blk_cell BK101.out 4).trans rfl
         have hcz32_5 : wc.cell? ⟨gb101, 5, none⟩ = some (.int .i64 a1_5) := (blk_cell BK101.out 5).trans rfl
         have hcz32_6 : wc.cell? ⟨gb101, 6, none⟩ = some (.int .i64 a1_6) := (blk_cell BK101.out 6).trans rfl
         have hcz32_7 : wc.cell? ⟨gb101, 7, none⟩ = some (.int .i32 a1_7) := (blk_cell BK101.out 7).trans rfl
         have hfz32_0 := blk_frozen BK101.out 0
         have hfz32_1 := blk_frozen BK101.out 1
         have hfz32_2 := blk_frozen BK101.out 2
         have hfz32_3 := blk_frozen BK101.out 3
         have hfz32_4 := blk_frozen BK101.out 4
         have hfz32_5 := blk_frozen BK101.out 5
         have hfz32_6 := blk_frozen BK101.out 6
         have hfz32_7 := blk_frozen BK101.out 7
         go_wp2
         go_meet
         case rel => exact ⟨_, (((t104.extract ((ji28) : Int).toNat t104.size).toList != t106.toList)), (by first | rfl | (simp; done) | (simp only [← hji28] <;> (first | rfl | simp)) | (simp [*]; done)), H', ⟨by have := HJ5.out; first | omega | exact Nat.le_refl _⟩, ⟨by (with_reducible repeat (first | refine blk_drewN ?_ _ | refine blk_drew ?_ | refine blk_alloc ?_ _)); exact BK101.out⟩, ⟨by (with_reducible repeat (first | refine blk_drewN ?_ _ | refine blk_drew ?_ | refine blk_alloc ?_ _)); exact BK103.out⟩, ⟨by repeat (first | (with_reducible first | exact HB.out | apply below_alloc | apply pw_below_drewN | apply below_drew1 | refine below_set ?_ GE101.out | refine below_set ?_ GE103.out) | exact HB.out)⟩⟩
        ·
         rw [if_neg c30] at H
         exact absurd H (by simp)
       ·
        rw [if_neg c29] at H
        exact absurd H (by simp)
     case rest =>
      clear HC19
      try clear c1
      try clear c2
      try clear p2
      try clear c3
      try clear p6
      try clear c8
      try clear c10
      try clear c11
      try clear c16
      try clear c16b0
      try clear c16b1
      try clear c16b2
      try clear c17
      try clear c18
      try clear c20
      try clear c21
      try clear c21b0
      try clear c21b1
      try clear c22
      try clear c22b0
      try clear c22b1
      try clear c23
      try clear c23b0
      try clear c23b1
      try clear c24
      try clear c26
      try clear c29
      try clear c29b0
      try clear c29b1
      try clear c30
      try clear c30b0
      try clear c30b1
      try clear c31
      try clear hcz11_0
      try clear hcz11_1
      try clear hcz11_2
      try clear hcz11_3
      try clear hcz11_4
      try clear hcz11_5
      try clear hcz11_6
      try clear hcz11_7
      try clear hcz12_0
      try clear hcz12_1
      try clear hcz12_2
      try clear hcz12_3
      try clear hcz12_4
      try clear hcz12_5
      try clear hcz12_6
      try clear hcz12_7
      try clear hcz14_0
      try clear hcz14_1
      try clear hcz14_2
      try clear hcz14_3
      try clear hcz14_4
      try clear hcz14_5
      try clear hcz14_6
      try clear hcz14_7
      try clear hcz25_0
      try clear hcz25_1
      try clear hcz25_2
      try clear hcz25_3
      try clear hcz25_4
      try clear hcz25_5
      try clear hcz25_6
      try clear hcz25_7
      try clear hcz27_0
      try clear hcz27_1
      try clear hcz27_2
      try clear hcz27_3
      try clear hcz27_4
      try clear hcz27_5
      try clear hcz27_6
      try clear hcz27_7
      try clear hcz32_0
      try clear hcz32_1
      try clear hcz32_2
      try clear hcz32_3
      try clear hcz32_4
      try clear hcz32_5
      try clear hcz32_6
      try clear hcz32_7
      try clear hcz8_0
      try clear hcz8_1
      try clear hcz8_2
      try clear hcz8_3
      try clear hcz8_4
      try clear hcz8_5
      try clear hcz8_6
      try clear hcz8_7
      try clear hfz11_0
      try clear hfz11_1
      try clear hfz11_2
      try clear hfz11_3
      try clear hfz11_4
      try clear hfz11_5
      try clear hfz11_6
      try clear hfz11_7
      try clear hfz12_0
      try clear hfz12_1
      try clear hfz12_2
      try clear hfz12_3
      try clear hfz12_4
      try clear hfz12_5
      try clear hfz12_6
      try clear hfz12_7
      try clear hfz14_0
      try clear hfz14_1
      try clear hfz14_2
      try clear hfz14_3
      try clear hfz14_4
      try clear hfz14_5
      try clear hfz14_6
      try clear hfz14_7
      try clear hfz25_0
      try clear hfz25_1
      try clear hfz25_2
      try clear hfz25_3
      try clear hfz25_4
      try clear hfz25_5
      try clear hfz25_6
      try clear hfz25_7
      try clear hfz27_0
      try clear hfz27_1
      try clear hfz27_2
      try clear hfz27_3
      try clear hfz27_4
      try clear hfz27_5
      try clear hfz27_6
      try clear hfz27_7
      try clear hfz32_0
      try clear hfz32_1
      try clear hfz32_2
      try clear hfz32_3
      try clear hfz32_4
      try clear hfz32_5
      try clear hfz32_6
      try clear hfz32_7
      try clear hfz8_0
      try clear hfz8_1
      try clear hfz8_2
      try clear hfz8_3
      try clear hfz8_4
      try clear hfz8_5
      try clear hfz8_6
      try clear hfz8_7
      try clear p2
      obtain ⟨kq, x72_18, rfl, HA, HJ18, BK101, BK103, HB⟩ := hcut
      cases kq with
      | zero => exact absurd HA.out (by simp [platenlaw02_QuoteWide.j1])
      | succ kj18 =>
       have H := HA.out
       clear HA
       simp only [platenlaw02_QuoteWide.j1] at H
       by_cases c33 : x72_18 = true
       ·
        subst c33
        have H1 : (some false) = some r := by rw [if_pos rfl] at H; exact H
        clear H
        have H := H1
        clear H1
        obtain rfl := Option.some.inj H
        go_wp2
        go_ret
        exact ⟨by first | rfl | (simp [errW_none, errW_some] <;> rfl) | (simp [*, errW_none, errW_some] <;> rfl), by repeat (first | (with_reducible first | exact HB.out | apply below_alloc | apply pw_below_drewN | apply below_drew1 | refine below_set ?_ GE101.out | refine below_set ?_ GE103.out) | exact HB.out)⟩
       ·
        replace c33 := Bool.eq_false_iff.mpr c33
        subst c33
        have H1 : ((buf_Count.f t104).bind fun t109 => ((buf_Count.f t106).bind fun t110 => (if t109 = (mx t110 (mn a1_5 1000)) then ((PQGen.platenlaw02_lives.f kj18).bind fun t111 => (some t111)) else (some false)))) = some r := by rw [if_neg (show ¬ (false = true) by decide)] at H; exact H
        clear H
        have H := H1
        clear H1
        replace H := Option.bind_eq_some_iff.mp H
        obtain ⟨t109, A340, H⟩ := H
        replace H : ((buf_Count.f t106).bind fun t110 => (if t109 = (mx t110 (mn a1_5 1000)) then ((PQGen.platenlaw02_lives.f kj18).bind fun t111 => (some t111)) else (some false))) = some r := H
        have A34 := Aside0.mk A340
        clear A340
        replace H := Option.bind_eq_some_iff.mp H
        obtain ⟨t110, A350, H⟩ := H
        replace H : (if t109 = (mx t110 (mn a1_5 1000)) then ((PQGen.platenlaw02_lives.f kj18).bind fun t111 => (some t111)) else (some false)) = some r := H
        have A35 := Aside0.mk A350
        clear A350
        obtain ⟨ji36, hji36⟩ : ∃ j_ : Int, (mn a1_5 1000) = j_ := ⟨_, rfl⟩
        replace H : (if t109 = (mx t110 (ji36)) then ((PQGen.platenlaw02_lives.f kj18).bind fun t111 => (some t111)) else (some false)) = some r := by first | (rw [hji36] at H; exact H) | (simp only [hji36] at H ⊢; exact H)
        (try rw [hji36] at A34)
        (try rw [hji36] at A35)
        have hji36_ : (if 1000 < a1_5 then 1000 else a1_5) = ji36 := hji36
        obtain ⟨ji37, hji37⟩ : ∃ j_ : Int, (mx t110 (ji36)) = j_ := ⟨_, rfl⟩
        replace H : (if t109 = (ji37) then ((PQGen.platenlaw02_lives.f kj18).bind fun t111 => (some t111)) else (some false)) = some r := by first | (rw [hji37] at H; exact H) | (simp only [hji37] at H ⊢; exact H)
        (try rw [hji37] at A34)
        (try rw [hji37] at A35)
        have hji37_ : (if t110 < (ji36) then (ji36) else t110) = ji37 := hji37
        by_cases c38 : t109 = (ji37)
        ·
         rw [if_pos c38] at H
         have c38b0 : (t109 == (ji37)) = true := beq_iff_eq.mpr c38
         have c38b1 : (t109 != (ji37)) = false := bne_eq_false_iff_eq.mpr c38
         clear c38
         replace H := Option.bind_eq_some_iff.mp H
         obtain ⟨t111, A390, H⟩ := H
         replace H : (some t111) = some r := H
         have A39 := Aside0.mk A390
         clear A390
         obtain rfl := Option.some.inj H
         try go_wp2
         have n0_ := Aside0.mk (blk_drew BK101.out)
         have n1_ := Aside0.mk (blk_drew BK103.out)
         have n2_ := Aside0.mk (below_drew1 HB.out)
         clear BK101
         clear BK103
         clear HB
         have BK101 := n0_
         have BK103 := n1_
         have HB := n2_
         clear n0_ n1_ n2_
         refine start_ (n := 13) (S := fun w' => w'.cell? ⟨gb101, 0, none⟩ = some (.bool a1_0) ∧ w'.cell? ⟨gb101, 1, none⟩ = some (.bool a1_1) ∧ w'.cell? ⟨gb101, 2, none⟩ = some (.bool a1_2) ∧ w'.cell? ⟨gb101, 3, none⟩ = some (.bool a1_3) ∧ w'.cell? ⟨gb101, 4, none⟩ = some (.bool a1_4) ∧ w'.cell? ⟨gb101, 5, none⟩ = some (.int .i64 a1_5) ∧ w'.cell? ⟨gb101, 6, none⟩ = some (.int .i64 a1_6) ∧ w'.cell? ⟨gb101, 7, none⟩ = some (.int .i32 a1_7)) (ds := []) #[false, false, false, false, false, false, false, false, false, false, false, false, false] (by kernel_rfl) rfl rfl ⟨(blk_cell BK101.out 0).trans rfl, (blk_cell BK101.out 1).trans rfl, (blk_cell BK101.out 2).trans rfl, (blk_cell BK101.out 3).trans rfl, (blk_cell BK101.out 4).trans rfl, (blk_cell BK101.out 5).trans rfl, (blk_cell BK101.out 6).trans rfl, (blk_cell BK101.out 7).trans rfl⟩ (fun hHeld => ?_); refine with_tabW platenlaw02_QuoteWide.tab12 platenlaw02_QuoteWide.bits12 (fun HT_ HW_ => ?_)
         generalize wc.drew = w40 at BK101 BK103 HB hHeld ⊢
         refine pure_ (i := 0) (N := some 73) (v := ?_) (a' := ?_) #[true, false, false, false, false, false, false, false, false, false, false, false, false] rfl rfl (any_of HT_.out (by kernel_rfl)) (fun _ _ _ h => h) (Or.inl ⟨by rfl, ?_⟩) ?_ ?_
         rotate_left
         ·
          intro w'
          go_simp
          with_reducible rfl
         rotate_left
         ·
          simp only [Act.put, List.setIfInBounds_toArray, List.set_cons_zero, List.set_cons_succ, i64_w, i32_w]
          rfl
         refine pure_ (i := 2) (N := some 75) (v := ?_) (a' := ?_) #[true, false, true, false, false, false, false, false, false, false, false, false, false] rfl rfl (any_of HT_.out (by kernel_rfl)) (fun _ _ _ h => h) (Or.inl ⟨by rfl, ?_⟩) ?_ ?_
         rotate_left
         ·
          intro w'
          go_simp
          with_reducible rfl
         rotate_left
         ·
          simp only [Act.put, List.setIfInBounds_toArray, List.set_cons_zero, List.set_cons_succ, i64_w, i32_w]
          rfl
         refine pure_ (i := 4) (N := some 77) (v := ?_) (a' := ?_) #[true, false, true, false, true, false, false, false, false, false, false, false, false] rfl rfl (any_of HT_.out (by kernel_rfl)) (fun _ _ _ h => h) (Or.inl ⟨by rfl, ?_⟩) ?_ ?_
         rotate_left
         ·
          intro w'
          go_simp
          with_reducible rfl
         rotate_left
         ·
          simp only [Act.put, List.setIfInBounds_toArray, List.set_cons_zero, List.set_cons_succ, i64_w, i32_w]
          rfl
         refine take_ (i := 5) (N := some 78) (v := ?_) (a' := ?_) #[true, false, true, false, true, true, false, false, false, false, false, false, false] rfl rfl (take_ofW HT_.out HW_.out (by kernel_rfl)) (fun _ _ _ h => h) (Or.inl ⟨by rfl, ?_⟩) hHeld ?_ ?_
         rotate_left
         ·
          rintro w' ⟨s0, s1, s2, s3, s4, s5, s6, s7⟩
          go_simp
          with_reducible rfl
         rotate_left
         ·
          simp only [Act.put, List.setIfInBounds_toArray, List.set_cons_zero, List.set_cons_succ, i64_w, i32_w]
          rfl
         refine pure_ (i := 6) (N := some 79) (v := ?_) (a' := ?_) #[true, false, true, false, true, true, true, false, false, false, false, false, false] rfl rfl (any_of HT_.out (by kernel_rfl)) (fun _ _ _ h => h) (Or.inl ⟨by rfl, ?_⟩) ?_ ?_
         rotate_left
         ·
          intro w'
          go_simp
          with_reducible rfl
         rotate_left
         ·
          simp only [Act.put, List.setIfInBounds_toArray, List.set_cons_zero, List.set_cons_succ, i64_w, i32_w]
          rfl
         refine one_ (i := 1) (N := some 74) #[true, true, true, false, true, true, true, false, false, false, false, false, false] rfl rfl (one_of HT_.out (by kernel_rfl)) (by decide) (fun K hK => ?_)
         refine goes_ Tryd.func21 (by kernel_rfl) rfl #[.string t104] (by rfl) rfl rfl (by (try simp only [List.map_toArray, List.map_cons, List.map_nil]); first | done | rfl | (simp only [List.length_drop, List.length_take]; rfl)) ?_
         with_reducible refine (buf_Count.calls t104 t109 _ A34.out).mono ?_
         rintro e w41 ⟨rfl, hb⟩
         refine ⟨_, rfl, ?_⟩
         have n0_ := Aside0.mk (blk_below (g := gb101) (o := .cells #[.bool a1_0, .bool a1_1, .bool a1_2, .bool a1_3, .bool a1_4, .int .i64 a1_5, .int .i64 a1_6, .int .i32 a1_7] 28 (0, 0)) (by (with_reducible repeat (first | refine blk_drewN ?_ _ | refine blk_drew ?_ | refine blk_alloc ?_ _)); exact BK101.out) hb)
         have n1_ := Aside0.mk (blk_below (g := gb103) (o := .cells #[.bool a1_0, .bool a1_1, .bool a1_2, .bool a1_3, .bool a1_4, .int .i64 (-1), .int .i64 a1_6, .int .i32 a1_7] 28 (0, 0)) (by (with_reducible repeat (first | refine blk_drewN ?_ _ | refine blk_drew ?_ | refine blk_alloc ?_ _)); exact BK103.out) hb)
         have n2_ := Aside0.mk (below_step (by repeat (first | (with_reducible first | exact HB.out | apply below_alloc | apply pw_below_drewN | apply below_drew1 | refine below_set ?_ GE101.out | refine below_set ?_ GE103.out) | exact HB.out)) hb)
         clear BK101
         clear BK103
         clear HB
         have BK101 := n0_
         have BK103 := n1_
         have HB := n2_
         clear n0_ n1_ n2_
         (try clear hb)
         (try clear hb2)
         (try clear hk)
         (try clear hi)
         refine hK.out _ _ ⟨(blk_cell BK101.out 0).trans rfl, (blk_cell BK101.out 1).trans rfl, (blk_cell BK101.out 2).trans rfl, (blk_cell BK101.out 3).trans rfl, (blk_cell BK101.out 4).trans rfl, (blk_cell BK101.out 5).trans rfl, (blk_cell BK101.out 6).trans rfl, (blk_cell BK101.out 7).trans rfl⟩ (fun hHeld => ?_)
         clear hK K
         refine norm_ (a' := ?_) ?_ ?_
         rotate_left
         ·
          show Act.put _ (some 74) _ = _
          simp only [Act.put, List.setIfInBounds_toArray, List.set_cons_zero, List.set_cons_succ, i64_w, i32_w]
          rfl
         refine one_ (i := 3) (N := some 76) #[true, true, true, true, true, true, true, false, false, false, false, false, false] rfl rfl (one_of HT_.out (by kernel_rfl)) (by decide) (fun K hK => ?_)
         refine goes_ Tryd.func21 (by kernel_rfl) rfl #[.string t106] (by rfl) rfl rfl (by (try simp only [List.map_toArray, List.map_cons, List.map_nil]); first | done | rfl | (simp only [List.length_drop, List.length_take]; rfl)) ?_
         with_reducible refine (buf_Count.calls t106 t110 _ A35.out).mono ?_
         rintro e w42 ⟨rfl, hb⟩
         refine ⟨_, rfl, ?_⟩
         have n0_ := Aside0.mk (blk_below (g := gb101) (o := .cells #[.bool a1_0, .bool a1_1, .bool a1_2, .bool a1_3, .bool a1_4, .int .i64 a1_5, .int .i64 a1_6, .int .i32 a1_7] 28 (0, 0)) (by (with_reducible repeat (first | refine blk_drewN ?_ _ | refine blk_drew ?_ | refine blk_alloc ?_ _)); exact BK101.out) hb)
         have n1_ := Aside0.mk (blk_below (g := gb103) (o := .cells #[.bool a1_0, .bool a1_1, .bool a1_2, .bool a1_3, .bool a1_4, .int .i64 (-1), .int .i64 a1_6, .int .i32 a1_7] 28 (0, 0)) (by (with_reducible repeat (first | refine blk_drewN ?_ _ | refine blk_drew ?_ | refine blk_alloc ?_ _)); exact BK103.out) hb)
         have n2_ := Aside0.mk (below_step (by repeat (first | (with_reducible first | exact HB.out | apply below_alloc | apply pw_below_drewN | apply below_drew1 | refine below_set ?_ GE101.out | refine below_set ?_ GE103.out) | exact HB.out)) hb)
         clear BK101
         clear BK103
         clear HB
         have BK101 := n0_
         have BK103 := n1_
         have HB := n2_
         clear n0_ n1_ n2_
         (try clear hb)
         (try clear hb2)
         (try clear hk)
         (try clear hi)
         refine hK.out _ _ ⟨(blk_cell BK101.out 0).trans rfl, (blk_cell BK101.out 1).trans rfl, (blk_cell BK101.out 2).trans rfl, (blk_cell BK101.out 3).trans rfl, (blk_cell BK101.out 4).trans rfl, (blk_cell BK101.out 5).trans rfl, (blk_cell BK101.out 6).trans rfl, (blk_cell BK101.out 7).trans rfl⟩ (fun hHeld => ?_)
         clear hK K
         refine norm_ (a' := ?_) ?_ ?_
         rotate_left
         ·
          show Act.put _ (some 76) _ = _
          simp only [Act.put, List.setIfInBounds_toArray, List.set_cons_zero, List.set_cons_succ, i64_w, i32_w]
          rfl
         refine pure_ (i := 7) (N := some 80) (v := ?_) (a' := ?_) #[true, true, true, true, true, true, true, true, false, false, false, false, false] rfl rfl (any_of HT_.out (by kernel_rfl)) (fun _ _ _ h => h) (Or.inl ⟨by rfl, ?_⟩) ?_ ?_
         rotate_left
         ·
          intro w'
          go_simp
          with_reducible rfl
         rotate_left
         ·
          simp only [Act.put, List.setIfInBounds_toArray, List.set_cons_zero, List.set_cons_succ, i64_w, i32_w]
          rfl
         refine pure_ (i := 8) (N := some 81) (v := ?_) (a' := ?_) #[true, true, true, true, true, true, true, true, true, false, false, false, false] rfl rfl (any_of HT_.out (by kernel_rfl)) (fun _ _ _ h => h) (Or.inl ⟨by rfl, ?_⟩) ?_ ?_
         rotate_left
         ·
          intro w'
          go_simp
          with_reducible rfl
         rotate_left
         ·
          simp only [Act.put, List.setIfInBounds_toArray, List.set_cons_zero, List.set_cons_succ, i64_w, i32_w]
          rfl
         refine pure_ (i := 9) (N := some 82) (v := ?_) (a' := ?_) #[true, true, true, true, true, true, true, true, true, true, false, false, false] rfl rfl (any_of HT_.out (by kernel_rfl)) (fun _ _ _ h => h) (Or.inl ⟨by rfl, ?_⟩) ?_ ?_
         rotate_left
         ·
          intro w'
          go_simp
          with_reducible rfl
         rotate_left
         ·
          simp only [Act.put, List.setIfInBounds_toArray, List.set_cons_zero, List.set_cons_succ, i64_w, i32_w]
          rfl
         refine one_ (i := 10) (N := some 83) #[true, true, true, true, true, true, true, true, true, true, true, false, false] rfl rfl (one_of HT_.out (by kernel_rfl)) (by decide) (fun K hK => ?_)
         refine goes_ Tryd.func14 (by kernel_rfl) rfl #[] (by rfl) rfl rfl (by (try simp only [List.map_toArray, List.map_cons, List.map_nil]); first | done | rfl | (simp only [List.length_drop, List.length_take]; rfl)) ?_
         with_reducible refine (PQGen.platenlaw02_lives.calls kj18  t111 _ (by (try refine Aside0.mk ?_); first | exact hOK.out | exact (hOK.out).drewN _ | (refine (hOK.out).later ?_; (repeat (first | (with_reducible first | exact HB.out | apply below_alloc | apply pw_below_drewN | apply below_drew1) | exact HB.out | (refine Below.setCell ?_ (show _ ≤ _ from Aside0.out (by assumption)) _)))) | (refine Ok.drewN ?_ _; exact hOK.out)) A39.out).mono ?_
         rintro e w43 ⟨rfl, hb⟩
         refine ⟨_, rfl, ?_⟩
         have n0_ := Aside0.mk (blk_below (g := gb101) (o := .cells #[.bool a1_0, .bool a1_1, .bool a1_2, .bool a1_3, .bool a1_4, .int .i64 a1_5, .int .i64 a1_6, .int .i32 a1_7] 28 (0, 0)) (by (with_reducible repeat (first | refine blk_drewN ?_ _ | refine blk_drew ?_ | refine blk_alloc ?_ _)); exact BK101.out) hb)
         have n1_ := Aside0.mk (blk_below (g := gb103) (o := .cells #[.bool a1_0, .bool a1_1, .bool a1_2, .bool a1_3, .bool a1_4, .int .i64 (-1), .int .i64 a1_6, .int .i32 a1_7] 28 (0, 0)) (by (with_reducible repeat (first | refine blk_drewN ?_ _ | refine blk_drew ?_ | refine blk_alloc ?_ _)); exact BK103.out) hb)
         have n2_ := Aside0.mk (below_step (by repeat (first | (with_reducible first | exact HB.out | apply below_alloc | apply pw_below_drewN | apply below_drew1 | refine below_set ?_ GE101.out | refine below_set ?_ GE103.out) | exact HB.out)) hb)
         clear BK101
         clear BK103
         clear HB
         have BK101 := n0_
         have BK103 := n1_
         have HB := n2_
         clear n0_ n1_ n2_
         (try clear hb)
         (try clear hb2)
         (try clear hk)
         (try clear hi)
         refine hK.out _ _ ⟨(blk_cell BK101.out 0).trans rfl, (blk_cell BK101.out 1).trans rfl, (blk_cell BK101.out 2).trans rfl, (blk_cell BK101.out 3).trans rfl, (blk_cell BK101.out 4).trans rfl, (blk_cell BK101.out 5).trans rfl, (blk_cell BK101.out 6).trans rfl, (blk_cell BK101.out 7).trans rfl⟩ (fun hHeld => ?_)
         clear hK K
         refine norm_ (a' := ?_) ?_ ?_
         rotate_left
         ·
          show Act.put _ (some 83) _ = _
          simp only [Act.put, List.setIfInBounds_toArray, List.set_cons_zero, List.set_cons_succ, i64_w, i32_w]
          rfl
         refine pure_ (i := 11) (N := some 84) (v := ?_) (a' := ?_) #[true, true, true, true, true, true, true, true, true, true, true, true, false] rfl rfl (any_of HT_.out (by kernel_rfl)) (fun _ _ _ h => h) (Or.inl ⟨by rfl, ?_⟩) ?_ ?_
         rotate_left
         ·
          intro w'
          go_simp
          with_reducible rfl
         rotate_left
         ·
          simp only [Act.put, List.setIfInBounds_toArray, List.set_cons_zero, List.set_cons_succ, i64_w, i32_w]
          rfl
         refine pure_ (i := 12) (N := some 4) (v := ?_) (a' := ?_) #[true, true, true, true, true, true, true, true, true, true, true, true, true] rfl rfl (any_of HT_.out (by kernel_rfl)) (fun _ _ _ h => h) (Or.inl ⟨by rfl, ?_⟩) ?_ ?_
         rotate_left
         ·
          intro w'
          go_simp
          with_reducible rfl
         rotate_left
         ·
          simp only [Act.put, List.setIfInBounds_toArray, List.set_cons_zero, List.set_cons_succ, i64_w, i32_w]
          rfl
         refine done_ (done_of HT_.out (by kernel_rfl)) ?_
         try go_wp2
         go_ret
         exact ⟨by first | rfl | (simp [errW_none, errW_some] <;> rfl) | (simp only [← hji36, ← hji37]; first | rfl | (simp [errW_none, errW_some] <;> rfl)) | (simp [*, errW_none, errW_some] <;> rfl), by repeat (first | (with_reducible first | exact HB.out | apply below_alloc | apply pw_below_drewN | apply below_drew1 | refine below_set ?_ GE101.out | refine below_set ?_ GE103.out) | exact HB.out)⟩
        ·
         rw [if_neg c38] at H
         have c38b0 : (t109 == (ji37)) = false := beq_eq_false_iff_ne.mpr c38
         have c38b1 : (t109 != (ji37)) = true := bne_iff_ne.mpr c38
         obtain rfl := Option.some.inj H
         try go_wp2
         have n0_ := Aside0.mk (blk_drew BK101.out)
         have n1_ := Aside0.mk (blk_drew BK103.out)
         have n2_ := Aside0.mk (below_drew1 HB.out)
         clear BK101
         clear BK103
         clear HB
         have BK101 := n0_
         have BK103 := n1_
         have HB := n2_
         clear n0_ n1_ n2_
         refine start_ (n := 13) (S := fun w' => w'.cell? ⟨gb101, 0, none⟩ = some (.bool a1_0) ∧ w'.cell? ⟨gb101, 1, none⟩ = some (.bool a1_1) ∧ w'.cell? ⟨gb101, 2, none⟩ = some (.bool a1_2) ∧ w'.cell? ⟨gb101, 3, none⟩ = some (.bool a1_3) ∧ w'.cell? ⟨gb101, 4, none⟩ = some (.bool a1_4) ∧ w'.cell? ⟨gb101, 5, none⟩ = some (.int .i64 a1_5) ∧ w'.cell? ⟨gb101, 6, none⟩ = some (.int .i64 a1_6) ∧ w'.cell? ⟨gb101, 7, none⟩ = some (.int .i32 a1_7)) (ds := []) #[false, false, false, false, false, false, false, false, false, false, false, false, false] (by kernel_rfl) rfl rfl ⟨(blk_cell BK101.out 0).trans rfl, (blk_cell BK101.out 1).trans rfl, (blk_cell BK101.out 2).trans rfl, (blk_cell BK101.out 3).trans rfl, (blk_cell BK101.out 4).trans rfl, (blk_cell BK101.out 5).trans rfl, (blk_cell BK101.out 6).trans rfl, (blk_cell BK101.out 7).trans rfl⟩ (fun hHeld => ?_); refine with_tabW platenlaw02_QuoteWide.tab12 platenlaw02_QuoteWide.bits12 (fun HT_ HW_ => ?_)
         generalize wc.drew = w44 at BK101 BK103 HB hHeld ⊢
         refine pure_ (i := 0) (N := some 73) (v := ?_) (a' := ?_) #[true, false, false, false, false, false, false, false, false, false, false, false, false] rfl rfl (any_of HT_.out (by kernel_rfl)) (fun _ _ _ h => h) (Or.inl ⟨by rfl, ?_⟩) ?_ ?_
         rotate_left
         ·
          intro w'
          go_simp
          with_reducible rfl
         rotate_left
         ·
          simp only [Act.put, List.setIfInBounds_toArray, List.set_cons_zero, List.set_cons_succ, i64_w, i32_w]
          rfl
         refine pure_ (i := 2) (N := some 75) (v := ?_) (a' := ?_) #[true, false, true, false, false, false, false, false, false, false, false, false, false] rfl rfl (any_of HT_.out (by kernel_rfl)) (fun _ _ _ h => h) (Or.inl ⟨by rfl, ?_⟩) ?_ ?_
         rotate_left
         ·
          intro w'
          go_simp
          with_reducible rfl
         rotate_left
         ·
          simp only [Act.put, List.setIfInBounds_toArray, List.set_cons_zero, List.set_cons_succ, i64_w, i32_w]
          rfl
         refine pure_ (i := 4) (N := some 77) (v := ?_) (a' := ?_) #[true, false, true, false, true, false, false, false, false, false, false, false, false] rfl rfl (any_of HT_.out (by kernel_rfl)) (fun _ _ _ h => h) (Or.inl ⟨by rfl, ?_⟩) ?_ ?_
         rotate_left
         ·
          intro w'
          go_simp
          with_reducible rfl
         rotate_left
         ·
          simp only [Act.put, List.setIfInBounds_toArray, List.set_cons_zero, List.set_cons_succ, i64_w, i32_w]
          rfl
         refine take_ (i := 5) (N := some 78) (v := ?_) (a' := ?_) #[true, false, true, false, true, true, false, false, false, false, false, false, false] rfl rfl (take_ofW HT_.out HW_.out (by kernel_rfl)) (fun _ _ _ h => h) (Or.inl ⟨by rfl, ?_⟩) hHeld ?_ ?_
         rotate_left
         ·
          rintro w' ⟨s0, s1, s2, s3, s4, s5, s6, s7⟩
          go_simp
          with_reducible rfl
         rotate_left
         ·
          simp only [Act.put, List.setIfInBounds_toArray, List.set_cons_zero, List.set_cons_succ, i64_w, i32_w]
          rfl
         refine pure_ (i := 6) (N := some 79) (v := ?_) (a' := ?_) #[true, false, true, false, true, true, true, false, false, false, false, false, false] rfl rfl (any_of HT_.out (by kernel_rfl)) (fun _ _ _ h => h) (Or.inl ⟨by rfl, ?_⟩) ?_ ?_
         rotate_left
         ·
          intro w'
          go_simp
          with_reducible rfl
         rotate_left
         ·
          simp only [Act.put, List.setIfInBounds_toArray, List.set_cons_zero, List.set_cons_succ, i64_w, i32_w]
          rfl
         refine one_ (i := 1) (N := some 74) #[true, true, true, false, true, true, true, false, false, false, false, false, false] rfl rfl (one_of HT_.out (by kernel_rfl)) (by decide) (fun K hK => ?_)
         refine goes_ Tryd.func21 (by kernel_rfl) rfl #[.string t104] (by rfl) rfl rfl (by (try simp only [List.map_toArray, List.map_cons, List.map_nil]); first | done | rfl | (simp only [List.length_drop, List.length_take]; rfl)) ?_
         with_reducible refine (buf_Count.calls t104 t109 _ A34.out).mono ?_
         rintro e w45 ⟨rfl, hb⟩
         refine ⟨_, rfl, ?_⟩
         have n0_ := Aside0.mk (blk_below (g := gb101) (o := .cells #[.bool a1_0, .bool a1_1, .bool a1_2, .bool a1_3, .bool a1_4, .int .i64 a1_5, .int .i64 a1_6, .int .i32 a1_7] 28 (0, 0)) (by (with_reducible repeat (first | refine blk_drewN ?_ _ | refine blk_drew ?_ | refine blk_alloc ?_ _)); exact BK101.out) hb)
         have n1_ := Aside0.mk (blk_below (g := gb103) (o := .cells #[.bool a1_0, .bool a1_1, .bool a1_2, .bool a1_3, .bool a1_4, .int .i64 (-1), .int .i64 a1_6, .int .i32 a1_7] 28 (0, 0)) (by (with_reducible repeat (first | refine blk_drewN ?_ _ | refine blk_drew ?_ | refine blk_alloc ?_ _)); exact BK103.out) hb)
         have n2_ := Aside0.mk (below_step (by repeat (first | (with_reducible first | exact HB.out | apply below_alloc | apply pw_below_drewN | apply below_drew1 | refine below_set ?_ GE101.out | refine below_set ?_ GE103.out) | exact HB.out)) hb)
         clear BK101
         clear BK103
         clear HB
         have BK101 := n0_
         have BK103 := n1_
         have HB := n2_
         clear n0_ n1_ n2_
         (try clear hb)
         (try clear hb2)
         (try clear hk)
         (try clear hi)
         refine hK.out _ _ ⟨(blk_cell BK101.out 0).trans rfl, (blk_cell BK101.out 1).trans rfl, (blk_cell BK101.out 2).trans rfl, (blk_cell BK101.out 3).trans rfl, (blk_cell BK101.out 4).trans rfl, (blk_cell BK101.out 5).trans rfl, (blk_cell BK101.out 6).trans rfl, (blk_cell BK101.out 7).trans rfl⟩ (fun hHeld => ?_)
         clear hK K
         refine norm_ (a' := ?_) ?_ ?_
         rotate_left
         ·
          show Act.put _ (some 74) _ = _
          simp only [Act.put, List.setIfInBounds_toArray, List.set_cons_zero, List.set_cons_succ, i64_w, i32_w]
          rfl
         refine one_ (i := 3) (N := some 76) #[true, true, true, true, true, true, true, false, false, false, false, false, false] rfl rfl (one_of HT_.out (by kernel_rfl)) (by decide) (fun K hK => ?_)
         refine goes_ Tryd.func21 (by kernel_rfl) rfl #[.string t106] (by rfl) rfl rfl (by (try simp only [List.map_toArray, List.map_cons, List.map_nil]); first | done | rfl | (simp only [List.length_drop, List.length_take]; rfl)) ?_
         with_reducible refine (buf_Count.calls t106 t110 _ A35.out).mono ?_
         rintro e w46 ⟨rfl, hb⟩
         refine ⟨_, rfl, ?_⟩
         have n0_ := Aside0.mk (blk_below (g := gb101) (o := .cells #[.bool a1_0, .bool a1_1, .bool a1_2, .bool a1_3, .bool a1_4, .int .i64 a1_5, .int .i64 a1_6, .int .i32 a1_7] 28 (0, 0)) (by (with_reducible repeat (first | refine blk_drewN ?_ _ | refine blk_drew ?_ | refine blk_alloc ?_ _)); exact BK101.out) hb)
         have n1_ := Aside0.mk (blk_below (g := gb103) (o := .cells #[.bool a1_0, .bool a1_1, .bool a1_2, .bool a1_3, .bool a1_4, .int .i64 (-1), .int .i64 a1_6, .int .i32 a1_7] 28 (0, 0)) (by (with_reducible repeat (first | refine blk_drewN ?_ _ | refine blk_drew ?_ | refine blk_alloc ?_ _)); exact BK103.out) hb)
         have n2_ := Aside0.mk (below_step (by repeat (first | (with_reducible first | exact HB.out | apply below_alloc | apply pw_below_drewN | apply below_drew1 | refine below_set ?_ GE101.out | refine below_set ?_ GE103.out) | exact HB.out)) hb)
         clear BK101
         clear BK103
         clear HB
         have BK101 := n0_
         have BK103 := n1_
         have HB := n2_
         clear n0_ n1_ n2_
         (try clear hb)
         (try clear hb2)
         (try clear hk)
         (try clear hi)
         refine hK.out _ _ ⟨(blk_cell BK101.out 0).trans rfl, (blk_cell BK101.out 1).trans rfl, (blk_cell BK101.out 2).trans rfl, (blk_cell BK101.out 3).trans rfl, (blk_cell BK101.out 4).trans rfl, (blk_cell BK101.out 5).trans rfl, (blk_cell BK101.out 6).trans rfl, (blk_cell BK101.out 7).trans rfl⟩ (fun hHeld => ?_)
         clear hK K
         refine norm_ (a' := ?_) ?_ ?_
         rotate_left
         ·
          show Act.put _ (some 76) _ = _
          simp only [Act.put, List.setIfInBounds_toArray, List.set_cons_zero, List.set_cons_succ, i64_w, i32_w]
          rfl
         refine pure_ (i := 7) (N := some 80) (v := ?_) (a' := ?_) #[true, true, true, true, true, true, true, true, false, false, false, false, false] rfl rfl (any_of HT_.out (by kernel_rfl)) (fun _ _ _ h => h) (Or.inl ⟨by rfl, ?_⟩) ?_ ?_
         rotate_left
         ·
          intro w'
          go_simp
          with_reducible rfl
         rotate_left
         ·
          simp only [Act.put, List.setIfInBounds_toArray, List.set_cons_zero, List.set_cons_succ, i64_w, i32_w]
          rfl
         refine pure_ (i := 8) (N := some 81) (v := ?_) (a' := ?_) #[true, true, true, true, true, true, true, true, true, false, false, false, false] rfl rfl (any_of HT_.out (by kernel_rfl)) (fun _ _ _ h => h) (Or.inl ⟨by rfl, ?_⟩) ?_ ?_
         rotate_left
         ·
          intro w'
          go_simp
          with_reducible rfl
         rotate_left
         ·
          simp only [Act.put, List.setIfInBounds_toArray, List.set_cons_zero, List.set_cons_succ, i64_w, i32_w]
          rfl
         refine pure_ (i := 9) (N := some 82) (v := ?_) (a' := ?_) #[true, true, true, true, true, true, true, true, true, true, false, false, false] rfl rfl (any_of HT_.out (by kernel_rfl)) (fun _ _ _ h => h) (Or.inl ⟨by rfl, ?_⟩) ?_ ?_
         rotate_left
         ·
          intro w'
          go_simp
          with_reducible rfl
         rotate_left
         ·
          simp only [Act.put, List.setIfInBounds_toArray, List.set_cons_zero, List.set_cons_succ, i64_w, i32_w]
          rfl
         refine pure_ (i := 10) (N := some 83) (v := undef) (a' := ?_) #[true, true, true, true, true, true, true, true, true, true, true, false, false] rfl rfl (any_of HT_.out (by kernel_rfl)) (fun _ _ _ h => h) (Or.inr ⟨by rfl, rfl⟩) ?_ ?_
         rotate_left
         ·
          simp only [Act.put, List.setIfInBounds_toArray, List.set_cons_zero, List.set_cons_succ, i64_w, i32_w]
          rfl
         refine pure_ (i := 11) (N := some 84) (v := ?_) (a' := ?_) #[true, true, true, true, true, true, true, true, true, true, true, true, false] rfl rfl (any_of HT_.out (by kernel_rfl)) (fun _ _ _ h => h) (Or.inl ⟨by rfl, ?_⟩) ?_ ?_
         rotate_left
         ·
          intro w'
          go_simp
          with_reducible rfl
         rotate_left
         ·
          simp only [Act.put, List.setIfInBounds_toArray, List.set_cons_zero, List.set_cons_succ, i64_w, i32_w]
          rfl
         refine pure_ (i := 12) (N := some 4) (v := ?_) (a' := ?_) #[true, true, true, true, true, true, true, true, true, true, true, true, true] rfl rfl (any_of HT_.out (by kernel_rfl)) (fun _ _ _ h => h) (Or.inl ⟨by rfl, ?_⟩) ?_ ?_
         rotate_left
         ·
          intro w'
          go_simp
          with_reducible rfl
         rotate_left
         ·
          simp only [Act.put, List.setIfInBounds_toArray, List.set_cons_zero, List.set_cons_succ, i64_w, i32_w]
          rfl
         refine done_ (done_of HT_.out (by kernel_rfl)) ?_
         try go_wp2
         go_ret
         exact ⟨by first | rfl | (simp [errW_none, errW_some] <;> rfl) | (simp only [← hji36, ← hji37]; first | rfl | (simp [errW_none, errW_some] <;> rfl)) | (simp [*, errW_none, errW_some] <;> rfl), by repeat (first | (with_reducible first | exact HB.out | apply below_alloc | apply pw_below_drewN | apply below_drew1 | refine below_set ?_ GE101.out | refine below_set ?_ GE103.out) | exact HB.out)⟩
    ·
     replace c18 := Bool.eq_false_iff.mpr c18
     subst c18
     have H1 : (if t104.toList = ([] : List UInt8) then (if t106.toList = ([] : List UInt8) then ((PQGen.platenlaw02_lives.f kj5).bind fun t108 => (some t108)) else (some false)) else (some false)) = some r := by rw [if_neg (show ¬ (false = true) by decide)] at H; exact H
     clear H
     have H := H1
     clear H1
     by_cases c47 : t104.toList = ([] : List UInt8)
     ·
      rw [if_pos c47] at H
      have c47b0 : (t104.toList == ([] : List UInt8)) = true := beq_iff_eq.mpr c47
      have c47b1 : (t104.toList != ([] : List UInt8)) = false := bne_eq_false_iff_eq.mpr c47
      clear c47
      by_cases c48 : t106.toList = ([] : List UInt8)
      ·
       rw [if_pos c48] at H
       have c48b0 : (t106.toList == ([] : List UInt8)) = true := beq_iff_eq.mpr c48
       have c48b1 : (t106.toList != ([] : List UInt8)) = false := bne_eq_false_iff_eq.mpr c48
       clear c48
       replace H := Option.bind_eq_some_iff.mp H
       obtain ⟨t108, A490, H⟩ := H
       replace H : (some t108) = some r := H
       have A49 := Aside0.mk A490
       clear A490
       obtain rfl := Option.some.inj H
       go_wp2_with (first | (go_at_call 14; (with_reducible refine (PQGen.platenlaw02_lives.calls kj5  t108 _ (by (try refine Aside0.mk ?_); first | exact hOK.out | exact (hOK.out).drewN _ | (refine (hOK.out).later ?_; (repeat (first | (with_reducible first | exact HB.out | apply below_alloc | apply pw_below_drewN | apply below_drew1) | exact HB.out | (refine Below.setCell ?_ (show _ ≤ _ from Aside0.out (by assumption)) _)))) | (refine Ok.drewN ?_ _; exact hOK.out)) A49.out).mono ?_); rintro e w50 ⟨rfl, hb⟩; have n0_ := Aside0.mk (blk_below (g := gb101) (o := .cells #[.bool a1_0, .bool a1_1, .bool a1_2, .bool a1_3, .bool a1_4, .int .i64 a1_5, .int .i64 a1_6, .int .i32 a1_7] 28 (0, 0)) (by (with_reducible repeat (first | refine blk_drewN ?_ _ | refine blk_drew ?_ | refine blk_alloc ?_ _)); exact BK101.out) hb); have n1_ := Aside0.mk (blk_below (g := gb103) (o := .cells #[.bool a1_0, .bool a1_1, .bool a1_2, .bool a1_3, .bool a1_4, .int .i64 (-1), .int .i64 a1_6, .int .i32 a1_7] 28 (0, 0)) (by (with_reducible repeat (first | refine blk_drewN ?_ _ | refine blk_drew ?_ | refine blk_alloc ?_ _)); exact BK103.out) hb); have n2_ := Aside0.mk (below_step (by repeat (first | (with_reducible first | exact HB.out | apply below_alloc | apply pw_below_drewN | apply below_drew1 | refine below_set ?_ GE101.out | refine below_set ?_ GE103.out) | exact HB.out)) hb); clear BK101; clear BK103; clear HB; have BK101 := n0_; have BK103 := n1_; have HB := n2_; clear n0_ n1_ n2_; (try clear hb); (try clear hb2); (try clear hk); (try clear hi)))
       go_ret
       exact ⟨by first | rfl | (simp [errW_none, errW_some] <;> rfl) | (simp [*, errW_none, errW_some] <;> rfl), by repeat (first | (with_reducible first | exact HB.out | apply below_alloc | apply pw_below_drewN | apply below_drew1 | refine below_set ?_ GE101.out | refine below_set ?_ GE103.out) | exact HB.out)⟩
      ·
       rw [if_neg c48] at H
       have c48b0 : (t106.toList == ([] : List UInt8)) = false := beq_eq_false_iff_ne.mpr c48
       have c48b1 : (t106.toList != ([] : List UInt8)) = true := bne_iff_ne.mpr c48
       obtain rfl := Option.some.inj H
       go_wp2
       go_ret
       exact ⟨by first | rfl | (simp [errW_none, errW_some] <;> rfl) | (simp [*, errW_none, errW_some] <;> rfl), by repeat (first | (with_reducible first | exact HB.out | apply below_alloc | apply pw_below_drewN | apply below_drew1 | refine below_set ?_ GE101.out | refine below_set ?_ GE103.out) | exact HB.out)⟩
     ·
      rw [if_neg c47] at H
      have c47b0 : (t104.toList == ([] : List UInt8)) = false := beq_eq_false_iff_ne.mpr c47
      have c47b1 : (t104.toList != ([] : List UInt8)) = true := bne_iff_ne.mpr c47
      obtain rfl := Option.some.inj H
      go_wp2
      go_ret
      exact ⟨by first | rfl | (simp [errW_none, errW_some] <;> rfl) | (simp [*, errW_none, errW_some] <;> rfl), by repeat (first | (with_reducible first | exact HB.out | apply below_alloc | apply pw_below_drewN | apply below_drew1 | refine below_set ?_ GE101.out | refine below_set ?_ GE103.out) | exact HB.out)⟩
end Go.Proofs.YtcoippikicikoaaDoor.PQWide
namespace Go.Proofs.YtcoippikicikoaaDoor.PQWide
open Go.RowKit Go.Proofs.YtcoippikicikoaaDoorW.PrintWords Go.Proofs.YtcoippikicikoaaDoorW.PrintLast Go.Proofs.YtcoippikicikoaaDoorW.PrintMore
attribute [local go_sem] max2_int min2_int max_two min_two
set_option linter.unusedVariables false
set_option linter.unusedSimpArgs false
end Go.Proofs.YtcoippikicikoaaDoor.PQWide
namespace Go.Proofs.YtcoippikicikoaaDoor
open Go.RowKit Go.Proofs.YtcoippikicikoaaDoorW.PrintWords Go.Proofs.YtcoippikicikoaaDoorW.PrintMore Go.Proofs.YtcoippikicikoaaDoor.PQRef
theorem runes_head (c : UInt8) (hc : c.toNat < 128) (n : Nat) (x : List UInt8) : Lib.runeCount (T (fillL c n ++ x)) = n + Lib.runeCount (T x) := by
  have hz : (T (fillL c n ++ x)).size = n + x.length := by rw [T_size, List.length_append, fillL_length]
  have hs := Lib.runeCount_split (T (fillL c n ++ x)) n (by omega) (by
    intro j hj
    rw [getT]
    have : (fillL c n ++ x).getD j 0 = c := by
      unfold fillL
      rw [List.getD, List.getElem?_append_left (by rw [List.length_replicate]; exact hj), List.getElem?_replicate, if_pos hj]
      rfl
    rw [this]
    exact hc)
  rw [hs, extT1 n (fillL c n) x (fillL_length c n)]
theorem decodeN_tail (n n' b0 b1 b2 b3 c1 c2 c3 : Nat) (h1 : (1 < n → 1 < n' ∧ c1 = b1) ∧ (¬ 1 < n → c1 / 64 ≠ 2)) (h2 : (2 < n → 2 < n' ∧ c2 = b2) ∧ (¬ 2 < n → c2 / 64 ≠ 2)) (h3 : (3 < n → 3 < n' ∧ c3 = b3) ∧ (¬ 3 < n → c3 / 64 ≠ 2)) :
    Lib.decodeN n' b0 c1 c2 c3 = Lib.decodeN n b0 b1 b2 b3 := by
  obtain ⟨a1, e1⟩ := h1
  obtain ⟨a2, e2⟩ := h2
  obtain ⟨a3, e3⟩ := h3
  unfold Lib.decodeN
  by_cases z0 : b0 < 128
  · rw [if_pos z0, if_pos z0]
  rw [if_neg z0, if_neg z0]
  by_cases k1 : 1 < n
  · obtain ⟨f1, rfl⟩ := a1 k1
    by_cases k2 : 2 < n
    · obtain ⟨f2, rfl⟩ := a2 k2
      by_cases k3 : 3 < n
      · obtain ⟨f3, rfl⟩ := a3 k3
        simp only [k1, f1, k2, f2, k3, f3]
      · have e3 := e3 k3
        simp only [k1, f1, k2, f2, k3, e3, and_false, false_and, if_false]
    · have e2 := e2 k2
      simp only [k1, f1, k2, e2, and_false, false_and, if_false]
  · have e1 := e1 k1
    simp only [k1, e1, and_false, false_and, if_false]
theorem sp_getD (x : List UInt8) (n j : Nat) (h : x.length ≤ j) : ((x ++ fillL 32 n).getD j 0).toNat / 64 ≠ 2 := by
  rw [List.getD, List.getElem?_append_right h]
  unfold fillL
  rw [List.getElem?_replicate]
  split <;> decide
theorem runes_from (x : List UInt8) (n : Nat) : ∀ (f p : Nat), p ≤ x.length → x.length ≤ p + f → Lib.runeCountFrom (T (x ++ fillL 32 n)) (f + n) p = Lib.runeCountFrom (T x) f p + n := by
  have hz : (T (x ++ fillL 32 n)).size = x.length + n := by rw [T_size, List.length_append, fillL_length]
  have hx : (T x).size = x.length := T_size x
  have fin : ∀ f p, p = x.length → Lib.runeCountFrom (T (x ++ fillL 32 n)) (f + n) p = Lib.runeCountFrom (T x) f p + n := by
    rintro f p rfl
    have := Lib.head_count (T (x ++ fillL 32 n)) n f x.length (by omega) (by
      intro j h1 h2
      rw [getT, List.getD, List.getElem?_append_right h1]
      unfold fillL
      rw [List.getElem?_replicate, if_pos (by omega)]
      decide)
    rw [Nat.add_comm f n, this, Lib.runeCountFrom_end _ _ _ (by omega), Lib.runeCountFrom_end _ _ _ (by omega)]
    omega
  intro f
  induction f with
  | zero => intro p h1 h2; exact fin 0 p (by omega)
  | succ f ih =>
    intro p h1 h2
    by_cases hp : p < x.length
    · have ed : Utf8.decode (T (x ++ fillL 32 n)) p = Utf8.decode (T x) p := by
        rw [Lib.decode_at, Lib.decode_at, hz, hx]
        simp only [getT]
        have hin : ∀ j, j < x.length → (x ++ fillL 32 n).getD j 0 = x.getD j 0 := fun j hj => by
          rw [List.getD, List.getD, List.getElem?_append_left hj]
        rw [hin p hp]
        refine decodeN_tail _ _ _ _ _ _ _ _ _ ⟨fun h => ⟨by omega, by rw [hin _ (by omega)]⟩, fun h => sp_getD x n _ (by omega)⟩ ⟨fun h => ⟨by omega, by rw [hin _ (by omega)]⟩, fun h => sp_getD x n _ (by omega)⟩ ⟨fun h => ⟨by omega, by rw [hin _ (by omega)]⟩, fun h => sp_getD x n _ (by omega)⟩
      have hw := dec_pos (T x) p (by omega)
      have hd := dec_le (T x) p (by omega)
      rw [show f + 1 + n = (f + n) + 1 by omega, Lib.runeCountFrom, if_pos (by omega), ed, ih _ (by omega) (by omega), Lib.runeCountFrom, if_pos (by omega)]
      omega
    · exact fin (f + 1) p (by omega)
theorem runes_tail (x : List UInt8) (n : Nat) : Lib.runeCount (T (x ++ fillL 32 n)) = Lib.runeCount (T x) + n := by
  have := runes_from x n x.length 0 (by omega) (by omega)
  have hz : (T (x ++ fillL 32 n)).size = x.length + n := by rw [T_size, List.length_append, fillL_length]
  unfold Lib.runeCount
  rw [hz, this, T_size]
theorem padL_runes (x : List UInt8) (minus zero : Bool) (w : Int) : Lib.runeCount (T (padL x minus zero w)) = max (Lib.runeCount (T x)) (min w 1000).toNat := by
  unfold padL
  split
  · rename_i h
    unfold lacksN at h
    omega
  · rename_i h
    split
    · rw [runes_tail]; unfold lacksN at h ⊢; omega
    split
    · rw [runes_head 48 (by decide)]; unfold lacksN at h ⊢; omega
    · rw [runes_head 32 (by decide)]; unfold lacksN at h ⊢; omega
theorem padL_at (x : List UInt8) (minus zero : Bool) (w : Int) : x.length ≤ (padL x minus zero w).length ∧ (minus = true → (padL x minus zero w).take x.length = x) ∧ (minus = false → (padL x minus zero w).drop ((padL x minus zero w).length - x.length) = x) := by
  unfold padL
  split
  · refine ⟨Nat.le_refl _, fun _ => List.take_length, fun _ => by rw [Nat.sub_self]; rfl⟩
  · split
    · rename_i h
      refine ⟨by rw [List.length_append]; omega, fun _ => List.take_left, fun h2 => absurd (h2.symm.trans h) Bool.false_ne_true⟩
    · rename_i h
      have hm : minus = false := by cases minus; rfl; exact absurd rfl h
      have dr : ∀ f : List UInt8, (f ++ x).drop ((f ++ x).length - x.length) = x := fun f => by rw [List.length_append, Nat.add_sub_cancel, List.drop_left]
      split
      · exact ⟨by rw [List.length_append]; omega, fun h2 => absurd (hm.symm.trans h2) Bool.false_ne_true, fun _ => dr _⟩
      · exact ⟨by rw [List.length_append]; omega, fun h2 => absurd (hm.symm.trans h2) Bool.false_ne_true, fun _ => dr _⟩
theorem wide_num (N : Nat) (w : Int) : ((max N (min w 1000).toNat : Nat) : Int) = mx (N : Int) (mn w 1000) := by
  unfold mx mn
  (repeat' split) <;> omega
theorem wide_f (a0 : ByteArray) (b0 b1 b2 b3 b4 : Bool) (w p v : Int) (hp : p ≤ 9223372036854775807) : PQWide.platenlaw02_QuoteWide.f 100000 a0 b0 b1 b2 b3 b4 w p v = some true := by
  obtain ⟨s, hs, hz⟩ := cut_f a0
  have j1 : ∀ (k : Nat) (x : List UInt8), x.length ≤ 20000 → 200 ≤ k → PQWide.platenlaw02_QuoteWide.j1 (k + 1) (T (padL x b1 b4 w)) (T x) false b0 b1 b2 b3 b4 w p v = some true := by
    intro k x hx hk
    have hl := lives_f (k - 100)
    rw [show k - 100 + 100 = k by omega] at hl
    have hpl := padL_length x b1 b4 w
    have c1 : buf_Count.f (T (padL x b1 b4 w)) = some (Lib.runeCount (T (padL x b1 b4 w)) : Int) := by unfold buf_Count.f; rw [if_pos (by rw [T_size]; omega)]
    have c2 : buf_Count.f (T x) = some (Lib.runeCount (T x) : Int) := by unfold buf_Count.f; rw [if_pos (by rw [T_size]; omega)]
    rw [PQWide.platenlaw02_QuoteWide.j1, if_neg Bool.false_ne_true, c1, c2, Option.bind_some, Option.bind_some, padL_runes, wide_num, if_pos (Eq.refl (mx (Lib.runeCount (T x) : Int) (mn w 1000))), hl]
    rfl
  unfold PQWide.platenlaw02_QuoteWide.f
  rw [hs, Option.bind_some, Text_f 100000 s b0 b1 b2 b3 b4 w p v hz hp (by omega), Text_f 100000 s b0 b1 b2 b3 b4 (-1) p v hz hp (by omega), Option.bind_some, Option.bind_some]
  have hlen := textB_length s b0 b2 b3 p v
  cases hT : textB s b0 b2 b3 p v with
  | none =>
    have hl := lives_f 99899
    rw [if_neg (show ¬ ((textR none b1 b4 w).2 != (textR none b1 b4 (-1)).2) = true from Bool.false_ne_true)]
    show PQWide.platenlaw02_QuoteWide.j0 100000 (T []) false (T []) (decide (((T []).size : Int) < ((T []).size : Int))) b0 b1 b2 b3 b4 w p v = some true
    rw [decide_eq_false (by omega), show (100000 : Nat) = 99999 + 1 from rfl, PQWide.platenlaw02_QuoteWide.j0, if_neg Bool.false_ne_true, if_neg Bool.false_ne_true, if_pos (by rw [Lib.toList_data]), if_pos (by rw [Lib.toList_data]), hl]
    rfl
  | some x =>
    have hx := hlen x hT
    rw [if_neg (show ¬ ((textR (some x) b1 b4 w).2 != (textR (some x) b1 b4 (-1)).2) = true from Bool.false_ne_true)]
    show PQWide.platenlaw02_QuoteWide.j0 100000 (T (padL x b1 b4 w)) true (T (padL x b1 b4 (-1))) (decide (((T (padL x b1 b4 w)).size : Int) < ((T (padL x b1 b4 (-1))).size : Int))) b0 b1 b2 b3 b4 w p v = some true
    rw [padL_none]
    obtain ⟨l1, l2, l3⟩ := padL_at x b1 b4 w
    have hpl := padL_length x b1 b4 w
    have za : (T (padL x b1 b4 w)).size = (padL x b1 b4 w).length := T_size _
    have zx : (T x).size = x.length := T_size _
    have g0 : ¬ (((T (padL x b1 b4 w)).size : Nat) : Int) < (((T x).size : Nat) : Int) := by omega
    have g1 : (0 : Int) ≤ (((T x).size : Nat) : Int) := by omega
    have g2 : (((T x).size : Nat) : Int) ≤ (((T (padL x b1 b4 w)).size : Nat) : Int) := by omega
    have e1 : wrap64 ((((T (padL x b1 b4 w)).size : Nat) : Int) - (((T x).size : Nat) : Int)) = ((((padL x b1 b4 w).length - x.length : Nat)) : Int) := by
      rw [za, zx, wrap64_id (by omega) (by omega)]; omega
    have g3 : (0 : Int) ≤ ((((padL x b1 b4 w).length - x.length : Nat)) : Int) := by omega
    have g4 : ((((padL x b1 b4 w).length - x.length : Nat)) : Int) ≤ (((T (padL x b1 b4 w)).size : Nat) : Int) := by omega
    rw [decide_eq_false g0, show (100000 : Nat) = 99998 + 1 + 1 from rfl, PQWide.platenlaw02_QuoteWide.j0, if_neg Bool.false_ne_true, if_pos rfl]
    have hj := j1 99998 x (by omega) (by omega)
    cases b1 with
    | true =>
      have ex : (T (padL x true b4 w)).extract 0 (T x).size = T x := by rw [extT, zx, l2 rfl]; rfl
      rw [if_pos rfl, if_pos g1, if_pos g2, ex, if_pos rfl]
      exact hj
    | false =>
      have ex : (T (padL x false b4 w)).extract ((padL x false b4 w).length - x.length) (T (padL x false b4 w)).size = T x := by rw [extT, za, List.take_length, l3 rfl]
      rw [if_neg Bool.false_ne_true, e1, if_pos g3, if_pos g4, Int.toNat_natCast, ex, show ((T x).toList != (T x).toList) = false from by simp]
      exact hj
theorem lawQuoteWide.lawC (s : ByteArray) (b0 b1 b2 b3 b4 : Bool) (w p v : Int) (W : World) (hok : Ok W) (_h : s.size ≤ 140737488351232) (hp : p ≤ 9223372036854775807) :
    Calls Tryd.prog 8 #[.string s, .agg #[.bool b0, .bool b1, .bool b2, .bool b3, .bool b4, .int .i64 w, .int .i64 p, .int .i32 v]] W fun e w' => e = .returned (.bool true) ∧ Below W.heap.size W w' :=
  PQWide.platenlaw02_QuoteWide.calls 100000 s b0 b1 b2 b3 b4 w p v true W ⟨hok⟩ (wide_f s b0 b1 b2 b3 b4 w p v hp)
end Go.Proofs.YtcoippikicikoaaDoor
namespace Go.Proofs.YtcoippikicikoaaDoor
open Go.ChangeShapes Go.WideShapes Go.ChangeAt Go.RowKit Go.Lib
theorem handed_shaped {H : Type} {enc : TypeId × Value → H} {a : Assume} {C : Checked} {os : Os} {f : FuncId} {fn : Func} {s : ChangeSpec} {conds : List PathCond} {apart fresh handsOn again : Bool} {X : World → Array Value → Prop}
    (hX : ∀ (w w' : World) (args : Array Value), w.heap = w'.heap → X w args → X w' args)
    (own : ownKnob C.prog.godebug = none) (started : os.Started) (noInit : C.prog.inits.idxOf? f = none) (hfn : C.prog.funcs[f]? = some fn)
    (witness : ∃ (w : World) (tape : Tape) (i : Input), w.os = os ∧ (w.forCall tape i).Shaped C.prog ∧ i.vars = [] ∧ Input.okWide C.prog (w.forCall tape i) .any w.heap.size f i ∧
      ((s.pre enc C.prog fn conds apart (w.forCall tape i).memory i.args ∧ X (w.forCall tape i).memory i.args) ∧ sizedMet enc C.prog fn (OpenSpec.ofChange s) apart (w.forCall tape i).memory i.args) ∧ a.holds C.prog (lone (Frame.enter C.prog f i.args .normal) [] (w.forCall tape i)))
    (contract : ∀ (W : World) (base : Nat) (args : Array Value) (ds gs : List (DataW H)) (before : List MemPlace),
      (∀ (j : Nat) t v, fn.params[j]? = some t → args[j]? = some v → Value.okWide C.prog W .any base t v) →
      DataW.Whole enc C.prog fn.params.toList s.vars apart W args.toList ds gs before →
      conds.all (PathCond.test C.prog ⟨fn.params.toList, ds, s.plain.varTypes C.prog, gs⟩) = true →
      (DataW.weightsEach C.prog (fn.params.toList ++ s.plain.varTypes C.prog) (ds ++ gs)).all (· ≤ reachBytes) = true → X W args → W.ShapedOpen C.prog →
      a.holds C.prog (lone (Frame.enter C.prog f args .normal) [] W) →
      Calls C.prog f args W fun e W' => ∃ v, e = .returned v ∧ s.post enc C.prog fn apart fresh handsOn again W args v W') :
    ReturnsInHanded a C os f .any (fun w args => (s.pre enc C.prog fn conds apart w args ∧ X w args) ∧ sizedMet enc C.prog fn (OpenSpec.ofChange s) apart w args) (s.post enc C.prog fn apart fresh handsOn again) := by
  refine returnsInHanded_of_calls own started noInit witness ?_
  intro w tape i _ hsh _ hok hpre hholds
  obtain ⟨_, _, _, fn', hfn', _, _, _, _, hval⟩ := hok
  have e : fn' = fn := Option.some.inj (hfn'.symm.trans hfn)
  subst e
  obtain ⟨⟨⟨ds, gs, before, hw, hc⟩, hx⟩, hz⟩ := hpre
  have hw' := DataW.Whole.of_heap (w' := w.forCall tape i) (by rfl) hw
  refine (contract (w.forCall tape i) w.heap.size i.args ds gs before hval hw' hc (hz.weights hw) (hX _ _ _ (by rfl) hx) hsh hholds).mono fun e W' ⟨v, he, hp⟩ => ?_
  subst he
  exact ChangeSpec.post_blind hp
theorem own : ownKnob Tryd.prog.godebug = none := by kernel_rfl
def tables : List (String × DataW Unit) := [("unicode/utf8.acceptRanges", Rows.laid_unicode_utf8_acceptRanges), ("unicode/utf8.first", Rows.laid_unicode_utf8_first)]
theorem accept_eq : (Rows.laid_unicode_utf8_acceptRanges : DataW Unit) = Lib.acceptData := by kernel_rfl
theorem first_eq : Rows.laid_unicode_utf8_first = Lib.firstData := Pinned.utf8First_eq
theorem extra : U8Extra Tryd.prog Tryd.lays260_ren := ⟨by kernel_rfl, by kernel_rfl, by kernel_rfl, by kernel_rfl, by kernel_rfl, by kernel_rfl, by kernel_rfl⟩
theorem ok_of {W : World} (hL : laidMet Tryd.prog tables W) (hS : W.ShapedOpen Tryd.prog) : Ok W := by
  refine ⟨?_, Go.Proofs.cell_of_shapedOpen_int (zero := #[.int .i64 0]) (t := 3) hS (of_decide_eq_true (by kernel_rfl)) (by kernel_rfl) rfl (by kernel_rfl) (by kernel_rfl) Tryd.underlying3⟩
  have h3 : VarReads Tryd.prog W "unicode/utf8.first" Lib.firstData := first_eq ▸ Lib.laidMet.reads hL (.tail _ (.head _))
  have h4 : VarReads Tryd.prog W "unicode/utf8.acceptRanges" Lib.acceptData := accept_eq ▸ Lib.laidMet.reads hL (.head _)
  exact utf8Tabs_of_reads Tryd.lays260 extra h3 h4
end Go.Proofs.YtcoippikicikoaaDoor
namespace Go.Proofs.YtcoippikicikoaaDoor
open Go.ChangeShapes Go.WideShapes Go.ChangeAt Go.RowKit Go.Lib Go.Joins Go.Deep
theorem array8 {α : Type} {cs : Array α} (h : cs.size = 8) : ∃ c0 c1 c2 c3 c4 c5 c6 c7, cs = #[c0, c1, c2, c3, c4, c5, c6, c7] := by
  obtain ⟨l⟩ := cs
  match l, h with
  | [c0, c1, c2, c3, c4, c5, c6, c7], _ => exact ⟨c0, c1, c2, c3, c4, c5, c6, c7, rfl⟩
theorem list8 {α : Type} {cs : List α} (h : cs.length = 8) : ∃ c0 c1 c2 c3 c4 c5 c6 c7, cs = [c0, c1, c2, c3, c4, c5, c6, c7] := by
  match cs, h with
  | [c0, c1, c2, c3, c4, c5, c6, c7], _ => exact ⟨c0, c1, c2, c3, c4, c5, c6, c7, rfl⟩
theorem laidOutA : laidOutB Tryd.prog = true := by kernel_rfl
theorem open_spec {H : Type} {enc : TypeId × Value → H} {w : World} {base : Nat} {spare : Nat → Bool} {held : Bool} {r : Reach} {b0 : Nat} {v : Value} {d : DataW H} {p : List MemPlace}
    (hv : Value.okWide Tryd.prog w r b0 28 v) (h : DataW.Trod enc Tryd.prog w base spare held 28 v d p) :
    ∃ (q0 q1 q2 q3 q4 : Bool) (x5 x6 x7 : Int), v = .agg #[.bool q0, .bool q1, .bool q2, .bool q3, .bool q4, .int .i64 x5, .int .i64 x6, .int .i32 x7] ∧ x6 ≤ 9223372036854775807 := by
  obtain ⟨cs, rfl, hsz⟩ := okWide_struct Tryd.underlying28 hv
  have hC : Tryd.prog.cellsOf 28 = 8 := by kernel_rfl
  obtain ⟨c0, c1, c2, c3, c4, c5, c6, c7, rfl⟩ := array8 (hsz.trans hC)
  obtain ⟨fuel, hf⟩ := h
  obtain ⟨xs, n, _, hx, hl, hlen, hg⟩ := DataW.trod_struct Tryd.underlying28 hf
  obtain ⟨y0, y1, y2, y3, y4, y5, y6, y7, rfl⟩ := list8 (show xs.length = 8 from hlen)
  have k4 : Tryd.prog.cellsOf 4 = 1 := by kernel_rfl
  have k3 : Tryd.prog.cellsOf 3 = 1 := by kernel_rfl
  have k21 : Tryd.prog.cellsOf 21 = 1 := by kernel_rfl
  have h0 : DataW.trod enc Tryd.prog w base spare held n 4 [c0] = some y0 := by simpa [Value.cells, k4] using hg 0 _ rfl
  have h1 : DataW.trod enc Tryd.prog w base spare held n 4 [c1] = some y1 := by simpa [Value.cells, k4] using hg 1 _ rfl
  have h2 : DataW.trod enc Tryd.prog w base spare held n 4 [c2] = some y2 := by simpa [Value.cells, k4] using hg 2 _ rfl
  have h3 : DataW.trod enc Tryd.prog w base spare held n 4 [c3] = some y3 := by simpa [Value.cells, k4] using hg 3 _ rfl
  have h4 : DataW.trod enc Tryd.prog w base spare held n 4 [c4] = some y4 := by simpa [Value.cells, k4] using hg 4 _ rfl
  have h5 : DataW.trod enc Tryd.prog w base spare held n 3 [c5] = some y5 := by simpa [Value.cells, k3] using hg 5 _ rfl
  have h6 : DataW.trod enc Tryd.prog w base spare held n 3 [c6] = some y6 := by simpa [Value.cells, k3] using hg 6 _ rfl
  have h7 : DataW.trod enc Tryd.prog w base spare held n 21 [c7] = some y7 := by simpa [Value.cells, k21] using hg 7 _ rfl
  obtain ⟨q0, e0, _⟩ := DataW.trod_bool Tryd.underlying4 h0
  obtain ⟨q1, e1, _⟩ := DataW.trod_bool Tryd.underlying4 h1
  obtain ⟨q2, e2, _⟩ := DataW.trod_bool Tryd.underlying4 h2
  obtain ⟨q3, e3, _⟩ := DataW.trod_bool Tryd.underlying4 h3
  obtain ⟨q4, e4, _⟩ := DataW.trod_bool Tryd.underlying4 h4
  obtain ⟨x5, e5, _⟩ := DataW.trod_int Tryd.underlying3 h5
  obtain ⟨x6, e6, _, w6⟩ := DataW.trod_int Tryd.underlying3 h6
  obtain ⟨x7, e7, _⟩ := DataW.trod_int Tryd.underlying21 h7
  obtain rfl : c0 = .bool q0 := List.head_eq_of_cons_eq e0
  obtain rfl : c1 = .bool q1 := List.head_eq_of_cons_eq e1
  obtain rfl : c2 = .bool q2 := List.head_eq_of_cons_eq e2
  obtain rfl : c3 = .bool q3 := List.head_eq_of_cons_eq e3
  obtain rfl : c4 = .bool q4 := List.head_eq_of_cons_eq e4
  obtain rfl : c5 = .int .i64 x5 := List.head_eq_of_cons_eq e5
  obtain rfl : c6 = .int .i64 x6 := List.head_eq_of_cons_eq e6
  obtain rfl : c7 = .int .i32 x7 := List.head_eq_of_cons_eq e7
  exact ⟨q0, q1, q2, q3, q4, x5, x6, x7, rfl, (bounds_i64 w6).2⟩
end Go.Proofs.YtcoippikicikoaaDoor
namespace Go.Proofs.YtcoippikicikoaaDoor.lawQuoteWide
open Go.ChangeShapes Go.WideShapes Go.ChangeAt Go.RowKit Go.Lib
open Go.ChangeMaps (open_string shut_string)
set_option maxRecDepth 100000 in
theorem lifted (os : Os) (started : os.Started) (H : Type) (enc : TypeId × Value → H) :
    ReturnsInHanded {} Tryd.checked os 8 .any (fun w args => (Rows.quoteWideSpec.pre enc Tryd.prog Tryd.f8 [] false w args ∧ laidMetH Tryd.prog tables w) ∧ sizedMet enc Tryd.prog Tryd.f8 (OpenSpec.ofChange Rows.quoteWideSpec) false w args)
      (Rows.quoteWideSpec.post enc Tryd.prog Tryd.f8 false true false false) := by
  refine handed_shaped (C := Tryd.checked) (X := fun w _ => laidMetH Tryd.prog tables w) (fun _ _ _ hh h => h.of_heap hh) own started (by kernel_rfl) Tryd.func8
    (ChangeSpec.witness_shaped (enc := enc) (C := Tryd.checked) (os := os) (X := fun w _ => laidMetH Tryd.prog tables w) false (World.laidAll Tryd.prog os tables) #[.string ⟨#[]⟩, .agg #[.bool false, .bool false, .bool false, .bool false, .bool false, .int .i64 0, .int .i64 0, .int .i32 0]] 8 (World.laidAll_os _ _ _)
      (World.shaped_of_ZipB (by kernel_rfl) (by kernel_rfl)) (by kernel_rfl) (by kernel_rfl) (by kernel_rfl)
      (by rw [MakeChecks.laidMetH_plain _ _ _ (by kernel_rfl)]; exact laidMet_laidAll _ (by kernel_rfl) (by kernel_rfl))) ?_
  intro W base args ds gs before hval0 hW _ hsz0 hL hS _
  have hval : ∀ (j : Nat) t v, Tryd.f8.params[j]? = some t → args[j]? = some v → Value.okWide Tryd.prog W .any base t v := hval0
  have hsz : (DataW.weightsEach Tryd.prog (Tryd.f8.params.toList ++ Rows.quoteWideSpec.plain.varTypes Tryd.prog) (ds ++ gs)).all (· ≤ reachBytes) = true := hsz0
  have hW' := hW
  obtain ⟨p, q, hA0, hV, rfl, _, _⟩ := hW
  have hA : DataW.TrodAll enc Tryd.prog W 0 (fun _ => true) true Tryd.f8.params.toList args.toList ds p := hA0
  rw [Tryd.params8] at hA hval
  obtain ⟨v0, vs0, d0, ds0, p0, q0, hargs, rfl, rfl, h0, r0⟩ := trodAll_cons hA
  obtain ⟨v1, vs1, d1, ds1, p1, q1, rfl, rfl, rfl, h1, r1⟩ := trodAll_cons r0
  obtain ⟨rfl, rfl, rfl⟩ := trodAll_nil r1
  obtain rfl : args = #[v0, v1] := by cases args; simp_all
  obtain ⟨rfl, rfl⟩ := trodVars_none hV
  rw [MakeChecks.laidMetH_plain _ _ _ (by kernel_rfl)] at hL
  have hok := ok_of hL hS
  obtain ⟨a0, rfl, rfl, rfl, y0⟩ := open_string Tryd.underlying9 (hval 0 9 v0 rfl rfl) h0
  have w0 : a0.size ≤ 140737488351232 := by
    have z := sized_string hsz (j := 0) (t := 9) rfl rfl
    rw [Array.length_toList] at z
    exact z
  have k1 := h1
  have lt1 : ∀ x ∈ p1, x.block < W.heap.size := by obtain ⟨m, hm⟩ := k1; exact DataW.trod_lt m _ _ _ hm
  obtain ⟨q10, q11, q12, q13, q14, q15, q16, q17, rfl, w1⟩ := open_spec (hval 1 28 v1 rfl rfl) h1
  refine (lawQuoteWide.lawC a0 q10 q11 q12 q13 q14 q15 q16 q17 W hok w0 w1).mono fun e W' ⟨he, hb⟩ => ?_
  subst he
  exact ⟨_, rfl, _, _, _, [], _, [], hW', trodAll_mk1 (shut_bool Tryd.underlying4 _), (trodAll_cons_mk (shut_string Tryd.underlying9 y0) (trodAll_cons_mk (Below.trod laidOutA (by kernel_rfl) (of_decide_eq_true (by kernel_rfl)) k1 hb lt1) trodAll_mk0)), rfl, hb.frame _, fun h => by cases h⟩
theorem said : Rows.QuoteWideSaid :=
  OpenClaim.holds_of_wide 8 Tryd.f8 rfl rfl rfl rfl rfl rfl rfl ⟨rfl, rfl, rfl, rfl, rfl⟩ rfl rfl rfl rfl rfl (by kernel_rfl) Tryd.func8 (by kernel_rfl)
    (of_decide_eq_true (by kernel_rfl)) (by unfold Func.isWrapper; first | (rw [if_pos (by decide +kernel)]; kernel_rfl) | (rw [if_neg (by decide +kernel)]; exact ⟨rfl, rfl⟩))
    (fun os started H enc _ => lifted os started H enc)
theorem plain (f : FuncId) (fn : Func) (hf : Tryd.pinned.checked.prog.funcNamed Rows.quoteWideRow.func = some f) (hfn : Tryd.pinned.checked.prog.funcs[f]? = some fn) :
    false = Tryd.pinned.checked.prog.looks [] ∧ ∀ (j : Nat) t, fn.params[j]? = some t → Tryd.pinned.checked.prog.wantsStandIn t = false := by
  obtain rfl : f = 8 := Option.some.inj ((show Tryd.prog.funcNamed Rows.quoteWideRow.func = some 8 by kernel_rfl).symm.trans hf) |>.symm
  obtain rfl : fn = Tryd.f8 := (Option.some.inj (Tryd.func8.symm.trans hfn)).symm
  refine ⟨by kernel_rfl, fun j t ht => ?_⟩
  rw [Tryd.params8] at ht
  have hm : t ∈ [9, 28] := by simpa using Array.mem_of_getElem? ht
  have hall : ([9, 28].all fun u => !Tryd.prog.wantsStandIn u) = true := by kernel_rfl
  exact (show Tryd.prog.wantsStandIn t = false by simpa using List.all_eq_true.1 hall t hm)
theorem card : Rows.QuoteWideCardSaid :=
  Claim7.holds_tied_plain_at .later [] _ _ _ _ said (fun _ h => by cases h) (by kernel_rfl) (fun _ h => by cases h) quoteWide_row_tie rfl ⟨rfl, rfl⟩ (by kernel_rfl) rfl plain (by kernel_rfl)
end Go.Proofs.YtcoippikicikoaaDoor.lawQuoteWide
#print axioms Go.Proofs.YtcoippikicikoaaDoor.lawQuoteWide.card
