/- The tied card of QuoteAscii: for every input the law returns true; its arguments read as they did. Conditions: the library's variables that the row lists start as the program's text lays them. -/
import Derived.Test.YtcoippikicikoaaDoorProg
import Derived.Below
import Derived.Deep.Draws
import Derived.Deep.AppendLies
import Derived.Maps.AppendAt
import Derived.OwnWalk
import Derived.Laws.BytesArg
import Derived.Laws.MakeOwn
import Derived.Laws.OwnMore
import Derived.Deep.OwnRows
import Derived.Tactics
import Derived.Lib.ConvBytes
import Derived.Laws.Slices
import Derived.WalkKit
import Derived.KernelRfl
import Derived.RowKit3
import Derived.Deep.LoopGhost
import Derived.Deep.QuietTactic
import Derived.BigQuiet
import Derived.WideLaws
import Derived.Deep.DeepCutAuto
import Derived.Deep.CutBlock
import Derived.Deep.RegionHeld3
import Derived.Laws.Rows
import Derived.Lib.AppendStr
import Derived.ArgAppend
import Derived.Laws.IdiomCopy
import Derived.OrdersHeld
import Derived.Laws.BitsLemmas
import Derived.RowKit
import Derived.Test.YtcoippikicikoaaDoorCards
import Derived.Test.YtcoippikicikoaaDoorTie
import Derived.Shelf.Vars
import Derived.ProofKit
import Derived.OpenShut
import Derived.PinnedBridge
import Derived.Lay
import Derived.Lib.LaidU8
import Derived.SevenTiedAt
import Derived.Stop.Joined
import Derived.Test.YtcoippikicikoaaDoorZAc
namespace Go.Proofs.YtcoippikicikoaaDoor.PQGen
open Go.RowKit Go.Proofs.YtcoippikicikoaaDoorW.PrintWords Go.Proofs.YtcoippikicikoaaDoorW.PrintLast Go.Proofs.YtcoippikicikoaaDoorW.PrintMore
attribute [local go_sem] max2_int min2_int max_two min_two
set_option linter.unusedVariables false
set_option linter.unusedSimpArgs false
mutual
def quote_Text.j0 : Nat → ByteArray → Int → Bool → Bool → Bool → Bool → Bool → Bool → Int → Int → Int → Option (ByteArray × Bool)
 | 0, _, _, _, _, _, _, _, _, _, _, _ => none
 | k + 1, x0, x9, x10, x164000, x164001, x164002, x164003, x164004, x164005, x164006, x164007 => if x10 = true then (if x164007 = 118 then (quote_Text.j1 k x0 x164002 x164000 x164001 x164002 x164003 x164004 x164005 x164006 x164007) else (quote_Text.j1 k x0 false x164000 x164001 x164002 x164003 x164004 x164005 x164006 x164007)) else (if x9 = 113 then ((buf_Cut.f x0 x164006).bind fun t168 => (if x164002 = true then ((quote_Raw.f t168).bind fun bt169 => (if bt169.2 = true then ((buf_Pad.f bt169.1 x164000 x164001 x164002 x164003 x164004 x164005 x164006 x164007).bind fun t171 => (some (t171, true))) else ((quote_Quote.f t168 x164000).bind fun t172 => ((buf_Pad.f t172 x164000 x164001 x164002 x164003 x164004 x164005 x164006 x164007).bind fun t173 => (some (t173, true)))))) else ((quote_Quote.f t168 x164000).bind fun t174 => ((buf_Pad.f t174 x164000 x164001 x164002 x164003 x164004 x164005 x164006 x164007).bind fun t175 => (some (t175, true)))))) else (if x9 = 120 then ((quote_Hex.f k x0 x164000 x164001 x164002 x164003 x164004 x164005 x164006 x164007).bind fun t176 => (some (t176, true))) else (if x9 = 88 then ((quote_Hex.f k x0 x164000 x164001 x164002 x164003 x164004 x164005 x164006 x164007).bind fun t177 => (some (t177, true))) else (some ((⟨#[]⟩ : ByteArray), false)))))
def quote_Text.j1 : Nat → ByteArray → Bool → Bool → Bool → Bool → Bool → Bool → Int → Int → Int → Option (ByteArray × Bool)
 | 0, _, _, _, _, _, _, _, _, _, _ => none
 | k + 1, x0, x19, x164000, x164001, x164002, x164003, x164004, x164005, x164006, x164007 => if x19 = true then ((quote_Quote.f x0 false).bind fun t164 => ((buf_Pad.f t164 x164000 x164001 x164002 x164003 x164004 x164005 x164006 x164007).bind fun t165 => (some (t165, true)))) else ((buf_Cut.f x0 x164006).bind fun t166 => ((buf_Pad.f t166 x164000 x164001 x164002 x164003 x164004 x164005 x164006 x164007).bind fun t167 => (some (t167, true))))
end
def quote_Text.f (k : Nat) (a0 : ByteArray) (a1_0 : Bool) (a1_1 : Bool) (a1_2 : Bool) (a1_3 : Bool) (a1_4 : Bool) (a1_5 : Int) (a1_6 : Int) (a1_7 : Int) : Option (ByteArray × Bool) := if a1_7 = 118 then (quote_Text.j0 k a0 a1_7 (a1_7 == 118) a1_0 a1_1 a1_2 a1_3 a1_4 a1_5 a1_6 a1_7) else (quote_Text.j0 k a0 a1_7 (a1_7 == 115) a1_0 a1_1 a1_2 a1_3 a1_4 a1_5 a1_6 a1_7)
theorem quote_Text.mono_l : ∀ k, (∀ y0 y1 y2 y3 y4 y5 y6 y7 y8 y9 y10, LeO (quote_Text.j0 k y0 y1 y2 y3 y4 y5 y6 y7 y8 y9 y10) (quote_Text.j0 (k + 1) y0 y1 y2 y3 y4 y5 y6 y7 y8 y9 y10)) ∧ (∀ y0 y1 y2 y3 y4 y5 y6 y7 y8 y9, LeO (quote_Text.j1 k y0 y1 y2 y3 y4 y5 y6 y7 y8 y9) (quote_Text.j1 (k + 1) y0 y1 y2 y3 y4 y5 y6 y7 y8 y9))
 | 0 => ⟨fun _ _ _ _ _ _ _ _ _ _ _ r h => by simp [quote_Text.j0] at h, fun _ _ _ _ _ _ _ _ _ _ r h => by simp [quote_Text.j1] at h⟩
 | k + 1 => by
  obtain ⟨ih0, ih1⟩ := quote_Text.mono_l k
  refine ⟨?_, ?_⟩
  ·
   intro y0 y1 y2 y3 y4 y5 y6 y7 y8 y9 y10
   unfold quote_Text.j0
   repeat' first
   | (with_reducible exact ih0 _ _ _ _ _ _ _ _ _ _ _)
   | (with_reducible exact ih1 _ _ _ _ _ _ _ _ _ _)
   | (with_reducible exact quote_Hex.mono _ _ _ _ _ _ _ _ _ _)
   | (with_reducible exact LeO.refl _)
   | (with_reducible exact LeO.none _)
   | (with_reducible refine LeO.ite ?_ ?_)
   | (with_reducible refine LeO.bind ?_ (fun _ => ?_))
   | exact ih0 _ _ _ _ _ _ _ _ _ _ _
   | exact ih1 _ _ _ _ _ _ _ _ _ _
   | exact quote_Hex.mono _ _ _ _ _ _ _ _ _ _
   | exact LeO.none _
   | refine LeO.ite ?_ ?_
   | refine LeO.bind ?_ (fun _ => ?_)
  ·
   intro y0 y1 y2 y3 y4 y5 y6 y7 y8 y9
   unfold quote_Text.j1
   repeat' first
   | (with_reducible exact ih0 _ _ _ _ _ _ _ _ _ _ _)
   | (with_reducible exact ih1 _ _ _ _ _ _ _ _ _ _)
   | (with_reducible exact quote_Hex.mono _ _ _ _ _ _ _ _ _ _)
   | (with_reducible exact LeO.refl _)
   | (with_reducible exact LeO.none _)
   | (with_reducible refine LeO.ite ?_ ?_)
   | (with_reducible refine LeO.bind ?_ (fun _ => ?_))
   | exact ih0 _ _ _ _ _ _ _ _ _ _ _
   | exact ih1 _ _ _ _ _ _ _ _ _ _
   | exact quote_Hex.mono _ _ _ _ _ _ _ _ _ _
   | exact LeO.none _
   | refine LeO.ite ?_ ?_
   | refine LeO.bind ?_ (fun _ => ?_)
theorem quote_Text.mono : ∀ a0 a1 a2 a3 a4 a5 a6 a7 a8 k, LeO (quote_Text.f k a0 a1 a2 a3 a4 a5 a6 a7 a8) (quote_Text.f (k + 1) a0 a1 a2 a3 a4 a5 a6 a7 a8) := by
 intro a0 a1 a2 a3 a4 a5 a6 a7 a8 k
 obtain ⟨ih0, ih1⟩ := quote_Text.mono_l k
 unfold quote_Text.f
 repeat' first
  | (with_reducible exact ih0 _ _ _ _ _ _ _ _ _ _ _)
  | (with_reducible exact ih1 _ _ _ _ _ _ _ _ _ _)
  | (with_reducible exact quote_Hex.mono _ _ _ _ _ _ _ _ _ _)
  | (with_reducible exact LeO.refl _)
  | (with_reducible exact LeO.none _)
  | (with_reducible refine LeO.ite ?_ ?_)
  | (with_reducible refine LeO.bind ?_ (fun _ => ?_))
  | exact ih0 _ _ _ _ _ _ _ _ _ _ _
  | exact ih1 _ _ _ _ _ _ _ _ _ _
  | exact quote_Hex.mono _ _ _ _ _ _ _ _ _ _
  | exact LeO.none _
  | refine LeO.ite ?_ ?_
  | refine LeO.bind ?_ (fun _ => ?_)
def quote_Text.T6 : Bool × List (List Nat × List Nat) := (true, [([], []), ([], []), ([1], [1]), ([0, 2], [0, 2]), ([], []), ([3, 4, 3], [3, 4]), ([5, 5, 0, 1, 2, 3, 4, 5], [5]), ([6, 0, 1, 2, 3, 4, 5, 6], [])])
def quote_Text.B6 : List Nat := [0, 0, 2, 7, 0, 31, 63, 127]
theorem quote_Text.tab6 : rtab .any (opsOf Tryd.f17 6) = quote_Text.T6 := by kernel_rfl
theorem quote_Text.bits6 : waitsOk quote_Text.T6.2 quote_Text.B6 = true := by kernel_rfl
def quote_Text.T13 : Bool × List (List Nat × List Nat) := (true, [([], []), ([], []), ([1], [1]), ([0, 2], [0, 2]), ([], []), ([3, 4, 3], [3, 4]), ([5, 5, 0, 1, 2, 3, 4, 5], [5]), ([6, 0, 1, 2, 3, 4, 5, 6], [])])
def quote_Text.B13 : List Nat := [0, 0, 2, 7, 0, 31, 63, 127]
theorem quote_Text.tab13 : rtab .any (opsOf Tryd.f17 13) = quote_Text.T13 := by kernel_rfl
theorem quote_Text.bits13 : waitsOk quote_Text.T13.2 quote_Text.B13 = true := by kernel_rfl
set_option maxHeartbeats 8000000 in
set_option maxRecDepth 100000 in
theorem quote_Text.calls (k : Nat) (a0 : ByteArray) (a1_0 : Bool) (a1_1 : Bool) (a1_2 : Bool) (a1_3 : Bool) (a1_4 : Bool) (a1_5 : Int) (a1_6 : Int) (a1_7 : Int) (r1 : ByteArray) (r2 : Bool) (w : World) (hOK : Aside0 (Ok w)) (h : quote_Text.f k a0 a1_0 a1_1 a1_2 a1_3 a1_4 a1_5 a1_6 a1_7 = some (r1, r2)) :
 Calls Tryd.prog 17 #[.string a0, .agg #[.bool a1_0, .bool a1_1, .bool a1_2, .bool a1_3, .bool a1_4, .int .i64 a1_5, .int .i64 a1_6, .int .i32 a1_7]] w fun e w' => e = .returned (.tuple #[.string r1, .bool r2]) ∧ Below w.heap.size w w' := by
 have hu28 := Tryd.underlying28
 have HB := Aside0.mk (Below.refl w.heap.size w)
 have H : (if a1_7 = 118 then (quote_Text.j0 k a0 a1_7 (a1_7 == 118) a1_0 a1_1 a1_2 a1_3 a1_4 a1_5 a1_6 a1_7) else (quote_Text.j0 k a0 a1_7 (a1_7 == 115) a1_0 a1_1 a1_2 a1_3 a1_4 a1_5 a1_6 a1_7)) = some (r1, r2) := h
 clear h
 have HC3 := Aside0.mk H
 clear H
 go_enter Tryd.func17, Tryd.ntmps17
 go_upto_if 10 with (first | ((with_reducible refine gate_dst (N := 3) rfl ?_); refine box_event ?hg (N := 3) ?hd (cs := #[.bool a1_0, .bool a1_1, .bool a1_2, .bool a1_3, .bool a1_4, .int .i64 a1_5, .int .i64 a1_6, .int .i32 a1_7]) (t := 28) ?hr ?_; (case hd => rfl); (case hg => rfl); (case hr => first | (go_simp; done) | (go_simp; rfl)); intro gb163 hg w4 hbox hb; have n0_ := Aside0.mk (below_step (by repeat (first | (with_reducible first | exact HB.out | apply below_alloc | apply pw_below_drewN | apply below_drew1) | exact HB.out)) hb); have n1_ := Aside0.mk (hbox); have n2_ := Aside0.mk ((by rw [hg]; exact (below_size (by repeat (first | (with_reducible first | exact HB.out | apply below_alloc | apply pw_below_drewN | apply below_drew1) | exact HB.out))) : w.heap.size ≤ gb163)); have n3_ := Aside0.mk ((by rw [hg]; exact (below_size (by repeat (first | (with_reducible first | exact HB.out | apply below_alloc | apply pw_below_drewN | apply below_drew1) | exact HB.out))) : w.heap.size ≤ gb163)); clear HB; have HB := n0_; have BK163 := n1_; have GW163 := n2_; have GE163 := n3_; clear n0_ n1_ n2_ n3_; clear hb hbox hg; have hcz5_0 : w4.cell? ⟨gb163, 0, none⟩ = some (.bool a1_0) := (blk_cell BK163.out 0).trans rfl; have hcz5_1 : w4.cell? ⟨gb163, 1, none⟩ = some (.bool a1_1) := (blk_cell BK163.out 1).trans rfl; have hcz5_2 : w4.cell? ⟨gb163, 2, none⟩ = some (.bool a1_2) := (blk_cell BK163.out 2).trans rfl; have hcz5_3 : w4.cell? ⟨gb163, 3, none⟩ = some (.bool a1_3) := (blk_cell BK163.out 3).trans rfl; have hcz5_4 : w4.cell? ⟨gb163, 4, none⟩ = some (.bool a1_4) := (blk_cell BK163.out 4).trans rfl; have hcz5_5 : w4.cell? ⟨gb163, 5, none⟩ = some (.int .i64 a1_5) := (blk_cell BK163.out 5).trans rfl; have hcz5_6 : w4.cell? ⟨gb163, 6, none⟩ = some (.int .i64 a1_6) := (blk_cell BK163.out 6).trans rfl; have hcz5_7 : w4.cell? ⟨gb163, 7, none⟩ = some (.int .i32 a1_7) := (blk_cell BK163.out 7).trans rfl; have hfz5_0 := blk_frozen BK163.out 0; have hfz5_1 := blk_frozen BK163.out 1; have hfz5_2 := blk_frozen BK163.out 2; have hfz5_3 := blk_frozen BK163.out 3; have hfz5_4 := blk_frozen BK163.out 4; have hfz5_5 := blk_frozen BK163.out 5; have hfz5_6 := blk_frozen BK163.out 6; have hfz5_7 := blk_frozen BK163.out 7))
 (try simp only [Act.put, List.setIfInBounds_toArray, List.set_cons_zero, List.set_cons_succ])
 go_cut [10] (fun v10 wc => ∃ (kq : Nat) (x10_2 : Bool), v10 = .bool x10_2 ∧ Aside0 (quote_Text.j0 kq a0 a1_7 x10_2 a1_0 a1_1 a1_2 a1_3 a1_4 a1_5 a1_6 a1_7 = some (r1, r2)) ∧ Aside0 (kq ≤ k) ∧ Aside0 (wc.heap[gb163]? = some (.cells #[.bool a1_0, .bool a1_1, .bool a1_2, .bool a1_3, .bool a1_4, .int .i64 a1_5, .int .i64 a1_6, .int .i32 a1_7] 28 (0, 0))) ∧ Aside0 (Below w.heap.size w wc))
 case first =>
  have H := HC3.out
  clear HC3
  by_cases c6 : a1_7 = 118
  ·
   rw [if_pos c6] at H
   have c6b0 : (a1_7 == 118) = true := beq_iff_eq.mpr c6
   have c6b1 : (a1_7 != 118) = false := bne_eq_false_iff_eq.mpr c6
   clear c6
   (first | rw [c6b0] | (simp only [i64_w, i32_w]; rw [c6b0]) | skip)
   have H' := Aside0.mk H
   clear H
   go_wp2
   (first | go_meet | (refine Met.intro ?_; go_step; (repeat apply Exists.intro); refine ⟨?rel, (by first | rfl | (simp only [c6b0]; rfl))⟩))
   case rel => exact ⟨_, ((a1_7 == 118)), (by first | rfl | (simp; done) | (simp [*]; done)), H', ⟨by first | omega | exact Nat.le_refl _⟩, ⟨by (with_reducible repeat (first | refine blk_drewN ?_ _ | refine blk_drew ?_ | refine blk_alloc ?_ _)); exact BK163.out⟩, ⟨by repeat (first | (with_reducible first | exact HB.out | apply below_alloc | apply pw_below_drewN | apply below_drew1 | refine below_set ?_ GE163.out) | exact HB.out)⟩⟩
  ·
   rw [if_neg c6] at H
   have c6b0 : (a1_7 == 118) = false := beq_eq_false_iff_ne.mpr c6
   have c6b1 : (a1_7 != 118) = true := bne_iff_ne.mpr c6
   (first | rw [c6b0] | (simp only [i64_w, i32_w]; rw [c6b0]) | skip)
   have H' := Aside0.mk H
   clear H
   go_wp2
   (first | go_meet | (refine Met.intro ?_; go_step; (repeat apply Exists.intro); refine ⟨?rel, (by first | rfl | (simp only [c6b0]; rfl))⟩))
   case rel => exact ⟨_, ((a1_7 == 115)), (by first | rfl | (simp; done) | (simp [*]; done)), H', ⟨by first | omega | exact Nat.le_refl _⟩, ⟨by (with_reducible repeat (first | refine blk_drewN ?_ _ | refine blk_drew ?_ | refine blk_alloc ?_ _)); exact BK163.out⟩, ⟨by repeat (first | (with_reducible first | exact HB.out | apply below_alloc | apply pw_below_drewN | apply below_drew1 | refine below_set ?_ GE163.out) | exact HB.out)⟩⟩
 case rest =>
  clear HC3
  try clear c1
  try clear p2
  try clear c6
  try clear c6b0
  try clear c6b1
  try clear hcz5_0
  try clear hcz5_1
  try clear hcz5_2
  try clear hcz5_3
  try clear hcz5_4
  try clear hcz5_5
  try clear hcz5_6
  try clear hcz5_7
  try clear hfz5_0
  try clear hfz5_1
  try clear hfz5_2
  try clear hfz5_3
  try clear hfz5_4
  try clear hfz5_5
  try clear hfz5_6
  try clear hfz5_7
  obtain ⟨kq, x10_2, rfl, HA, HJ2, BK163, HB⟩ := hcut
  cases kq with
  | zero => exact absurd HA.out (by simp [quote_Text.j0])
  | succ kj2 =>
   have H := HA.out
   clear HA
   simp only [quote_Text.j0] at H
   by_cases c7 : x10_2 = true
   ·
    subst c7
    have H1 : (if a1_7 = 118 then (quote_Text.j1 kj2 a0 a1_2 a1_0 a1_1 a1_2 a1_3 a1_4 a1_5 a1_6 a1_7) else (quote_Text.j1 kj2 a0 false a1_0 a1_1 a1_2 a1_3 a1_4 a1_5 a1_6 a1_7)) = some (r1, r2) := by rw [if_pos rfl] at H; exact H
    clear H
    have H := H1
    clear H1
    have HC8 := Aside0.mk H
    clear H
    go_upto_region 4 with (fail)
    go_cut [19] (fun v19 wc => ∃ (kq : Nat) (x19_7 : Bool), v19 = .bool x19_7 ∧ Aside0 (quote_Text.j1 kq a0 x19_7 a1_0 a1_1 a1_2 a1_3 a1_4 a1_5 a1_6 a1_7 = some (r1, r2)) ∧ Aside0 (kq ≤ kj2) ∧ Aside0 (wc.heap[gb163]? = some (.cells #[.bool a1_0, .bool a1_1, .bool a1_2, .bool a1_3, .bool a1_4, .int .i64 a1_5, .int .i64 a1_6, .int .i32 a1_7] 28 (0, 0))) ∧ Aside0 (Below w.heap.size w wc))
    case first =>
     have H := HC8.out
     clear HC8
     by_cases c9 : a1_7 = 118
     ·
      rw [if_pos c9] at H
      have c9b0 : (a1_7 == 118) = true := beq_iff_eq.mpr c9
      have c9b1 : (a1_7 != 118) = false := bne_eq_false_iff_eq.mpr c9
      clear c9
      (first | rw [c9b0] | (simp only [i64_w, i32_w]; rw [c9b0]) | skip)
      have H' := Aside0.mk H
      clear H
      have hcz10_0 : wc.cell? ⟨gb163, 0, none⟩ = some (.bool a1_0) := (blk_cell BK163.out 0).trans rfl
      have hcz10_1 : wc.cell? ⟨gb163, 1, none⟩ = some (.bool a1_1) := (blk_cell BK163.out 1).trans rfl
      have hcz10_2 : wc.cell? ⟨gb163, 2, none⟩ = some (.bool a1_2) := (blk_cell BK163.out 2).trans rfl
      have hcz10_3 : wc.cell? ⟨gb163, 3, none⟩ = some (.bool a1_3) := (blk_cell BK163.out 3).trans rfl
      have hcz10_4 : wc.cell? ⟨gb163, 4, none⟩ = some (.bool a1_4) := (blk_cell BK163.out 4).trans rfl
      have hcz10_5 : wc.cell? ⟨gb163, 5, none⟩ = some (.int .i64 a1_5) := (blk_cell BK163.out 5).trans rfl
      have hcz10_6 : wc.cell? ⟨gb163, 6, none⟩ = some (.int .i64 a1_6) := (blk_cell BK163.out 6).trans rfl
      have hcz10_7 : wc.cell? ⟨gb163, 7, none⟩ = some (.int .i32 a1_7) := (blk_cell BK163.out 7).trans rfl
      have hfz10_0 := blk_frozen BK163.out 0
      have hfz10_1 := blk_frozen BK163.out 1
      have hfz10_2 := blk_frozen BK163.out 2
      have hfz10_3 := blk_frozen BK163.out 3
      have hfz10_4 := blk_frozen BK163.out 4
      have hfz10_5 := blk_frozen BK163.out 5
      have hfz10_6 := blk_frozen BK163.out 6
      have hfz10_7 := blk_frozen BK163.out 7
      go_wp2
      (first | go_meet | (refine Met.intro ?_; go_step; (repeat apply Exists.intro); refine ⟨?rel, (by first | rfl | (simp only [c9b0]; rfl))⟩))
      case rel => exact ⟨_, (a1_2), (by first | rfl | (simp; done) | (simp [*]; done)), H', ⟨by have := HJ2.out; first | omega | exact Nat.le_refl _⟩, ⟨by (with_reducible repeat (first | refine blk_drewN ?_ _ | refine blk_drew ?_ | refine blk_alloc ?_ _)); exact BK163.out⟩, ⟨by repeat (first | (with_reducible first | exact HB.out | apply below_alloc | apply pw_below_drewN | apply below_drew1 | refine below_set ?_ GE163.out) | exact HB.out)⟩⟩
     ·
      rw [if_neg c9] at H
      have c9b0 : (a1_7 == 118) = false := beq_eq_false_iff_ne.mpr c9
      have c9b1 : (a1_7 != 118) = true := bne_iff_ne.mpr c9
      (first | rw [c9b0] | (simp only [i64_w, i32_w]; rw [c9b0]) | skip)
      have H' := Aside0.mk H
      clear H
      have hcz11_0 : wc.cell? ⟨gb163, 0, none⟩ = some (.bool a1_0) := (blk_cell BK163.out 0).trans rfl
      have hcz11_1 : wc.cell? ⟨gb163, 1, none⟩ = some (.bool a1_1) := (blk_cell BK163.out 1).trans rfl
      have hcz11_2 : wc.cell? ⟨gb163, 2, none⟩ = some (.bool a1_2) := (blk_cell BK163.out 2).trans rfl
      have hcz11_3 : wc.cell? ⟨gb163, 3, none⟩ = some (.bool a1_3) := (blk_cell BK163.out 3).trans rfl
      have hcz11_4 : wc.cell? ⟨gb163, 4, none⟩ = some (.bool a1_4) := (blk_cell BK163.out 4).trans rfl
      have hcz11_5 : wc.cell? ⟨gb163, 5, none⟩ = some (.int .i64 a1_5) := (blk_cell BK163.out 5).trans rfl
      have hcz11_6 : wc.cell? ⟨gb163, 6, none⟩ = some (.int .i64 a1_6) := (blk_cell BK163.out 6).trans rfl
      have hcz11_7 : wc.cell? ⟨gb163, 7, none⟩ = some (.int .i32 a1_7) := (blk_cell BK163.out 7).trans rfl
      have hfz11_0 := blk_frozen BK163.out 0
      have hfz11_1 := blk_frozen BK163.out 1
      have hfz11_2 := blk_frozen BK163.out 2
      have hfz11_3 := blk_frozen BK163.out 3
      have hfz11_4 := blk_frozen BK163.out 4
      have hfz11_5 := blk_frozen BK163.out 5
      have hfz11_6 := blk_frozen BK163.out 6
      have hfz11_7 := blk_frozen BK163.out 7
      go_wp2
      (first | go_meet | (refine Met.intro ?_; go_step; (repeat apply Exists.intro); refine ⟨?rel, (by first | rfl | (simp only [c9b0]; rfl))⟩))
      case rel => exact ⟨_, (false), (by first | rfl | (simp; done) | (simp [*]; done)), H', ⟨by have := HJ2.out; first | omega | exact Nat.le_refl _⟩, ⟨by (with_reducible repeat (first | refine blk_drewN ?_ _ | refine blk_drew ?_ | refine blk_alloc ?_ _)); exact BK163.out⟩, ⟨by repeat (first | (with_reducible first | exact HB.out | apply below_alloc | apply pw_below_drewN | apply below_drew1 | refine below_set ?_ GE163.out) | exact HB.out)⟩⟩
    case rest =>
     clear HC8
     try clear c1
     try clear p2
     try clear c6
     try clear c6b0
     try clear c6b1
     try clear c7
     try clear c9
     try clear c9b0
     try clear c9b1
     try clear hcz10_0
     try clear hcz10_1
     try clear hcz10_2
     try clear hcz10_3
     try clear hcz10_4
     try clear hcz10_5
     try clear hcz10_6
     try clear hcz10_7
     try clear hcz11_0
     try clear hcz11_1
     try clear hcz11_2
     try clear hcz11_3
     try clear hcz11_4
     try clear hcz11_5
     try clear hcz11_6
     try clear hcz11_7
     try clear hcz5_0
     try clear hcz5_1
     try clear hcz5_2
     try clear hcz5_3
     try clear hcz5_4
     try clear hcz5_5
     try clear hcz5_6
     try clear hcz5_7
     try clear hfz10_0
     try clear hfz10_1
     try clear hfz10_2
     try clear hfz10_3
     try clear hfz10_4
     try clear hfz10_5
     try clear hfz10_6
     try clear hfz10_7
     try clear hfz11_0
     try clear hfz11_1
     try clear hfz11_2
     try clear hfz11_3
     try clear hfz11_4
     try clear hfz11_5
     try clear hfz11_6
     try clear hfz11_7
     try clear hfz5_0
     try clear hfz5_1
     try clear hfz5_2
     try clear hfz5_3
     try clear hfz5_4
     try clear hfz5_5
     try clear hfz5_6
     try clear hfz5_7
     try clear p2
     obtain ⟨kq, x19_7, rfl, HA, HJ7, BK163, HB⟩ := hcut
     cases kq with
     | zero => exact absurd HA.out (by simp [quote_Text.j1])
     | succ kj7 =>
      have H := HA.out
      clear HA
      simp only [quote_Text.j1] at H
      by_cases c12 : x19_7 = true
      ·
       subst c12
       have H1 : ((quote_Quote.f a0 false).bind fun t164 => ((buf_Pad.f t164 a1_0 a1_1 a1_2 a1_3 a1_4 a1_5 a1_6 a1_7).bind fun t165 => (some (t165, true)))) = some (r1, r2) := by rw [if_pos rfl] at H; exact H
       clear H
       have H := H1
       clear H1
       replace H := Option.bind_eq_some_iff.mp H
       obtain ⟨t164, A130, H⟩ := H
       replace H : ((buf_Pad.f t164 a1_0 a1_1 a1_2 a1_3 a1_4 a1_5 a1_6 a1_7).bind fun t165 => (some (t165, true))) = some (r1, r2) := H
       have A13 := Aside0.mk A130
       clear A130
       replace H := Option.bind_eq_some_iff.mp H
       obtain ⟨t165, A140, H⟩ := H
       replace H : (some (t165, true)) = some (r1, r2) := H
       have A14 := Aside0.mk A140
       clear A140
       simp only [Option.some.injEq, Prod.mk.injEq] at H
       obtain ⟨rfl, rfl⟩ := H
       try go_wp2
       have n0_ := Aside0.mk (blk_drew BK163.out)
       have n1_ := Aside0.mk (below_drew1 HB.out)
       clear BK163
       clear HB
       have BK163 := n0_
       have HB := n1_
       clear n0_ n1_
       refine start_ (n := 6) (S := fun w' => w'.cell? ⟨gb163, 0, none⟩ = some (.bool a1_0) ∧ w'.cell? ⟨gb163, 1, none⟩ = some (.bool a1_1) ∧ w'.cell? ⟨gb163, 2, none⟩ = some (.bool a1_2) ∧ w'.cell? ⟨gb163, 3, none⟩ = some (.bool a1_3) ∧ w'.cell? ⟨gb163, 4, none⟩ = some (.bool a1_4) ∧ w'.cell? ⟨gb163, 5, none⟩ = some (.int .i64 a1_5) ∧ w'.cell? ⟨gb163, 6, none⟩ = some (.int .i64 a1_6) ∧ w'.cell? ⟨gb163, 7, none⟩ = some (.int .i32 a1_7)) (ds := []) #[false, false, false, false, false, false] (by kernel_rfl) rfl rfl ⟨(blk_cell BK163.out 0).trans rfl, (blk_cell BK163.out 1).trans rfl, (blk_cell BK163.out 2).trans rfl, (blk_cell BK163.out 3).trans rfl, (blk_cell BK163.out 4).trans rfl, (blk_cell BK163.out 5).trans rfl, (blk_cell BK163.out 6).trans rfl, (blk_cell BK163.out 7).trans rfl⟩ (fun hHeld => ?_)
       generalize wc.drew = w15 at BK163 HB hHeld ⊢
       refine pure_ (i := 0) (N := some 20) (v := ?_) (a' := ?_) #[true, false, false, false, false, false] rfl rfl (by kernel_rfl) (fun _ _ _ h => h) (Or.inl ⟨by rfl, ?_⟩) ?_ ?_
       rotate_left
       ·
        intro w'
        go_simp
        with_reducible rfl
       rotate_left
       ·
        simp only [Act.put, List.setIfInBounds_toArray, List.set_cons_zero, List.set_cons_succ, i64_w, i32_w]
        rfl
       refine take_ (i := 2) (N := some 22) (v := ?_) (a' := ?_) #[true, false, true, false, false, false] rfl rfl (by kernel_rfl) (fun _ _ _ h => h) (Or.inl ⟨by rfl, ?_⟩) hHeld ?_ ?_
       rotate_left
       ·
        rintro w' ⟨s0, s1, s2, s3, s4, s5, s6, s7⟩
        go_simp
        with_reducible rfl
       rotate_left
       ·
        simp only [Act.put, List.setIfInBounds_toArray, List.set_cons_zero, List.set_cons_succ, i64_w, i32_w]
        rfl
       refine one_ (i := 1) (N := some 21) #[true, true, true, false, false, false] rfl rfl (by kernel_rfl) (by decide) (fun K hK => ?_)
       refine goes_ Tryd.func19 (by kernel_rfl) rfl #[.string a0, .bool false] (by rfl) rfl rfl (by (try simp only [List.map_toArray, List.map_cons, List.map_nil]); first | done | rfl | (simp only [List.length_drop, List.length_take]; rfl)) ?_
       with_reducible refine (quote_Quote.calls a0 false t164 _ (by (try refine Aside0.mk ?_); first | exact hOK.out | exact (hOK.out).drewN _ | (refine (hOK.out).later ?_; (repeat (first | (with_reducible first | exact HB.out | apply below_alloc | apply pw_below_drewN | apply below_drew1) | exact HB.out))) | (refine Ok.drewN ?_ _; exact hOK.out)) A13.out).mono ?_
       rintro e w16 ⟨rfl, hb⟩
       refine ⟨_, rfl, ?_⟩
       have n0_ := Aside0.mk (blk_below (g := gb163) (o := .cells #[.bool a1_0, .bool a1_1, .bool a1_2, .bool a1_3, .bool a1_4, .int .i64 a1_5, .int .i64 a1_6, .int .i32 a1_7] 28 (0, 0)) (by (with_reducible repeat (first | refine blk_drewN ?_ _ | refine blk_drew ?_ | refine blk_alloc ?_ _)); exact BK163.out) hb)
       have n1_ := Aside0.mk (below_step (by repeat (first | (with_reducible first | exact HB.out | apply below_alloc | apply pw_below_drewN | apply below_drew1 | refine below_set ?_ GE163.out) | exact HB.out)) hb)
       clear BK163
       clear HB
       have BK163 := n0_
       have HB := n1_
       clear n0_ n1_
       (try clear hb)
       (try clear hb2)
       (try clear hk)
       (try clear hi)
       refine hK.out _ _ ⟨(blk_cell BK163.out 0).trans rfl, (blk_cell BK163.out 1).trans rfl, (blk_cell BK163.out 2).trans rfl, (blk_cell BK163.out 3).trans rfl, (blk_cell BK163.out 4).trans rfl, (blk_cell BK163.out 5).trans rfl, (blk_cell BK163.out 6).trans rfl, (blk_cell BK163.out 7).trans rfl⟩ (fun hHeld => ?_)
       clear hK K
       refine norm_ (a' := ?_) ?_ ?_
       rotate_left
       ·
        show Act.put _ (some 21) _ = _
        simp only [Act.put, List.setIfInBounds_toArray, List.set_cons_zero, List.set_cons_succ, i64_w, i32_w]
        rfl
       refine one_ (i := 3) (N := some 23) #[true, true, true, true, false, false] rfl rfl (by kernel_rfl) (by decide) (fun K hK => ?_)
       refine goes_ Tryd.func32 (by kernel_rfl) rfl #[.string t164, .agg #[.bool a1_0, .bool a1_1, .bool a1_2, .bool a1_3, .bool a1_4, .int .i64 a1_5, .int .i64 a1_6, .int .i32 a1_7]] (by rfl) rfl rfl (by (try simp only [List.map_toArray, List.map_cons, List.map_nil]); first | done | rfl | (simp only [List.length_drop, List.length_take]; rfl)) ?_
       with_reducible refine (buf_Pad.calls t164 a1_0 a1_1 a1_2 a1_3 a1_4 a1_5 a1_6 a1_7 t165 _ A14.out).mono ?_
       rintro e w17 ⟨rfl, hb⟩
       refine ⟨_, rfl, ?_⟩
       have n0_ := Aside0.mk (blk_below (g := gb163) (o := .cells #[.bool a1_0, .bool a1_1, .bool a1_2, .bool a1_3, .bool a1_4, .int .i64 a1_5, .int .i64 a1_6, .int .i32 a1_7] 28 (0, 0)) (by (with_reducible repeat (first | refine blk_drewN ?_ _ | refine blk_drew ?_ | refine blk_alloc ?_ _)); exact BK163.out) hb)
       have n1_ := Aside0.mk (below_step (by repeat (first | (with_reducible first | exact HB.out | apply below_alloc | apply pw_below_drewN | apply below_drew1 | refine below_set ?_ GE163.out) | exact HB.out)) hb)
       clear BK163
       clear HB
       have BK163 := n0_
       have HB := n1_
       clear n0_ n1_
       (try clear hb)
       (try clear hb2)
       (try clear hk)
       (try clear hi)
       refine hK.out _ _ ⟨(blk_cell BK163.out 0).trans rfl, (blk_cell BK163.out 1).trans rfl, (blk_cell BK163.out 2).trans rfl, (blk_cell BK163.out 3).trans rfl, (blk_cell BK163.out 4).trans rfl, (blk_cell BK163.out 5).trans rfl, (blk_cell BK163.out 6).trans rfl, (blk_cell BK163.out 7).trans rfl⟩ (fun hHeld => ?_)
       clear hK K
       refine norm_ (a' := ?_) ?_ ?_
       rotate_left
       ·
        show Act.put _ (some 23) _ = _
        simp only [Act.put, List.setIfInBounds_toArray, List.set_cons_zero, List.set_cons_succ, i64_w, i32_w]
        rfl
       refine pure_ (i := 4) (N := some 4) (v := ?_) (a' := ?_) #[true, true, true, true, true, false] rfl rfl (by kernel_rfl) (fun _ _ _ h => h) (Or.inl ⟨by rfl, ?_⟩) ?_ ?_
       rotate_left
       ·
        intro w'
        go_simp
        with_reducible rfl
       rotate_left
       ·
        simp only [Act.put, List.setIfInBounds_toArray, List.set_cons_zero, List.set_cons_succ, i64_w, i32_w]
        rfl
       refine pure_ (i := 5) (N := some 5) (v := ?_) (a' := ?_) #[true, true, true, true, true, true] rfl rfl (by kernel_rfl) (fun _ _ _ h => h) (Or.inl ⟨by rfl, ?_⟩) ?_ ?_
       rotate_left
       ·
        intro w'
        go_simp
        with_reducible rfl
       rotate_left
       ·
        simp only [Act.put, List.setIfInBounds_toArray, List.set_cons_zero, List.set_cons_succ, i64_w, i32_w]
        rfl
       refine done_ (by kernel_rfl) ?_
       try go_wp2
       go_ret2
       exact ⟨by first | rfl | (simp [errW_none, errW_some] <;> rfl) | (simp [*, errW_none, errW_some] <;> rfl), by repeat (first | (with_reducible first | exact HB.out | apply below_alloc | apply pw_below_drewN | apply below_drew1 | refine below_set ?_ GE163.out) | exact HB.out)⟩
      ·
       replace c12 := Bool.eq_false_iff.mpr c12
       subst c12
       have H1 : ((buf_Cut.f a0 a1_6).bind fun t166 => ((buf_Pad.f t166 a1_0 a1_1 a1_2 a1_3 a1_4 a1_5 a1_6 a1_7).bind fun t167 => (some (t167, true)))) = some (r1, r2) := by rw [if_neg (show ¬ (false = true) by decide)] at H; exact H
       clear H
       have H := H1
       clear H1
       replace H := Option.bind_eq_some_iff.mp H
       obtain ⟨t166, A180, H⟩ := H
       replace H : ((buf_Pad.f t166 a1_0 a1_1 a1_2 a1_3 a1_4 a1_5 a1_6 a1_7).bind fun t167 => (some (t167, true))) = some (r1, r2) := H
       have A18 := Aside0.mk A180
       clear A180
       replace H := Option.bind_eq_some_iff.mp H
       obtain ⟨t167, A190, H⟩ := H
       replace H : (some (t167, true)) = some (r1, r2) := H
       have A19 := Aside0.mk A190
       clear A190
       simp only [Option.some.injEq, Prod.mk.injEq] at H
       obtain ⟨rfl, rfl⟩ := H
       try go_wp2
       have n0_ := Aside0.mk (blk_drew BK163.out)
       have n1_ := Aside0.mk (below_drew1 HB.out)
       clear BK163
       clear HB
       have BK163 := n0_
       have HB := n1_
       clear n0_ n1_
       refine start_ (n := 8) (S := fun w' => w'.cell? ⟨gb163, 0, none⟩ = some (.bool a1_0) ∧ w'.cell? ⟨gb163, 1, none⟩ = some (.bool a1_1) ∧ w'.cell? ⟨gb163, 2, none⟩ = some (.bool a1_2) ∧ w'.cell? ⟨gb163, 3, none⟩ = some (.bool a1_3) ∧ w'.cell? ⟨gb163, 4, none⟩ = some (.bool a1_4) ∧ w'.cell? ⟨gb163, 5, none⟩ = some (.int .i64 a1_5) ∧ w'.cell? ⟨gb163, 6, none⟩ = some (.int .i64 a1_6) ∧ w'.cell? ⟨gb163, 7, none⟩ = some (.int .i32 a1_7)) (ds := []) #[false, false, false, false, false, false, false, false] (by kernel_rfl) rfl rfl ⟨(blk_cell BK163.out 0).trans rfl, (blk_cell BK163.out 1).trans rfl, (blk_cell BK163.out 2).trans rfl, (blk_cell BK163.out 3).trans rfl, (blk_cell BK163.out 4).trans rfl, (blk_cell BK163.out 5).trans rfl, (blk_cell BK163.out 6).trans rfl, (blk_cell BK163.out 7).trans rfl⟩ (fun hHeld => ?_); refine with_tabW quote_Text.tab6 quote_Text.bits6 (fun HT_ HW_ => ?_)
       generalize wc.drew = w20 at BK163 HB hHeld ⊢
       refine pure_ (i := 0) (N := some 24) (v := ?_) (a' := ?_) #[true, false, false, false, false, false, false, false] rfl rfl (any_of HT_.out (by kernel_rfl)) (fun _ _ _ h => h) (Or.inl ⟨by rfl, ?_⟩) ?_ ?_
       rotate_left
       ·
        intro w'
        go_simp
        with_reducible rfl
       rotate_left
       ·
        simp only [Act.put, List.setIfInBounds_toArray, List.set_cons_zero, List.set_cons_succ, i64_w, i32_w]
        rfl
       refine pure_ (i := 1) (N := some 25) (v := ?_) (a' := ?_) #[true, true, false, false, false, false, false, false] rfl rfl (any_of HT_.out (by kernel_rfl)) (fun _ _ _ h => h) (Or.inl ⟨by rfl, ?_⟩) ?_ ?_
       rotate_left
       ·
        intro w'
        go_simp
        with_reducible rfl
       rotate_left
       ·
        simp only [Act.put, List.setIfInBounds_toArray, List.set_cons_zero, List.set_cons_succ, i64_w, i32_w]
        rfl
       refine take_ (i := 2) (N := some 26) (v := ?_) (a' := ?_) #[true, true, true, false, false, false, false, false] rfl rfl (take_ofW HT_.out HW_.out (by kernel_rfl)) (fun _ _ _ h => h) (Or.inl ⟨by rfl, ?_⟩) hHeld ?_ ?_
       rotate_left
       ·
        rintro w' ⟨s0, s1, s2, s3, s4, s5, s6, s7⟩
        go_simp
        with_reducible rfl
       rotate_left
       ·
        simp only [Act.put, List.setIfInBounds_toArray, List.set_cons_zero, List.set_cons_succ, i64_w, i32_w]
        rfl
       refine take_ (i := 4) (N := some 28) (v := ?_) (a' := ?_) #[true, true, true, false, true, false, false, false] rfl rfl (take_ofW HT_.out HW_.out (by kernel_rfl)) (fun _ _ _ h => h) (Or.inl ⟨by rfl, ?_⟩) hHeld ?_ ?_
       rotate_left
       ·
        rintro w' ⟨s0, s1, s2, s3, s4, s5, s6, s7⟩
        go_simp
        with_reducible rfl
       rotate_left
       ·
        simp only [Act.put, List.setIfInBounds_toArray, List.set_cons_zero, List.set_cons_succ, i64_w, i32_w]
        rfl
       refine one_ (i := 3) (N := some 27) #[true, true, true, true, true, false, false, false] rfl rfl (one_of HT_.out (by kernel_rfl)) (by decide) (fun K hK => ?_)
       refine goes_ Tryd.func35 (by kernel_rfl) rfl #[.string a0, .int .i64 a1_6] (by rfl) rfl rfl (by (try simp only [List.map_toArray, List.map_cons, List.map_nil]); first | done | rfl | (simp only [List.length_drop, List.length_take]; rfl)) ?_
       with_reducible refine (buf_Cut.calls a0 a1_6 t166 _ A18.out).mono ?_
       rintro e w21 ⟨rfl, hb⟩
       refine ⟨_, rfl, ?_⟩
       have n0_ := Aside0.mk (blk_below (g := gb163) (o := .cells #[.bool a1_0, .bool a1_1, .bool a1_2, .bool a1_3, .bool a1_4, .int .i64 a1_5, .int .i64 a1_6, .int .i32 a1_7] 28 (0, 0)) (by (with_reducible repeat (first | refine blk_drewN ?_ _ | refine blk_drew ?_ | refine blk_alloc ?_ _)); exact BK163.out) hb)
       have n1_ := Aside0.mk (below_step (by repeat (first | (with_reducible first | exact HB.out | apply below_alloc | apply pw_below_drewN | apply below_drew1 | refine below_set ?_ GE163.out) | exact HB.out)) hb)
       clear BK163
       clear HB
       have BK163 := n0_
       have HB := n1_
       clear n0_ n1_
       (try clear hb)
       (try clear hb2)
       (try clear hk)
       (try clear hi)
       refine hK.out _ _ ⟨(blk_cell BK163.out 0).trans rfl, (blk_cell BK163.out 1).trans rfl, (blk_cell BK163.out 2).trans rfl, (blk_cell BK163.out 3).trans rfl, (blk_cell BK163.out 4).trans rfl, (blk_cell BK163.out 5).trans rfl, (blk_cell BK163.out 6).trans rfl, (blk_cell BK163.out 7).trans rfl⟩ (fun hHeld => ?_)
       clear hK K
       refine norm_ (a' := ?_) ?_ ?_
       rotate_left
       ·
        show Act.put _ (some 27) _ = _
        simp only [Act.put, List.setIfInBounds_toArray, List.set_cons_zero, List.set_cons_succ, i64_w, i32_w]
        rfl
       refine one_ (i := 5) (N := some 29) #[true, true, true, true, true, true, false, false] rfl rfl (one_of HT_.out (by kernel_rfl)) (by decide) (fun K hK => ?_)
       refine goes_ Tryd.func32 (by kernel_rfl) rfl #[.string t166, .agg #[.bool a1_0, .bool a1_1, .bool a1_2, .bool a1_3, .bool a1_4, .int .i64 a1_5, .int .i64 a1_6, .int .i32 a1_7]] (by rfl) rfl rfl (by (try simp only [List.map_toArray, List.map_cons, List.map_nil]); first | done | rfl | (simp only [List.length_drop, List.length_take]; rfl)) ?_
       with_reducible refine (buf_Pad.calls t166 a1_0 a1_1 a1_2 a1_3 a1_4 a1_5 a1_6 a1_7 t167 _ A19.out).mono ?_
       rintro e w22 ⟨rfl, hb⟩
       refine ⟨_, rfl, ?_⟩
       have n0_ := Aside0.mk (blk_below (g := gb163) (o := .cells #[.bool a1_0, .bool a1_1, .bool a1_2, .bool a1_3, .bool a1_4, .int .i64 a1_5, .int .i64 a1_6, .int .i32 a1_7] 28 (0, 0)) (by (with_reducible repeat (first | refine blk_drewN ?_ _ | refine blk_drew ?_ | refine blk_alloc ?_ _)); exact BK163.out) hb)
       have n1_ := Aside0.mk (below_step (by repeat (first | (with_reducible first | exact HB.out | apply below_alloc | apply pw_below_drewN | apply below_drew1 | refine below_set ?_ GE163.out) | exact HB.out)) hb)
       clear BK163
       clear HB
       have BK163 := n0_
       have HB := n1_
       clear n0_ n1_
       (try clear hb)
       (try clear hb2)
       (try clear hk)
       (try clear hi)
       refine hK.out _ _ ⟨(blk_cell BK163.out 0).trans rfl, (blk_cell BK163.out 1).trans rfl, (blk_cell BK163.out 2).trans rfl, (blk_cell BK163.out 3).trans rfl, (blk_cell BK163.out 4).trans rfl, (blk_cell BK163.out 5).trans rfl, (blk_cell BK163.out 6).trans rfl, (blk_cell BK163.out 7).trans rfl⟩ (fun hHeld => ?_)
       clear hK K
       refine norm_ (a' := ?_) ?_ ?_
       rotate_left
       ·
        show Act.put _ (some 29) _ = _
        simp only [Act.put, List.setIfInBounds_toArray, List.set_cons_zero, List.set_cons_succ, i64_w, i32_w]
        rfl
       refine pure_ (i := 6) (N := some 4) (v := ?_) (a' := ?_) #[true, true, true, true, true, true, true, false] rfl rfl (any_of HT_.out (by kernel_rfl)) (fun _ _ _ h => h) (Or.inl ⟨by rfl, ?_⟩) ?_ ?_
       rotate_left
       ·
        intro w'
        go_simp
        with_reducible rfl
       rotate_left
       ·
        simp only [Act.put, List.setIfInBounds_toArray, List.set_cons_zero, List.set_cons_succ, i64_w, i32_w]
        rfl
       refine pure_ (i := 7) (N := some 5) (v := ?_) (a' := ?_) #[true, true, true, true, true, true, true, true] rfl rfl (any_of HT_.out (by kernel_rfl)) (fun _ _ _ h => h) (Or.inl ⟨by rfl, ?_⟩) ?_ ?_
       rotate_left
       ·
        intro w'
        go_simp
        with_reducible rfl
       rotate_left
       ·
        simp only [Act.put, List.setIfInBounds_toArray, List.set_cons_zero, List.set_cons_succ, i64_w, i32_w]
        rfl
       refine done_ (done_of HT_.out (by kernel_rfl)) ?_
       try go_wp2
       go_ret2
       exact ⟨by first | rfl | (simp [errW_none, errW_some] <;> rfl) | (simp [*, errW_none, errW_some] <;> rfl), by repeat (first | (with_reducible first | exact HB.out | apply below_alloc | apply pw_below_drewN | apply below_drew1 | refine below_set ?_ GE163.out) | exact HB.out)⟩
   ·
    replace c7 := Bool.eq_false_iff.mpr c7
    subst c7
    have H1 : (if a1_7 = 113 then ((buf_Cut.f a0 a1_6).bind fun t168 => (if a1_2 = true then ((quote_Raw.f t168).bind fun bt169 => (if bt169.2 = true then ((buf_Pad.f bt169.1 a1_0 a1_1 a1_2 a1_3 a1_4 a1_5 a1_6 a1_7).bind fun t171 => (some (t171, true))) else ((quote_Quote.f t168 a1_0).bind fun t172 => ((buf_Pad.f t172 a1_0 a1_1 a1_2 a1_3 a1_4 a1_5 a1_6 a1_7).bind fun t173 => (some (t173, true)))))) else ((quote_Quote.f t168 a1_0).bind fun t174 => ((buf_Pad.f t174 a1_0 a1_1 a1_2 a1_3 a1_4 a1_5 a1_6 a1_7).bind fun t175 => (some (t175, true)))))) else (if a1_7 = 120 then ((quote_Hex.f kj2 a0 a1_0 a1_1 a1_2 a1_3 a1_4 a1_5 a1_6 a1_7).bind fun t176 => (some (t176, true))) else (if a1_7 = 88 then ((quote_Hex.f kj2 a0 a1_0 a1_1 a1_2 a1_3 a1_4 a1_5 a1_6 a1_7).bind fun t177 => (some (t177, true))) else (some ((⟨#[]⟩ : ByteArray), false))))) = some (r1, r2) := by rw [if_neg (show ¬ (false = true) by decide)] at H; exact H
    clear H
    have H := H1
    clear H1
    by_cases c23 : a1_7 = 113
    ·
     rw [if_pos c23] at H
     have c23b0 : (a1_7 == 113) = true := beq_iff_eq.mpr c23
     have c23b1 : (a1_7 != 113) = false := bne_eq_false_iff_eq.mpr c23
     clear c23
     replace H := Option.bind_eq_some_iff.mp H
     obtain ⟨t168, A240, H⟩ := H
     replace H : (if a1_2 = true then ((quote_Raw.f t168).bind fun bt169 => (if bt169.2 = true then ((buf_Pad.f bt169.1 a1_0 a1_1 a1_2 a1_3 a1_4 a1_5 a1_6 a1_7).bind fun t171 => (some (t171, true))) else ((quote_Quote.f t168 a1_0).bind fun t172 => ((buf_Pad.f t172 a1_0 a1_1 a1_2 a1_3 a1_4 a1_5 a1_6 a1_7).bind fun t173 => (some (t173, true)))))) else ((quote_Quote.f t168 a1_0).bind fun t174 => ((buf_Pad.f t174 a1_0 a1_1 a1_2 a1_3 a1_4 a1_5 a1_6 a1_7).bind fun t175 => (some (t175, true))))) = some (r1, r2) := H
     have A24 := Aside0.mk A240
     clear A240
     by_cases c25 : a1_2 = true
     ·
      subst c25
      have H1 : ((quote_Raw.f t168).bind fun bt169 => (if bt169.2 = true then ((buf_Pad.f bt169.1 a1_0 a1_1 true a1_3 a1_4 a1_5 a1_6 a1_7).bind fun t171 => (some (t171, true))) else ((quote_Quote.f t168 a1_0).bind fun t172 => ((buf_Pad.f t172 a1_0 a1_1 true a1_3 a1_4 a1_5 a1_6 a1_7).bind fun t173 => (some (t173, true)))))) = some (r1, r2) := by rw [if_pos rfl] at H; exact H
      clear H
      have H := H1
      clear H1
      replace H := Option.bind_eq_some_iff.mp H
      obtain ⟨⟨t169, t170⟩, A260, H⟩ := H
      replace H : (if t170 = true then ((buf_Pad.f t169 a1_0 a1_1 true a1_3 a1_4 a1_5 a1_6 a1_7).bind fun t171 => (some (t171, true))) else ((quote_Quote.f t168 a1_0).bind fun t172 => ((buf_Pad.f t172 a1_0 a1_1 true a1_3 a1_4 a1_5 a1_6 a1_7).bind fun t173 => (some (t173, true))))) = some (r1, r2) := H
      have A26 := Aside0.mk A260
      clear A260
      by_cases c27 : t170 = true
      ·
       subst c27
       have H1 : ((buf_Pad.f t169 a1_0 a1_1 true a1_3 a1_4 a1_5 a1_6 a1_7).bind fun t171 => (some (t171, true))) = some (r1, r2) := by rw [if_pos rfl] at H; exact H
       clear H
       have H := H1
       clear H1
       replace H := Option.bind_eq_some_iff.mp H
       obtain ⟨t171, A280, H⟩ := H
       replace H : (some (t171, true)) = some (r1, r2) := H
       have A28 := Aside0.mk A280
       clear A280
       simp only [Option.some.injEq, Prod.mk.injEq] at H
       obtain ⟨rfl, rfl⟩ := H
       have hcz29_0 : wc.cell? ⟨gb163, 0, none⟩ = some (.bool a1_0) := (blk_cell BK163.out 0).trans rfl
       have hcz29_1 : wc.cell? ⟨gb163, 1, none⟩ = some (.bool a1_1) := (blk_cell BK163.out 1).trans rfl
       have hcz29_2 : wc.cell? ⟨gb163, 2, none⟩ = some (.bool true) := (blk_cell BK163.out 2).trans rfl
       have hcz29_3 : wc.cell? ⟨gb163, 3, none⟩ = some (.bool a1_3) := (blk_cell BK163.out 3).trans rfl
       have hcz29_4 : wc.cell? ⟨gb163, 4, none⟩ = some (.bool a1_4) := (blk_cell BK163.out 4).trans rfl
       have hcz29_5 : wc.cell? ⟨gb163, 5, none⟩ = some (.int .i64 a1_5) := (blk_cell BK163.out 5).trans rfl
       have hcz29_6 : wc.cell? ⟨gb163, 6, none⟩ = some (.int .i64 a1_6) := (blk_cell BK163.out 6).trans rfl
       have hcz29_7 : wc.cell? ⟨gb163, 7, none⟩ = some (.int .i32 a1_7) := (blk_cell BK163.out 7).trans rfl
       have hfz29_0 := blk_frozen BK163.out 0
       have hfz29_1 := blk_frozen BK163.out 1
       have hfz29_2 := blk_frozen BK163.out 2
       have hfz29_3 := blk_frozen BK163.out 3
       have hfz29_4 := blk_frozen BK163.out 4
       have hfz29_5 := blk_frozen BK163.out 5
       have hfz29_6 := blk_frozen BK163.out 6
       have hfz29_7 := blk_frozen BK163.out 7
       go_wp2_with (first | ((with_reducible refine gate_callee (f := 35) rfl ?_); refine goesL_ (some 35) rfl rfl Tryd.func35 (by kernel_rfl) rfl #[.string a0, .int .i64 a1_6] rfl (by (try simp only [List.map_toArray, List.map_cons, List.map_nil]); first | done | rfl | (simp only [List.length_drop, List.length_take]; rfl)) ?_; (with_reducible refine (buf_Cut.calls a0 a1_6 t168 _ A24.out).mono ?_); rintro e w30 ⟨rfl, hb⟩; refine ⟨_, rfl, ?_⟩; have n0_ := Aside0.mk (blk_below (g := gb163) (o := .cells #[.bool a1_0, .bool a1_1, .bool true, .bool a1_3, .bool a1_4, .int .i64 a1_5, .int .i64 a1_6, .int .i32 a1_7] 28 (0, 0)) (by (with_reducible repeat (first | refine blk_drewN ?_ _ | refine blk_drew ?_ | refine blk_alloc ?_ _)); exact BK163.out) hb); have n1_ := Aside0.mk (below_step (by repeat (first | (with_reducible first | exact HB.out | apply below_alloc | apply pw_below_drewN | apply below_drew1 | refine below_set ?_ GE163.out) | exact HB.out)) hb); clear BK163; clear HB; have BK163 := n0_; have HB := n1_; clear n0_ n1_; (try clear hb); (try clear hb2); (try clear hk); (try clear hi); have hcz31_0 : w30.cell? ⟨gb163, 0, none⟩ = some (.bool a1_0) := (blk_cell BK163.out 0).trans rfl; have hcz31_1 : w30.cell? ⟨gb163, 1, none⟩ = some (.bool a1_1) := (blk_cell BK163.out 1).trans rfl; have hcz31_2 : w30.cell? ⟨gb163, 2, none⟩ = some (.bool true) := (blk_cell BK163.out 2).trans rfl; have hcz31_3 : w30.cell? ⟨gb163, 3, none⟩ = some (.bool a1_3) := (blk_cell BK163.out 3).trans rfl; have hcz31_4 : w30.cell? ⟨gb163, 4, none⟩ = some (.bool a1_4) := (blk_cell BK163.out 4).trans rfl; have hcz31_5 : w30.cell? ⟨gb163, 5, none⟩ = some (.int .i64 a1_5) := (blk_cell BK163.out 5).trans rfl; have hcz31_6 : w30.cell? ⟨gb163, 6, none⟩ = some (.int .i64 a1_6) := (blk_cell BK163.out 6).trans rfl; have hcz31_7 : w30.cell? ⟨gb163, 7, none⟩ = some (.int .i32 a1_7) := (blk_cell BK163.out 7).trans rfl; have hfz31_0 := blk_frozen BK163.out 0; have hfz31_1 := blk_frozen BK163.out 1; have hfz31_2 := blk_frozen BK163.out 2; have hfz31_3 := blk_frozen BK163.out 3; have hfz31_4 := blk_frozen BK163.out 4; have hfz31_5 := blk_frozen BK163.out 5; have hfz31_6 := blk_frozen BK163.out 6; have hfz31_7 := blk_frozen BK163.out 7) | ((with_reducible refine gate_callee (f := 36) rfl ?_); refine goesL_ (some 40) rfl rfl Tryd.func36 (by kernel_rfl) rfl #[.string t168] rfl (by (try simp only [List.map_toArray, List.map_cons, List.map_nil]); first | done | rfl | (simp only [List.length_drop, List.length_take]; rfl)) ?_; (with_reducible refine (quote_Raw.calls t168 t169 true _ (by (try refine Aside0.mk ?_); first | exact hOK.out | exact (hOK.out).drewN _ | (refine (hOK.out).later ?_; (repeat (first | (with_reducible first | exact HB.out | apply below_alloc | apply pw_below_drewN | apply below_drew1) | exact HB.out))) | (refine Ok.drewN ?_ _; exact hOK.out)) A26.out).mono ?_); rintro e w32 ⟨rfl, hb⟩; refine ⟨_, rfl, ?_⟩; have n0_ := Aside0.mk (blk_below (g := gb163) (o := .cells #[.bool a1_0, .bool a1_1, .bool true, .bool a1_3, .bool a1_4, .int .i64 a1_5, .int .i64 a1_6, .int .i32 a1_7] 28 (0, 0)) (by (with_reducible repeat (first | refine blk_drewN ?_ _ | refine blk_drew ?_ | refine blk_alloc ?_ _)); exact BK163.out) hb); have n1_ := Aside0.mk (below_step (by repeat (first | (with_reducible first | exact HB.out | apply below_alloc | apply pw_below_drewN | apply below_drew1 | refine below_set ?_ GE163.out) | exact HB.out)) hb); clear BK163; clear HB; have BK163 := n0_; have HB := n1_; clear n0_ n1_; (try clear hb); (try clear hb2); (try clear hk); (try clear hi); have hcz33_0 : w32.cell? ⟨gb163, 0, none⟩ = some (.bool a1_0) := (blk_cell BK163.out 0).trans rfl; have hcz33_1 : w32.cell? ⟨gb163, 1, none⟩ = some (.bool a1_1) := (blk_cell BK163.out 1).trans rfl; have hcz33_2 : w32.cell? ⟨gb163, 2, none⟩ = some (.bool true) := (blk_cell BK163.out 2).trans rfl; have hcz33_3 : w32.cell? ⟨gb163, 3, none⟩ = some (.bool a1_3) := (blk_cell BK163.out 3).trans rfl; have hcz33_4 : w32.cell? ⟨gb163, 4, none⟩ = some (.bool a1_4) := (blk_cell BK163.out 4).trans rfl; have hcz33_5 : w32.cell? ⟨gb163, 5, none⟩ = some (.int .i64 a1_5) := (blk_cell BK163.out 5).trans rfl; have hcz33_6 : w32.cell? ⟨gb163, 6, none⟩ = some (.int .i64 a1_6) := (blk_cell BK163.out 6).trans rfl; have hcz33_7 : w32.cell? ⟨gb163, 7, none⟩ = some (.int .i32 a1_7) := (blk_cell BK163.out 7).trans rfl; have hfz33_0 := blk_frozen BK163.out 0; have hfz33_1 := blk_frozen BK163.out 1; have hfz33_2 := blk_frozen BK163.out 2; have hfz33_3 := blk_frozen BK163.out 3; have hfz33_4 := blk_frozen BK163.out 4; have hfz33_5 := blk_frozen BK163.out 5; have hfz33_6 := blk_frozen BK163.out 6; have hfz33_7 := blk_frozen BK163.out 7) | ((with_reducible refine gate_callee (f := 32) rfl ?_); refine goesL_ (some 46) rfl rfl Tryd.func32 (by kernel_rfl) rfl #[.string t169, .agg #[.bool a1_0, .bool a1_1, .bool true, .bool a1_3, .bool a1_4, .int .i64 a1_5, .int .i64 a1_6, .int .i32 a1_7]] rfl (by (try simp only [List.map_toArray, List.map_cons, List.map_nil]); first | done | rfl | (simp only [List.length_drop, List.length_take]; rfl)) ?_; (with_reducible refine (buf_Pad.calls t169 a1_0 a1_1 true a1_3 a1_4 a1_5 a1_6 a1_7 t171 _ A28.out).mono ?_); rintro e w34 ⟨rfl, hb⟩; refine ⟨_, rfl, ?_⟩; have n0_ := Aside0.mk (blk_below (g := gb163) (o := .cells #[.bool a1_0, .bool a1_1, .bool true, .bool a1_3, .bool a1_4, .int .i64 a1_5, .int .i64 a1_6, .int .i32 a1_7] 28 (0, 0)) (by (with_reducible repeat (first | refine blk_drewN ?_ _ | refine blk_drew ?_ | refine blk_alloc ?_ _)); exact BK163.out) hb); have n1_ := Aside0.mk (below_step (by repeat (first | (with_reducible first | exact HB.out | apply below_alloc | apply pw_below_drewN | apply below_drew1 | refine below_set ?_ GE163.out) | exact HB.out)) hb); clear BK163; clear HB; have BK163 := n0_; have HB := n1_; clear n0_ n1_; (try clear hb); (try clear hb2); (try clear hk); (try clear hi)))
       go_ret2
       exact ⟨by first | rfl | (simp [errW_none, errW_some] <;> rfl) | (simp [*, errW_none, errW_some] <;> rfl), by repeat (first | (with_reducible first | exact HB.out | apply below_alloc | apply pw_below_drewN | apply below_drew1 | refine below_set ?_ GE163.out) | exact HB.out)⟩
      ·
       replace c27 := Bool.eq_false_iff.mpr c27
       subst c27
       have H1 : ((quote_Quote.f t168 a1_0).bind fun t172 => ((buf_Pad.f t172 a1_0 a1_1 true a1_3 a1_4 a1_5 a1_6 a1_7).bind fun t173 => (some (t173, true)))) = some (r1, r2) := by rw [if_neg (show ¬ (false = true) by decide)] at H; exact H
       clear H
       have H := H1
       clear H1
       replace H := Option.bind_eq_some_iff.mp H
       obtain ⟨t172, A350, H⟩ := H
       replace H : ((buf_Pad.f t172 a1_0 a1_1 true a1_3 a1_4 a1_5 a1_6 a1_7).bind fun t173 => (some (t173, true))) = some (r1, r2) := H
       have A35 := Aside0.mk A350
       clear A350
       replace H := Option.bind_eq_some_iff.mp H
       obtain ⟨t173, A360, H⟩ := H
       replace H : (some (t173, true)) = some (r1, r2) := H
       have A36 := Aside0.mk A360
       clear A360
       simp only [Option.some.injEq, Prod.mk.injEq] at H
       obtain ⟨rfl, rfl⟩ := H
       have hcz37_0 : wc.cell? ⟨gb163, 0, none⟩ = some (.bool a1_0) := (blk_cell BK163.out 0).trans rfl
       have hcz37_1 : wc.cell? ⟨gb163, 1, none⟩ = some (.bool a1_1) := (blk_cell BK163.out 1).trans rfl
       have hcz37_2 : wc.cell? ⟨gb163, 2, none⟩ = some (.bool true) := (blk_cell BK163.out 2).trans rfl
       have hcz37_3 : wc.cell? ⟨gb163, 3, none⟩ = some (.bool a1_3) := (blk_cell BK163.out 3).trans rfl
       have hcz37_4 : wc.cell? ⟨gb163, 4, none⟩ = some (.bool a1_4) := (blk_cell BK163.out 4).trans rfl
       have hcz37_5 : wc.cell? ⟨gb163, 5, none⟩ = some (.int .i64 a1_5) := (blk_cell BK163.out 5).trans rfl
       have hcz37_6 : wc.cell? ⟨gb163, 6, none⟩ = some (.int .i64 a1_6) := (blk_cell BK163.out 6).trans rfl
       have hcz37_7 : wc.cell? ⟨gb163, 7, none⟩ = some (.int .i32 a1_7) := (blk_cell BK163.out 7).trans rfl
       have hfz37_0 := blk_frozen BK163.out 0
       have hfz37_1 := blk_frozen BK163.out 1
       have hfz37_2 := blk_frozen BK163.out 2
       have hfz37_3 := blk_frozen BK163.out 3
       have hfz37_4 := blk_frozen BK163.out 4
       have hfz37_5 := blk_frozen BK163.out 5
       have hfz37_6 := blk_frozen BK163.out 6
       have hfz37_7 := blk_frozen BK163.out 7
       try go_wp2_with (first | ((with_reducible refine gate_callee (f := 35) rfl ?_); refine goesL_ (some 35) rfl rfl Tryd.func35 (by kernel_rfl) rfl #[.string a0, .int .i64 a1_6] rfl (by (try simp only [List.map_toArray, List.map_cons, List.map_nil]); first | done | rfl | (simp only [List.length_drop, List.length_take]; rfl)) ?_; (with_reducible refine (buf_Cut.calls a0 a1_6 t168 _ A24.out).mono ?_); rintro e w38 ⟨rfl, hb⟩; refine ⟨_, rfl, ?_⟩; have n0_ := Aside0.mk (blk_below (g := gb163) (o := .cells #[.bool a1_0, .bool a1_1, .bool true, .bool a1_3, .bool a1_4, .int .i64 a1_5, .int .i64 a1_6, .int .i32 a1_7] 28 (0, 0)) (by (with_reducible repeat (first | refine blk_drewN ?_ _ | refine blk_drew ?_ | refine blk_alloc ?_ _)); exact BK163.out) hb); have n1_ := Aside0.mk (below_step (by repeat (first | (with_reducible first | exact HB.out | apply below_alloc | apply pw_below_drewN | apply below_drew1 | refine below_set ?_ GE163.out) | exact HB.out)) hb); clear BK163; clear HB; have BK163 := n0_; have HB := n1_; clear n0_ n1_; (try clear hb); (try clear hb2); (try clear hk); (try clear hi); have hcz39_0 : w38.cell? ⟨gb163, 0, none⟩ = some (.bool a1_0) := (blk_cell BK163.out 0).trans rfl; have hcz39_1 : w38.cell? ⟨gb163, 1, none⟩ = some (.bool a1_1) := (blk_cell BK163.out 1).trans rfl; have hcz39_2 : w38.cell? ⟨gb163, 2, none⟩ = some (.bool true) := (blk_cell BK163.out 2).trans rfl; have hcz39_3 : w38.cell? ⟨gb163, 3, none⟩ = some (.bool a1_3) := (blk_cell BK163.out 3).trans rfl; have hcz39_4 : w38.cell? ⟨gb163, 4, none⟩ = some (.bool a1_4) := (blk_cell BK163.out 4).trans rfl; have hcz39_5 : w38.cell? ⟨gb163, 5, none⟩ = some (.int .i64 a1_5) := (blk_cell BK163.out 5).trans rfl; have hcz39_6 : w38.cell? ⟨gb163, 6, none⟩ = some (.int .i64 a1_6) := (blk_cell BK163.out 6).trans rfl; have hcz39_7 : w38.cell? ⟨gb163, 7, none⟩ = some (.int .i32 a1_7) := (blk_cell BK163.out 7).trans rfl; have hfz39_0 := blk_frozen BK163.out 0; have hfz39_1 := blk_frozen BK163.out 1; have hfz39_2 := blk_frozen BK163.out 2; have hfz39_3 := blk_frozen BK163.out 3; have hfz39_4 := blk_frozen BK163.out 4; have hfz39_5 := blk_frozen BK163.out 5; have hfz39_6 := blk_frozen BK163.out 6; have hfz39_7 := blk_frozen BK163.out 7) | ((with_reducible refine gate_callee (f := 36) rfl ?_); refine goesL_ (some 40) rfl rfl Tryd.func36 (by kernel_rfl) rfl #[.string t168] rfl (by (try simp only [List.map_toArray, List.map_cons, List.map_nil]); first | done | rfl | (simp only [List.length_drop, List.length_take]; rfl)) ?_; (with_reducible refine (quote_Raw.calls t168 t169 false _ (by (try refine Aside0.mk ?_); first | exact hOK.out | exact (hOK.out).drewN _ | (refine (hOK.out).later ?_; (repeat (first | (with_reducible first | exact HB.out | apply below_alloc | apply pw_below_drewN | apply below_drew1) | exact HB.out))) | (refine Ok.drewN ?_ _; exact hOK.out)) A26.out).mono ?_); rintro e w40 ⟨rfl, hb⟩; refine ⟨_, rfl, ?_⟩; have n0_ := Aside0.mk (blk_below (g := gb163) (o := .cells #[.bool a1_0, .bool a1_1, .bool true, .bool a1_3, .bool a1_4, .int .i64 a1_5, .int .i64 a1_6, .int .i32 a1_7] 28 (0, 0)) (by (with_reducible repeat (first | refine blk_drewN ?_ _ | refine blk_drew ?_ | refine blk_alloc ?_ _)); exact BK163.out) hb); have n1_ := Aside0.mk (below_step (by repeat (first | (with_reducible first | exact HB.out | apply below_alloc | apply pw_below_drewN | apply below_drew1 | refine below_set ?_ GE163.out) | exact HB.out)) hb); clear BK163; clear HB; have BK163 := n0_; have HB := n1_; clear n0_ n1_; (try clear hb); (try clear hb2); (try clear hk); (try clear hi)))
       have n0_ := Aside0.mk (blk_drew BK163.out)
       have n1_ := Aside0.mk (below_drew1 HB.out)
       clear BK163
       clear HB
       have BK163 := n0_
       have HB := n1_
       clear n0_ n1_
       refine start_ (n := 8) (S := fun w' => w'.cell? ⟨gb163, 0, none⟩ = some (.bool a1_0) ∧ w'.cell? ⟨gb163, 1, none⟩ = some (.bool a1_1) ∧ w'.cell? ⟨gb163, 2, none⟩ = some (.bool true) ∧ w'.cell? ⟨gb163, 3, none⟩ = some (.bool a1_3) ∧ w'.cell? ⟨gb163, 4, none⟩ = some (.bool a1_4) ∧ w'.cell? ⟨gb163, 5, none⟩ = some (.int .i64 a1_5) ∧ w'.cell? ⟨gb163, 6, none⟩ = some (.int .i64 a1_6) ∧ w'.cell? ⟨gb163, 7, none⟩ = some (.int .i32 a1_7)) (ds := []) #[false, false, false, false, false, false, false, false] (by kernel_rfl) rfl rfl ⟨(blk_cell BK163.out 0).trans rfl, (blk_cell BK163.out 1).trans rfl, (blk_cell BK163.out 2).trans rfl, (blk_cell BK163.out 3).trans rfl, (blk_cell BK163.out 4).trans rfl, (blk_cell BK163.out 5).trans rfl, (blk_cell BK163.out 6).trans rfl, (blk_cell BK163.out 7).trans rfl⟩ (fun hHeld => ?_); refine with_tabW quote_Text.tab13 quote_Text.bits13 (fun HT_ HW_ => ?_)
       generalize w40.drew = w41 at BK163 HB hHeld ⊢
       refine pure_ (i := 0) (N := some 47) (v := ?_) (a' := ?_) #[true, false, false, false, false, false, false, false] rfl rfl (any_of HT_.out (by kernel_rfl)) (fun _ _ _ h => h) (Or.inl ⟨by rfl, ?_⟩) ?_ ?_
       rotate_left
       ·
        intro w'
        go_simp
        with_reducible rfl
       rotate_left
       ·
        simp only [Act.put, List.setIfInBounds_toArray, List.set_cons_zero, List.set_cons_succ, i64_w, i32_w]
        rfl
       refine pure_ (i := 1) (N := some 48) (v := ?_) (a' := ?_) #[true, true, false, false, false, false, false, false] rfl rfl (any_of HT_.out (by kernel_rfl)) (fun _ _ _ h => h) (Or.inl ⟨by rfl, ?_⟩) ?_ ?_
       rotate_left
       ·
        intro w'
        go_simp
        with_reducible rfl
       rotate_left
       ·
        simp only [Act.put, List.setIfInBounds_toArray, List.set_cons_zero, List.set_cons_succ, i64_w, i32_w]
        rfl
       refine take_ (i := 2) (N := some 49) (v := ?_) (a' := ?_) #[true, true, true, false, false, false, false, false] rfl rfl (take_ofW HT_.out HW_.out (by kernel_rfl)) (fun _ _ _ h => h) (Or.inl ⟨by rfl, ?_⟩) hHeld ?_ ?_
       rotate_left
       ·
        rintro w' ⟨s0, s1, s2, s3, s4, s5, s6, s7⟩
        go_simp
        with_reducible rfl
       rotate_left
       ·
        simp only [Act.put, List.setIfInBounds_toArray, List.set_cons_zero, List.set_cons_succ, i64_w, i32_w]
        rfl
       refine take_ (i := 4) (N := some 51) (v := ?_) (a' := ?_) #[true, true, true, false, true, false, false, false] rfl rfl (take_ofW HT_.out HW_.out (by kernel_rfl)) (fun _ _ _ h => h) (Or.inl ⟨by rfl, ?_⟩) hHeld ?_ ?_
       rotate_left
       ·
        rintro w' ⟨s0, s1, s2, s3, s4, s5, s6, s7⟩
        go_simp
        with_reducible rfl
       rotate_left
       ·
        simp only [Act.put, List.setIfInBounds_toArray, List.set_cons_zero, List.set_cons_succ, i64_w, i32_w]
        rfl
       refine one_ (i := 3) (N := some 50) #[true, true, true, true, true, false, false, false] rfl rfl (one_of HT_.out (by kernel_rfl)) (by decide) (fun K hK => ?_)
       refine goes_ Tryd.func19 (by kernel_rfl) rfl #[.string t168, .bool a1_0] (by rfl) rfl rfl (by (try simp only [List.map_toArray, List.map_cons, List.map_nil]); first | done | rfl | (simp only [List.length_drop, List.length_take]; rfl)) ?_
       with_reducible refine (quote_Quote.calls t168 a1_0 t172 _ (by (try refine Aside0.mk ?_); first | exact hOK.out | exact (hOK.out).drewN _ | (refine (hOK.out).later ?_; (repeat (first | (with_reducible first | exact HB.out | apply below_alloc | apply pw_below_drewN | apply below_drew1) | exact HB.out))) | (refine Ok.drewN ?_ _; exact hOK.out)) A35.out).mono ?_
       rintro e w42 ⟨rfl, hb⟩
       refine ⟨_, rfl, ?_⟩
       have n0_ := Aside0.mk (blk_below (g := gb163) (o := .cells #[.bool a1_0, .bool a1_1, .bool true, .bool a1_3, .bool a1_4, .int .i64 a1_5, .int .i64 a1_6, .int .i32 a1_7] 28 (0, 0)) (by (with_reducible repeat (first | refine blk_drewN ?_ _ | refine blk_drew ?_ | refine blk_alloc ?_ _)); exact BK163.out) hb)
       have n1_ := Aside0.mk (below_step (by repeat (first | (with_reducible first | exact HB.out | apply below_alloc | apply pw_below_drewN | apply below_drew1 | refine below_set ?_ GE163.out) | exact HB.out)) hb)
       clear BK163
       clear HB
       have BK163 := n0_
       have HB := n1_
       clear n0_ n1_
       (try clear hb)
       (try clear hb2)
       (try clear hk)
       (try clear hi)
       refine hK.out _ _ ⟨(blk_cell BK163.out 0).trans rfl, (blk_cell BK163.out 1).trans rfl, (blk_cell BK163.out 2).trans rfl, (blk_cell BK163.out 3).trans rfl, (blk_cell BK163.out 4).trans rfl, (blk_cell BK163.out 5).trans rfl, (blk_cell BK163.out 6).trans rfl, (blk_cell BK163.out 7).trans rfl⟩ (fun hHeld => ?_)
       clear hK K
       refine norm_ (a' := ?_) ?_ ?_
       rotate_left
       ·
        show Act.put _ (some 50) _ = _
        simp only [Act.put, List.setIfInBounds_toArray, List.set_cons_zero, List.set_cons_succ, i64_w, i32_w]
        rfl
       refine one_ (i := 5) (N := some 52) #[true, true, true, true, true, true, false, false] rfl rfl (one_of HT_.out (by kernel_rfl)) (by decide) (fun K hK => ?_)
       refine goes_ Tryd.func32 (by kernel_rfl) rfl #[.string t172, .agg #[.bool a1_0, .bool a1_1, .bool true, .bool a1_3, .bool a1_4, .int .i64 a1_5, .int .i64 a1_6, .int .i32 a1_7]] (by rfl) rfl rfl (by (try simp only [List.map_toArray, List.map_cons, List.map_nil]); first | done | rfl | (simp only [List.length_drop, List.length_take]; rfl)) ?_
       with_reducible refine (buf_Pad.calls t172 a1_0 a1_1 true a1_3 a1_4 a1_5 a1_6 a1_7 t173 _ A36.out).mono ?_
       rintro e w43 ⟨rfl, hb⟩
       refine ⟨_, rfl, ?_⟩
       have n0_ := Aside0.mk (blk_below (g := gb163) (o := .cells #[.bool a1_0, .bool a1_1, .bool true, .bool a1_3, .bool a1_4, .int .i64 a1_5, .int .i64 a1_6, .int .i32 a1_7] 28 (0, 0)) (by (with_reducible repeat (first | refine blk_drewN ?_ _ | refine blk_drew ?_ | refine blk_alloc ?_ _)); exact BK163.out) hb)
       have n1_ := Aside0.mk (below_step (by repeat (first | (with_reducible first | exact HB.out | apply below_alloc | apply pw_below_drewN | apply below_drew1 | refine below_set ?_ GE163.out) | exact HB.out)) hb)
       clear BK163
       clear HB
       have BK163 := n0_
       have HB := n1_
       clear n0_ n1_
       (try clear hb)
       (try clear hb2)
       (try clear hk)
       (try clear hi)
       refine hK.out _ _ ⟨(blk_cell BK163.out 0).trans rfl, (blk_cell BK163.out 1).trans rfl, (blk_cell BK163.out 2).trans rfl, (blk_cell BK163.out 3).trans rfl, (blk_cell BK163.out 4).trans rfl, (blk_cell BK163.out 5).trans rfl, (blk_cell BK163.out 6).trans rfl, (blk_cell BK163.out 7).trans rfl⟩ (fun hHeld => ?_)
       clear hK K
       refine norm_ (a' := ?_) ?_ ?_
       rotate_left
       ·
        show Act.put _ (some 52) _ = _
        simp only [Act.put, List.setIfInBounds_toArray, List.set_cons_zero, List.set_cons_succ, i64_w, i32_w]
        rfl
       refine pure_ (i := 6) (N := some 4) (v := ?_) (a' := ?_) #[true, true, true, true, true, true, true, false] rfl rfl (any_of HT_.out (by kernel_rfl)) (fun _ _ _ h => h) (Or.inl ⟨by rfl, ?_⟩) ?_ ?_
       rotate_left
       ·
        intro w'
        go_simp
        with_reducible rfl
       rotate_left
       ·
        simp only [Act.put, List.setIfInBounds_toArray, List.set_cons_zero, List.set_cons_succ, i64_w, i32_w]
        rfl
       refine pure_ (i := 7) (N := some 5) (v := ?_) (a' := ?_) #[true, true, true, true, true, true, true, true] rfl rfl (any_of HT_.out (by kernel_rfl)) (fun _ _ _ h => h) (Or.inl ⟨by rfl, ?_⟩) ?_ ?_
       rotate_left
       ·
        intro w'
        go_simp
        with_reducible rfl
       rotate_left
       ·
        simp only [Act.put, List.setIfInBounds_toArray, List.set_cons_zero, List.set_cons_succ, i64_w, i32_w]
        rfl
       refine done_ (done_of HT_.out (by kernel_rfl)) ?_
       try go_wp2
       go_ret2
       exact ⟨by first | rfl | (simp [errW_none, errW_some] <;> rfl) | (simp [*, errW_none, errW_some] <;> rfl), by repeat (first | (with_reducible first | exact HB.out | apply below_alloc | apply pw_below_drewN | apply below_drew1 | refine below_set ?_ GE163.out) | exact HB.out)⟩
     ·
      replace c25 := Bool.eq_false_iff.mpr c25
      subst c25
      have H1 : ((quote_Quote.f t168 a1_0).bind fun t174 => ((buf_Pad.f t174 a1_0 a1_1 false a1_3 a1_4 a1_5 a1_6 a1_7).bind fun t175 => (some (t175, true)))) = some (r1, r2) := by rw [if_neg (show ¬ (false = true) by decide)] at H; exact H
      clear H
      have H := H1
      clear H1
      replace H := Option.bind_eq_some_iff.mp H
      obtain ⟨t174, A440, H⟩ := H
      replace H : ((buf_Pad.f t174 a1_0 a1_1 false a1_3 a1_4 a1_5 a1_6 a1_7).bind fun t175 => (some (t175, true))) = some (r1, r2) := H
      have A44 := Aside0.mk A440
      clear A440
      replace H := Option.bind_eq_some_iff.mp H
      obtain ⟨t175, A450, H⟩ := H
      replace H : (some (t175, true)) = some (r1, r2) := H
      have A45 := Aside0.mk A450
      clear A450
      simp only [Option.some.injEq, Prod.mk.injEq] at H
      obtain ⟨rfl, rfl⟩ := H
      have hcz46_0 : wc.cell? ⟨gb163, 0, none⟩ = some (.bool a1_0) := (blk_cell BK163.out 0).trans rfl
      have hcz46_1 : wc.cell? ⟨gb163, 1, none⟩ = some (.bool a1_1) := (blk_cell BK163.out 1).trans rfl
      have hcz46_2 : wc.cell? ⟨gb163, 2, none⟩ = some (.bool false) := (blk_cell BK163.out 2).trans rfl
      have hcz46_3 : wc.cell? ⟨gb163, 3, none⟩ = some (.bool a1_3) := (blk_cell BK163.out 3).trans rfl
      have hcz46_4 : wc.cell? ⟨gb163, 4, none⟩ = some (.bool a1_4) := (blk_cell BK163.out 4).trans rfl
      have hcz46_5 : wc.cell? ⟨gb163, 5, none⟩ = some (.int .i64 a1_5) := (blk_cell BK163.out 5).trans rfl
      have hcz46_6 : wc.cell? ⟨gb163, 6, none⟩ = some (.int .i64 a1_6) := (blk_cell BK163.out 6).trans rfl
      have hcz46_7 : wc.cell? ⟨gb163, 7, none⟩ = some (.int .i32 a1_7) := (blk_cell BK163.out 7).trans rfl
      have hfz46_0 := blk_frozen BK163.out 0
      have hfz46_1 := blk_frozen BK163.out 1
      have hfz46_2 := blk_frozen BK163.out 2
      have hfz46_3 := blk_frozen BK163.out 3
      have hfz46_4 := blk_frozen BK163.out 4
      have hfz46_5 := blk_frozen BK163.out 5
      have hfz46_6 := blk_frozen BK163.out 6
      have hfz46_7 := blk_frozen BK163.out 7
      try go_wp2_with (first | ((with_reducible refine gate_callee (f := 35) rfl ?_); refine goesL_ (some 35) rfl rfl Tryd.func35 (by kernel_rfl) rfl #[.string a0, .int .i64 a1_6] rfl (by (try simp only [List.map_toArray, List.map_cons, List.map_nil]); first | done | rfl | (simp only [List.length_drop, List.length_take]; rfl)) ?_; (with_reducible refine (buf_Cut.calls a0 a1_6 t168 _ A24.out).mono ?_); rintro e w47 ⟨rfl, hb⟩; refine ⟨_, rfl, ?_⟩; have n0_ := Aside0.mk (blk_below (g := gb163) (o := .cells #[.bool a1_0, .bool a1_1, .bool false, .bool a1_3, .bool a1_4, .int .i64 a1_5, .int .i64 a1_6, .int .i32 a1_7] 28 (0, 0)) (by (with_reducible repeat (first | refine blk_drewN ?_ _ | refine blk_drew ?_ | refine blk_alloc ?_ _)); exact BK163.out) hb); have n1_ := Aside0.mk (below_step (by repeat (first | (with_reducible first | exact HB.out | apply below_alloc | apply pw_below_drewN | apply below_drew1 | refine below_set ?_ GE163.out) | exact HB.out)) hb); clear BK163; clear HB; have BK163 := n0_; have HB := n1_; clear n0_ n1_; (try clear hb); (try clear hb2); (try clear hk); (try clear hi); have hcz48_0 : w47.cell? ⟨gb163, 0, none⟩ = some (.bool a1_0) := (blk_cell BK163.out 0).trans rfl; have hcz48_1 : w47.cell? ⟨gb163, 1, none⟩ = some (.bool a1_1) := (blk_cell BK163.out 1).trans rfl; have hcz48_2 : w47.cell? ⟨gb163, 2, none⟩ = some (.bool false) := (blk_cell BK163.out 2).trans rfl; have hcz48_3 : w47.cell? ⟨gb163, 3, none⟩ = some (.bool a1_3) := (blk_cell BK163.out 3).trans rfl; have hcz48_4 : w47.cell? ⟨gb163, 4, none⟩ = some (.bool a1_4) := (blk_cell BK163.out 4).trans rfl; have hcz48_5 : w47.cell? ⟨gb163, 5, none⟩ = some (.int .i64 a1_5) := (blk_cell BK163.out 5).trans rfl; have hcz48_6 : w47.cell? ⟨gb163, 6, none⟩ = some (.int .i64 a1_6) := (blk_cell BK163.out 6).trans rfl; have hcz48_7 : w47.cell? ⟨gb163, 7, none⟩ = some (.int .i32 a1_7) := (blk_cell BK163.out 7).trans rfl; have hfz48_0 := blk_frozen BK163.out 0; have hfz48_1 := blk_frozen BK163.out 1; have hfz48_2 := blk_frozen BK163.out 2; have hfz48_3 := blk_frozen BK163.out 3; have hfz48_4 := blk_frozen BK163.out 4; have hfz48_5 := blk_frozen BK163.out 5; have hfz48_6 := blk_frozen BK163.out 6; have hfz48_7 := blk_frozen BK163.out 7))
      have n0_ := Aside0.mk (blk_drew BK163.out)
      have n1_ := Aside0.mk (below_drew1 HB.out)
      clear BK163
      clear HB
      have BK163 := n0_
      have HB := n1_
      clear n0_ n1_
      refine start_ (n := 8) (S := fun w' => w'.cell? ⟨gb163, 0, none⟩ = some (.bool a1_0) ∧ w'.cell? ⟨gb163, 1, none⟩ = some (.bool a1_1) ∧ w'.cell? ⟨gb163, 2, none⟩ = some (.bool false) ∧ w'.cell? ⟨gb163, 3, none⟩ = some (.bool a1_3) ∧ w'.cell? ⟨gb163, 4, none⟩ = some (.bool a1_4) ∧ w'.cell? ⟨gb163, 5, none⟩ = some (.int .i64 a1_5) ∧ w'.cell? ⟨gb163, 6, none⟩ = some (.int .i64 a1_6) ∧ w'.cell? ⟨gb163, 7, none⟩ = some (.int .i32 a1_7)) (ds := []) #[false, false, false, false, false, false, false, false] (by kernel_rfl) rfl rfl ⟨(blk_cell BK163.out 0).trans rfl, (blk_cell BK163.out 1).trans rfl, (blk_cell BK163.out 2).trans rfl, (blk_cell BK163.out 3).trans rfl, (blk_cell BK163.out 4).trans rfl, (blk_cell BK163.out 5).trans rfl, (blk_cell BK163.out 6).trans rfl, (blk_cell BK163.out 7).trans rfl⟩ (fun hHeld => ?_); refine with_tabW quote_Text.tab13 quote_Text.bits13 (fun HT_ HW_ => ?_)
      generalize w47.drew = w49 at BK163 HB hHeld ⊢
      refine pure_ (i := 0) (N := some 47) (v := ?_) (a' := ?_) #[true, false, false, false, false, false, false, false] rfl rfl (any_of HT_.out (by kernel_rfl)) (fun _ _ _ h => h) (Or.inl ⟨by rfl, ?_⟩) ?_ ?_
      rotate_left
      ·
       intro w'
       go_simp
       with_reducible rfl
      rotate_left
      ·
       simp only [Act.put, List.setIfInBounds_toArray, List.set_cons_zero, List.set_cons_succ, i64_w, i32_w]
       rfl
      refine pure_ (i := 1) (N := some 48) (v := ?_) (a' := ?_) #[true, true, false, false, false, false, false, false] rfl rfl (any_of HT_.out (by kernel_rfl)) (fun _ _ _ h => h) (Or.inl ⟨by rfl, ?_⟩) ?_ ?_
      rotate_left
      ·
       intro w'
       go_simp
       with_reducible rfl
      rotate_left
      ·
       simp only [Act.put, List.setIfInBounds_toArray, List.set_cons_zero, List.set_cons_succ, i64_w, i32_w]
       rfl
      refine take_ (i := 2) (N := some 49) (v := ?_) (a' := ?_) #[true, true, true, false, false, false, false, false] rfl rfl (take_ofW HT_.out HW_.out (by kernel_rfl)) (fun _ _ _ h => h) (Or.inl ⟨by rfl, ?_⟩) hHeld ?_ ?_
      rotate_left
      ·
       rintro w' ⟨s0, s1, s2, s3, s4, s5, s6, s7⟩
       go_simp
       with_reducible rfl
      rotate_left
      ·
       simp only [Act.put, List.setIfInBounds_toArray, List.set_cons_zero, List.set_cons_succ, i64_w, i32_w]
       rfl
      refine take_ (i := 4) (N := some 51) (v := ?_) (a' := ?_) #[true, true, true, false, true, false, false, false] rfl rfl (take_ofW HT_.out HW_.out (by kernel_rfl)) (fun _ _ _ h => h) (Or.inl ⟨by rfl, ?_⟩) hHeld ?_ ?_
      rotate_left
      ·
       rintro w' ⟨s0, s1, s2, s3, s4, s5, s6, s7⟩
       go_simp
       with_reducible rfl
      rotate_left
      ·
       simp only [Act.put, List.setIfInBounds_toArray, List.set_cons_zero, List.set_cons_succ, i64_w, i32_w]
       rfl
      refine one_ (i := 3) (N := some 50) #[true, true, true, true, true, false, false, false] rfl rfl (one_of HT_.out (by kernel_rfl)) (by decide) (fun K hK => ?_)
      refine goes_ Tryd.func19 (by kernel_rfl) rfl #[.string t168, .bool a1_0] (by rfl) rfl rfl (by (try simp only [List.map_toArray, List.map_cons, List.map_nil]); first | done | rfl | (simp only [List.length_drop, List.length_take]; rfl)) ?_
      with_reducible refine (quote_Quote.calls t168 a1_0 t174 _ (by (try refine Aside0.mk ?_); first | exact hOK.out | exact (hOK.out).drewN _ | (refine (hOK.out).later ?_; (repeat (first | (with_reducible first | exact HB.out | apply below_alloc | apply pw_below_drewN | apply below_drew1) | exact HB.out))) | (refine Ok.drewN ?_ _; exact hOK.out)) A44.out).mono ?_
      rintro e w50 ⟨rfl, hb⟩
      refine ⟨_, rfl, ?_⟩
      have n0_ := Aside0.mk (blk_below (g := gb163) (o := .cells #[.bool a1_0, .bool a1_1, .bool false, .bool a1_3, .bool a1_4, .int .i64 a1_5, .int .i64 a1_6, .int .i32 a1_7] 28 (0, 0)) (by (with_reducible repeat (first | refine blk_drewN ?_ _ | refine blk_drew ?_ | refine blk_alloc ?_ _)); exact BK163.out) hb)
      have n1_ := Aside0.mk (below_step (by repeat (first | (with_reducible first | exact HB.out | apply below_alloc | apply pw_below_drewN | apply below_drew1 | refine below_set ?_ GE163.out) | exact HB.out)) hb)
      clear BK163
      clear HB
      have BK163 := n0_
      have HB := n1_
      clear n0_ n1_
      (try clear hb)
      (try clear hb2)
      (try clear hk)
      (try clear hi)
      refine hK.out _ _ ⟨(blk_cell BK163.out 0).trans rfl, (blk_cell BK163.out 1).trans rfl, (blk_cell BK163.out 2).trans rfl, (blk_cell BK163.out 3).trans rfl, (blk_cell BK163.out 4).trans rfl, (blk_cell BK163.out 5).trans rfl, (blk_cell BK163.out 6).trans rfl, (blk_cell BK163.out 7).trans rfl⟩ (fun hHeld => ?_)
      clear hK K
      refine norm_ (a' := ?_) ?_ ?_
      rotate_left
      ·
       show Act.put _ (some 50) _ = _
       simp only [Act.put, List.setIfInBounds_toArray, List.set_cons_zero, List.set_cons_succ, i64_w, i32_w]
       rfl
      refine one_ (i := 5) (N := some 52) #[true, true, true, true, true, true, false, false] rfl rfl (one_of HT_.out (by kernel_rfl)) (by decide) (fun K hK => ?_)
      refine goes_ Tryd.func32 (by kernel_rfl) rfl #[.string t174, .agg #[.bool a1_0, .bool a1_1, .bool false, .bool a1_3, .bool a1_4, .int .i64 a1_5, .int .i64 a1_6, .int .i32 a1_7]] (by rfl) rfl rfl (by (try simp only [List.map_toArray, List.map_cons, List.map_nil]); first | done | rfl | (simp only [List.length_drop, List.length_take]; rfl)) ?_
      with_reducible refine (buf_Pad.calls t174 a1_0 a1_1 false a1_3 a1_4 a1_5 a1_6 a1_7 t175 _ A45.out).mono ?_
      rintro e w51 ⟨rfl, hb⟩
      refine ⟨_, rfl, ?_⟩
      have n0_ := Aside0.mk (blk_below (g := gb163) (o := .cells #[.bool a1_0, .bool a1_1, .bool false, .bool a1_3, .bool a1_4, .int .i64 a1_5, .int .i64 a1_6, .int .i32 a1_7] 28 (0, 0)) (by (with_reducible repeat (first | refine blk_drewN ?_ _ | refine blk_drew ?_ | refine blk_alloc ?_ _)); exact BK163.out) hb)
      have n1_ := Aside0.mk (below_step (by repeat (first | (with_reducible first | exact HB.out | apply below_alloc | apply pw_below_drewN | apply below_drew1 | refine below_set ?_ GE163.out) | exact HB.out)) hb)
      clear BK163
      clear HB
      have BK163 := n0_
      have HB := n1_
      clear n0_ n1_
      (try clear hb)
      (try clear hb2)
      (try clear hk)
      (try clear hi)
      refine hK.out _ _ ⟨(blk_cell BK163.out 0).trans rfl, (blk_cell BK163.out 1).trans rfl, (blk_cell BK163.out 2).trans rfl, (blk_cell BK163.out 3).trans rfl, (blk_cell BK163.out 4).trans rfl, (blk_cell BK163.out 5).trans rfl, (blk_cell BK163.out 6).trans rfl, (blk_cell BK163.out 7).trans rfl⟩ (fun hHeld => ?_)
      clear hK K
      refine norm_ (a' := ?_) ?_ ?_
      rotate_left
      ·
       show Act.put _ (some 52) _ = _
       simp only [Act.put, List.setIfInBounds_toArray, List.set_cons_zero, List.set_cons_succ, i64_w, i32_w]
       rfl
      refine pure_ (i := 6) (N := some 4) (v := ?_) (a' := ?_) #[true, true, true, true, true, true, true, false] rfl rfl (any_of HT_.out (by kernel_rfl)) (fun _ _ _ h => h) (Or.inl ⟨by rfl, ?_⟩) ?_ ?_
      rotate_left
      ·
       intro w'
       go_simp
       with_reducible rfl
      rotate_left
      ·
       simp only [Act.put, List.setIfInBounds_toArray, List.set_cons_zero, List.set_cons_succ, i64_w, i32_w]
       rfl
      refine pure_ (i := 7) (N := some 5) (v := ?_) (a' := ?_) #[true, true, true, true, true, true, true, true] rfl rfl (any_of HT_.out (by kernel_rfl)) (fun _ _ _ h => h) (Or.inl ⟨by rfl, ?_⟩) ?_ ?_
      rotate_left
      ·
       intro w'
       go_simp
       with_reducible rfl
      rotate_left
      ·
       simp only [Act.put, List.setIfInBounds_toArray, List.set_cons_zero, List.set_cons_succ, i64_w, i32_w]
       rfl
      refine done_ (done_of HT_.out (by kernel_rfl)) ?_
      try go_wp2
      go_ret2
      exact ⟨by first | rfl | (simp [errW_none, errW_some] <;> rfl) | (simp [*, errW_none, errW_some] <;> rfl), by repeat (first | (with_reducible first | exact HB.out | apply below_alloc | apply pw_below_drewN | apply below_drew1 | refine below_set ?_ GE163.out) | exact HB.out)⟩
    ·
     rw [if_neg c23] at H
     have c23b0 : (a1_7 == 113) = false := beq_eq_false_iff_ne.mpr c23
     have c23b1 : (a1_7 != 113) = true := bne_iff_ne.mpr c23
     by_cases c52 : a1_7 = 120
     ·
      rw [if_pos c52] at H
      have c52b0 : (a1_7 == 120) = true := beq_iff_eq.mpr c52
      have c52b1 : (a1_7 != 120) = false := bne_eq_false_iff_eq.mpr c52
      clear c52
      replace H := Option.bind_eq_some_iff.mp H
      obtain ⟨t176, A530, H⟩ := H
      replace H : (some (t176, true)) = some (r1, r2) := H
      have A53 := Aside0.mk A530
      clear A530
      simp only [Option.some.injEq, Prod.mk.injEq] at H
      obtain ⟨rfl, rfl⟩ := H
      have hcz54_0 : wc.cell? ⟨gb163, 0, none⟩ = some (.bool a1_0) := (blk_cell BK163.out 0).trans rfl
      have hcz54_1 : wc.cell? ⟨gb163, 1, none⟩ = some (.bool a1_1) := (blk_cell BK163.out 1).trans rfl
      have hcz54_2 : wc.cell? ⟨gb163, 2, none⟩ = some (.bool a1_2) := (blk_cell BK163.out 2).trans rfl
      have hcz54_3 : wc.cell? ⟨gb163, 3, none⟩ = some (.bool a1_3) := (blk_cell BK163.out 3).trans rfl
      have hcz54_4 : wc.cell? ⟨gb163, 4, none⟩ = some (.bool a1_4) := (blk_cell BK163.out 4).trans rfl
      have hcz54_5 : wc.cell? ⟨gb163, 5, none⟩ = some (.int .i64 a1_5) := (blk_cell BK163.out 5).trans rfl
      have hcz54_6 : wc.cell? ⟨gb163, 6, none⟩ = some (.int .i64 a1_6) := (blk_cell BK163.out 6).trans rfl
      have hcz54_7 : wc.cell? ⟨gb163, 7, none⟩ = some (.int .i32 a1_7) := (blk_cell BK163.out 7).trans rfl
      have hfz54_0 := blk_frozen BK163.out 0
      have hfz54_1 := blk_frozen BK163.out 1
      have hfz54_2 := blk_frozen BK163.out 2
      have hfz54_3 := blk_frozen BK163.out 3
      have hfz54_4 := blk_frozen BK163.out 4
      have hfz54_5 := blk_frozen BK163.out 5
      have hfz54_6 := blk_frozen BK163.out 6
      have hfz54_7 := blk_frozen BK163.out 7
      go_wp2_with (first | ((with_reducible refine gate_callee (f := 15) rfl ?_); refine goesL_ (some 58) rfl rfl Tryd.func15 (by kernel_rfl) rfl #[.string a0, .agg #[.bool a1_0, .bool a1_1, .bool a1_2, .bool a1_3, .bool a1_4, .int .i64 a1_5, .int .i64 a1_6, .int .i32 a1_7]] rfl (by (try simp only [List.map_toArray, List.map_cons, List.map_nil]); first | done | rfl | (simp only [List.length_drop, List.length_take]; rfl)) ?_; (with_reducible refine (quote_Hex.calls kj2 a0 a1_0 a1_1 a1_2 a1_3 a1_4 a1_5 a1_6 a1_7 t176 _ A53.out).mono ?_); rintro e w55 ⟨rfl, hb⟩; refine ⟨_, rfl, ?_⟩; have n0_ := Aside0.mk (blk_below (g := gb163) (o := .cells #[.bool a1_0, .bool a1_1, .bool a1_2, .bool a1_3, .bool a1_4, .int .i64 a1_5, .int .i64 a1_6, .int .i32 a1_7] 28 (0, 0)) (by (with_reducible repeat (first | refine blk_drewN ?_ _ | refine blk_drew ?_ | refine blk_alloc ?_ _)); exact BK163.out) hb); have n1_ := Aside0.mk (below_step (by repeat (first | (with_reducible first | exact HB.out | apply below_alloc | apply pw_below_drewN | apply below_drew1 | refine below_set ?_ GE163.out) | exact HB.out)) hb); clear BK163; clear HB; have BK163 := n0_; have HB := n1_; clear n0_ n1_; (try clear hb); (try clear hb2); (try clear hk); (try clear hi)))
      go_ret2
      exact ⟨by first | rfl | (simp [errW_none, errW_some] <;> rfl) | (simp [*, errW_none, errW_some] <;> rfl), by repeat (first | (with_reducible first | exact HB.out | apply below_alloc | apply pw_below_drewN | apply below_drew1 | refine below_set ?_ GE163.out) | exact HB.out)⟩
     ·
      rw [if_neg c52] at H
      have c52b0 : (a1_7 == 120) = false := beq_eq_false_iff_ne.mpr c52
      have c52b1 : (a1_7 != 120) = true := bne_iff_ne.mpr c52
      by_cases c56 : a1_7 = 88
      ·
       rw [if_pos c56] at H
       have c56b0 : (a1_7 == 88) = true := beq_iff_eq.mpr c56
       have c56b1 : (a1_7 != 88) = false := bne_eq_false_iff_eq.mpr c56
       clear c56
       replace H := Option.bind_eq_some_iff.mp H
       obtain ⟨t177, A570, H⟩ := H
       replace H : (some (t177, true)) = some (r1, r2) := H
       have A57 := Aside0.mk A570
       clear A570
       simp only [Option.some.injEq, Prod.mk.injEq] at H
       obtain ⟨rfl, rfl⟩ := H
       have hcz58_0 : wc.cell? ⟨gb163, 0, none⟩ = some (.bool a1_0) := (blk_cell BK163.out 0).trans rfl
       have hcz58_1 : wc.cell? ⟨gb163, 1, none⟩ = some (.bool a1_1) := (blk_cell BK163.out 1).trans rfl
       have hcz58_2 : wc.cell? ⟨gb163, 2, none⟩ = some (.bool a1_2) := (blk_cell BK163.out 2).trans rfl
       have hcz58_3 : wc.cell? ⟨gb163, 3, none⟩ = some (.bool a1_3) := (blk_cell BK163.out 3).trans rfl
       have hcz58_4 : wc.cell? ⟨gb163, 4, none⟩ = some (.bool a1_4) := (blk_cell BK163.out 4).trans rfl
       have hcz58_5 : wc.cell? ⟨gb163, 5, none⟩ = some (.int .i64 a1_5) := (blk_cell BK163.out 5).trans rfl
       have hcz58_6 : wc.cell? ⟨gb163, 6, none⟩ = some (.int .i64 a1_6) := (blk_cell BK163.out 6).trans rfl
       have hcz58_7 : wc.cell? ⟨gb163, 7, none⟩ = some (.int .i32 a1_7) := (blk_cell BK163.out 7).trans rfl
       have hfz58_0 := blk_frozen BK163.out 0
       have hfz58_1 := blk_frozen BK163.out 1
       have hfz58_2 := blk_frozen BK163.out 2
       have hfz58_3 := blk_frozen BK163.out 3
       have hfz58_4 := blk_frozen BK163.out 4
       have hfz58_5 := blk_frozen BK163.out 5
       have hfz58_6 := blk_frozen BK163.out 6
       have hfz58_7 := blk_frozen BK163.out 7
       go_wp2_with (first | ((with_reducible refine gate_callee (f := 15) rfl ?_); refine goesL_ (some 58) rfl rfl Tryd.func15 (by kernel_rfl) rfl #[.string a0, .agg #[.bool a1_0, .bool a1_1, .bool a1_2, .bool a1_3, .bool a1_4, .int .i64 a1_5, .int .i64 a1_6, .int .i32 a1_7]] rfl (by (try simp only [List.map_toArray, List.map_cons, List.map_nil]); first | done | rfl | (simp only [List.length_drop, List.length_take]; rfl)) ?_; (with_reducible refine (quote_Hex.calls kj2 a0 a1_0 a1_1 a1_2 a1_3 a1_4 a1_5 a1_6 a1_7 t177 _ A57.out).mono ?_); rintro e w59 ⟨rfl, hb⟩; refine ⟨_, rfl, ?_⟩; have n0_ := Aside0.mk (blk_below (g := gb163) (o := .cells #[.bool a1_0, .bool a1_1, .bool a1_2, .bool a1_3, .bool a1_4, .int .i64 a1_5, .int .i64 a1_6, .int .i32 a1_7] 28 (0, 0)) (by (with_reducible repeat (first | refine blk_drewN ?_ _ | refine blk_drew ?_ | refine blk_alloc ?_ _)); exact BK163.out) hb); have n1_ := Aside0.mk (below_step (by repeat (first | (with_reducible first | exact HB.out | apply below_alloc | apply pw_below_drewN | apply below_drew1 | refine below_set ?_ GE163.out) | exact HB.out)) hb); clear BK163; clear HB; have BK163 := n0_; have HB := n1_; clear n0_ n1_; (try clear hb); (try clear hb2); (try clear hk); (try clear hi)))
       go_ret2
       exact ⟨by first | rfl | (simp [errW_none, errW_some] <;> rfl) | (simp [*, errW_none, errW_some] <;> rfl), by repeat (first | (with_reducible first | exact HB.out | apply below_alloc | apply pw_below_drewN | apply below_drew1 | refine below_set ?_ GE163.out) | exact HB.out)⟩
      ·
       rw [if_neg c56] at H
       have c56b0 : (a1_7 == 88) = false := beq_eq_false_iff_ne.mpr c56
       have c56b1 : (a1_7 != 88) = true := bne_iff_ne.mpr c56
       simp only [Option.some.injEq, Prod.mk.injEq] at H
       obtain ⟨rfl, rfl⟩ := H
       go_wp2
       go_ret2
       exact ⟨by first | rfl | (simp [errW_none, errW_some] <;> rfl) | (simp [*, errW_none, errW_some] <;> rfl), by repeat (first | (with_reducible first | exact HB.out | apply below_alloc | apply pw_below_drewN | apply below_drew1 | refine below_set ?_ GE163.out) | exact HB.out)⟩
end Go.Proofs.YtcoippikicikoaaDoor.PQGen
namespace Go.Proofs.YtcoippikicikoaaDoor.PQGen
open Go.RowKit Go.Proofs.YtcoippikicikoaaDoorW.PrintWords Go.Proofs.YtcoippikicikoaaDoorW.PrintLast Go.Proofs.YtcoippikicikoaaDoorW.PrintMore
attribute [local go_sem] max2_int min2_int max_two min_two
set_option linter.unusedVariables false
set_option linter.unusedSimpArgs false
def platenlaw02_lives.f (k : Nat)  : Option (Bool) := (quote_Text.f k (⟨#[195, 169]⟩ : ByteArray) true false false false false (-1) (-1) 113).bind fun bt178 => ((quote_Unquote.f (⟨#[34, 92, 120, 54, 49, 34]⟩ : ByteArray)).bind fun bt180 => (if bt178.2 = true then (if bt180.2 = true then (some false) else (if bt178.1.toList = ([34, 92, 117, 48, 48, 101, 57, 34] : List UInt8) then ((quote_Quote.f (⟨#[255]⟩ : ByteArray) false).bind fun t182 => (if t182.toList = ([34, 92, 120, 102, 102, 34] : List UInt8) then ((quote_Hex.f k (⟨#[97, 98]⟩ : ByteArray) false false true true false (-1) (-1) 120).bind fun t183 => (some (t183.toList == ([48, 120, 54, 49, 32, 48, 120, 54, 50] : List UInt8)))) else (some false))) else (some false))) else (some false)))
theorem platenlaw02_lives.mono : ∀ k, LeO (platenlaw02_lives.f k ) (platenlaw02_lives.f (k + 1) ) := by
 intro  k
 unfold platenlaw02_lives.f
 repeat' first
  | (with_reducible exact quote_Hex.mono _ _ _ _ _ _ _ _ _ _)
  | (with_reducible exact quote_Text.mono _ _ _ _ _ _ _ _ _ _)
  | (with_reducible exact LeO.refl _)
  | (with_reducible exact LeO.none _)
  | (with_reducible refine LeO.ite ?_ ?_)
  | (with_reducible refine LeO.bind ?_ (fun _ => ?_))
  | exact quote_Hex.mono _ _ _ _ _ _ _ _ _ _
  | exact quote_Text.mono _ _ _ _ _ _ _ _ _ _
  | exact LeO.none _
  | refine LeO.ite ?_ ?_
  | refine LeO.bind ?_ (fun _ => ?_)
set_option maxHeartbeats 8000000 in
set_option maxRecDepth 100000 in
theorem platenlaw02_lives.calls (k : Nat)  (r : Bool) (w : World) (hOK : Aside0 (Ok w)) (h : platenlaw02_lives.f k  = some r) :
 Calls Tryd.prog 14 #[] w fun e w' => e = .returned (.bool r) ∧ Below w.heap.size w w' := by
 have hu28 := Tryd.underlying28
 have HB := Aside0.mk (Below.refl w.heap.size w)
 have H : ((quote_Text.f k (⟨#[195, 169]⟩ : ByteArray) true false false false false (-1) (-1) 113).bind fun bt178 => ((quote_Unquote.f (⟨#[34, 92, 120, 54, 49, 34]⟩ : ByteArray)).bind fun bt180 => (if bt178.2 = true then (if bt180.2 = true then (some false) else (if bt178.1.toList = ([34, 92, 117, 48, 48, 101, 57, 34] : List UInt8) then ((quote_Quote.f (⟨#[255]⟩ : ByteArray) false).bind fun t182 => (if t182.toList = ([34, 92, 120, 102, 102, 34] : List UInt8) then ((quote_Hex.f k (⟨#[97, 98]⟩ : ByteArray) false false true true false (-1) (-1) 120).bind fun t183 => (some (t183.toList == ([48, 120, 54, 49, 32, 48, 120, 54, 50] : List UInt8)))) else (some false))) else (some false))) else (some false)))) = some r := h
 clear h
 replace H := Option.bind_eq_some_iff.mp H
 obtain ⟨⟨t178, t179⟩, A10, H⟩ := H
 replace H : ((quote_Unquote.f (⟨#[34, 92, 120, 54, 49, 34]⟩ : ByteArray)).bind fun bt180 => (if t179 = true then (if bt180.2 = true then (some false) else (if t178.toList = ([34, 92, 117, 48, 48, 101, 57, 34] : List UInt8) then ((quote_Quote.f (⟨#[255]⟩ : ByteArray) false).bind fun t182 => (if t182.toList = ([34, 92, 120, 102, 102, 34] : List UInt8) then ((quote_Hex.f k (⟨#[97, 98]⟩ : ByteArray) false false true true false (-1) (-1) 120).bind fun t183 => (some (t183.toList == ([48, 120, 54, 49, 32, 48, 120, 54, 50] : List UInt8)))) else (some false))) else (some false))) else (some false))) = some r := H
 have A1 := Aside0.mk A10
 clear A10
 replace H := Option.bind_eq_some_iff.mp H
 obtain ⟨⟨t180, t181⟩, A20, H⟩ := H
 replace H : (if t179 = true then (if t181 = true then (some false) else (if t178.toList = ([34, 92, 117, 48, 48, 101, 57, 34] : List UInt8) then ((quote_Quote.f (⟨#[255]⟩ : ByteArray) false).bind fun t182 => (if t182.toList = ([34, 92, 120, 102, 102, 34] : List UInt8) then ((quote_Hex.f k (⟨#[97, 98]⟩ : ByteArray) false false true true false (-1) (-1) 120).bind fun t183 => (some (t183.toList == ([48, 120, 54, 49, 32, 48, 120, 54, 50] : List UInt8)))) else (some false))) else (some false))) else (some false)) = some r := H
 have A2 := Aside0.mk A20
 clear A20
 by_cases c3 : t179 = true
 ·
  subst c3
  have H1 : (if t181 = true then (some false) else (if t178.toList = ([34, 92, 117, 48, 48, 101, 57, 34] : List UInt8) then ((quote_Quote.f (⟨#[255]⟩ : ByteArray) false).bind fun t182 => (if t182.toList = ([34, 92, 120, 102, 102, 34] : List UInt8) then ((quote_Hex.f k (⟨#[97, 98]⟩ : ByteArray) false false true true false (-1) (-1) 120).bind fun t183 => (some (t183.toList == ([48, 120, 54, 49, 32, 48, 120, 54, 50] : List UInt8)))) else (some false))) else (some false))) = some r := by rw [if_pos rfl] at H; exact H
  clear H
  have H := H1
  clear H1
  by_cases c4 : t181 = true
  ·
   subst c4
   have H1 : (some false) = some r := by rw [if_pos rfl] at H; exact H
   clear H
   have H := H1
   clear H1
   obtain rfl := Option.some.inj H
   go_enter Tryd.func14, Tryd.ntmps14
   go_wp2_with (first | ((with_reducible refine gate_callee (f := 17) rfl ?_); refine goesL_ (some 7) rfl rfl Tryd.func17 (by kernel_rfl) rfl #[.string (⟨#[195, 169]⟩ : ByteArray), .agg #[.bool true, .bool false, .bool false, .bool false, .bool false, .int .i64 (-1), .int .i64 (-1), .int .i32 113]] rfl (by (try simp only [List.map_toArray, List.map_cons, List.map_nil]); first | done | rfl | (simp only [List.length_drop, List.length_take]; rfl)) ?_; (with_reducible refine (quote_Text.calls k (⟨#[195, 169]⟩ : ByteArray) true false false false false (-1) (-1) 113 t178 true _ (by (try refine Aside0.mk ?_); first | exact hOK.out | exact (hOK.out).drewN _ | (refine (hOK.out).later ?_; (repeat (first | (with_reducible first | exact HB.out | apply below_alloc | apply pw_below_drewN | apply below_drew1) | exact HB.out))) | (refine Ok.drewN ?_ _; exact hOK.out)) A1.out).mono ?_); rintro e w5 ⟨rfl, hb⟩; refine ⟨_, rfl, ?_⟩; have n0_ := Aside0.mk (below_step (by repeat (first | (with_reducible first | exact HB.out | apply below_alloc | apply pw_below_drewN | apply below_drew1) | exact HB.out)) hb); clear HB; have HB := n0_; clear n0_; (try clear hb); (try clear hb2); (try clear hk); (try clear hi)) | ((with_reducible refine gate_callee (f := 12) rfl ?_); refine goesL_ (some 11) rfl rfl Tryd.func12 (by kernel_rfl) rfl #[.string (⟨#[34, 92, 120, 54, 49, 34]⟩ : ByteArray)] rfl (by (try simp only [List.map_toArray, List.map_cons, List.map_nil]); first | done | rfl | (simp only [List.length_drop, List.length_take]; rfl)) ?_; (with_reducible refine (quote_Unquote.calls (⟨#[34, 92, 120, 54, 49, 34]⟩ : ByteArray) t180 true _ (by (try refine Aside0.mk ?_); first | exact hOK.out | exact (hOK.out).drewN _ | (refine (hOK.out).later ?_; (repeat (first | (with_reducible first | exact HB.out | apply below_alloc | apply pw_below_drewN | apply below_drew1) | exact HB.out))) | (refine Ok.drewN ?_ _; exact hOK.out)) A2.out).mono ?_); rintro e w6 ⟨rfl, hb⟩; refine ⟨_, rfl, ?_⟩; have n0_ := Aside0.mk (below_step (by repeat (first | (with_reducible first | exact HB.out | apply below_alloc | apply pw_below_drewN | apply below_drew1) | exact HB.out)) hb); clear HB; have HB := n0_; clear n0_; (try clear hb); (try clear hb2); (try clear hk); (try clear hi)))
   go_ret
   exact ⟨by first | rfl | (simp [errW_none, errW_some] <;> rfl) | (simp [*, errW_none, errW_some] <;> rfl), by repeat (first | (with_reducible first | exact HB.out | apply below_alloc | apply pw_below_drewN | apply below_drew1) | exact HB.out)⟩
  ·
   replace c4 := Bool.eq_false_iff.mpr c4
   subst c4
   have H1 : (if t178.toList = ([34, 92, 117, 48, 48, 101, 57, 34] : List UInt8) then ((quote_Quote.f (⟨#[255]⟩ : ByteArray) false).bind fun t182 => (if t182.toList = ([34, 92, 120, 102, 102, 34] : List UInt8) then ((quote_Hex.f k (⟨#[97, 98]⟩ : ByteArray) false false true true false (-1) (-1) 120).bind fun t183 => (some (t183.toList == ([48, 120, 54, 49, 32, 48, 120, 54, 50] : List UInt8)))) else (some false))) else (some false)) = some r := by rw [if_neg (show ¬ (false = true) by decide)] at H; exact H
   clear H
   have H := H1
   clear H1
   by_cases c7 : t178.toList = ([34, 92, 117, 48, 48, 101, 57, 34] : List UInt8)
   ·
    rw [if_pos c7] at H
    have c7b0 : (t178.toList == ([34, 92, 117, 48, 48, 101, 57, 34] : List UInt8)) = true := beq_iff_eq.mpr c7
    have c7b1 : (t178.toList != ([34, 92, 117, 48, 48, 101, 57, 34] : List UInt8)) = false := bne_eq_false_iff_eq.mpr c7
    clear c7
    replace H := Option.bind_eq_some_iff.mp H
    obtain ⟨t182, A80, H⟩ := H
    replace H : (if t182.toList = ([34, 92, 120, 102, 102, 34] : List UInt8) then ((quote_Hex.f k (⟨#[97, 98]⟩ : ByteArray) false false true true false (-1) (-1) 120).bind fun t183 => (some (t183.toList == ([48, 120, 54, 49, 32, 48, 120, 54, 50] : List UInt8)))) else (some false)) = some r := H
    have A8 := Aside0.mk A80
    clear A80
    by_cases c9 : t182.toList = ([34, 92, 120, 102, 102, 34] : List UInt8)
    ·
     rw [if_pos c9] at H
     have c9b0 : (t182.toList == ([34, 92, 120, 102, 102, 34] : List UInt8)) = true := beq_iff_eq.mpr c9
     have c9b1 : (t182.toList != ([34, 92, 120, 102, 102, 34] : List UInt8)) = false := bne_eq_false_iff_eq.mpr c9
     clear c9
     replace H := Option.bind_eq_some_iff.mp H
     obtain ⟨t183, A100, H⟩ := H
     replace H : (some (t183.toList == ([48, 120, 54, 49, 32, 48, 120, 54, 50] : List UInt8))) = some r := H
     have A10 := Aside0.mk A100
     clear A100
     obtain rfl := Option.some.inj H
     go_enter Tryd.func14, Tryd.ntmps14
     go_wp2_with (first | ((with_reducible refine gate_callee (f := 17) rfl ?_); refine goesL_ (some 7) rfl rfl Tryd.func17 (by kernel_rfl) rfl #[.string (⟨#[195, 169]⟩ : ByteArray), .agg #[.bool true, .bool false, .bool false, .bool false, .bool false, .int .i64 (-1), .int .i64 (-1), .int .i32 113]] rfl (by (try simp only [List.map_toArray, List.map_cons, List.map_nil]); first | done | rfl | (simp only [List.length_drop, List.length_take]; rfl)) ?_; (with_reducible refine (quote_Text.calls k (⟨#[195, 169]⟩ : ByteArray) true false false false false (-1) (-1) 113 t178 true _ (by (try refine Aside0.mk ?_); first | exact hOK.out | exact (hOK.out).drewN _ | (refine (hOK.out).later ?_; (repeat (first | (with_reducible first | exact HB.out | apply below_alloc | apply pw_below_drewN | apply below_drew1) | exact HB.out))) | (refine Ok.drewN ?_ _; exact hOK.out)) A1.out).mono ?_); rintro e w11 ⟨rfl, hb⟩; refine ⟨_, rfl, ?_⟩; have n0_ := Aside0.mk (below_step (by repeat (first | (with_reducible first | exact HB.out | apply below_alloc | apply pw_below_drewN | apply below_drew1) | exact HB.out)) hb); clear HB; have HB := n0_; clear n0_; (try clear hb); (try clear hb2); (try clear hk); (try clear hi)) | ((with_reducible refine gate_callee (f := 12) rfl ?_); refine goesL_ (some 11) rfl rfl Tryd.func12 (by kernel_rfl) rfl #[.string (⟨#[34, 92, 120, 54, 49, 34]⟩ : ByteArray)] rfl (by (try simp only [List.map_toArray, List.map_cons, List.map_nil]); first | done | rfl | (simp only [List.length_drop, List.length_take]; rfl)) ?_; (with_reducible refine (quote_Unquote.calls (⟨#[34, 92, 120, 54, 49, 34]⟩ : ByteArray) t180 false _ (by (try refine Aside0.mk ?_); first | exact hOK.out | exact (hOK.out).drewN _ | (refine (hOK.out).later ?_; (repeat (first | (with_reducible first | exact HB.out | apply below_alloc | apply pw_below_drewN | apply below_drew1) | exact HB.out))) | (refine Ok.drewN ?_ _; exact hOK.out)) A2.out).mono ?_); rintro e w12 ⟨rfl, hb⟩; refine ⟨_, rfl, ?_⟩; have n0_ := Aside0.mk (below_step (by repeat (first | (with_reducible first | exact HB.out | apply below_alloc | apply pw_below_drewN | apply below_drew1) | exact HB.out)) hb); clear HB; have HB := n0_; clear n0_; (try clear hb); (try clear hb2); (try clear hk); (try clear hi)) | (go_at_call 19; (with_reducible refine (quote_Quote.calls (⟨#[255]⟩ : ByteArray) false t182 _ (by (try refine Aside0.mk ?_); first | exact hOK.out | exact (hOK.out).drewN _ | (refine (hOK.out).later ?_; (repeat (first | (with_reducible first | exact HB.out | apply below_alloc | apply pw_below_drewN | apply below_drew1) | exact HB.out))) | (refine Ok.drewN ?_ _; exact hOK.out)) A8.out).mono ?_); rintro e w13 ⟨rfl, hb⟩; have n0_ := Aside0.mk (below_step (by repeat (first | (with_reducible first | exact HB.out | apply below_alloc | apply pw_below_drewN | apply below_drew1) | exact HB.out)) hb); clear HB; have HB := n0_; clear n0_; (try clear hb); (try clear hb2); (try clear hk); (try clear hi)) | (go_at_call 15; (with_reducible refine (quote_Hex.calls k (⟨#[97, 98]⟩ : ByteArray) false false true true false (-1) (-1) 120 t183 _ A10.out).mono ?_); rintro e w14 ⟨rfl, hb⟩; have n0_ := Aside0.mk (below_step (by repeat (first | (with_reducible first | exact HB.out | apply below_alloc | apply pw_below_drewN | apply below_drew1) | exact HB.out)) hb); clear HB; have HB := n0_; clear n0_; (try clear hb); (try clear hb2); (try clear hk); (try clear hi)))
     go_ret
     exact ⟨by first | rfl | (simp [errW_none, errW_some] <;> rfl) | (simp [*, errW_none, errW_some] <;> rfl), by repeat (first | (with_reducible first | exact HB.out | apply below_alloc | apply pw_below_drewN | apply below_drew1) | exact HB.out)⟩
    ·
     rw [if_neg c9] at H
     have c9b0 : (t182.toList == ([34, 92, 120, 102, 102, 34] : List UInt8)) = false := beq_eq_false_iff_ne.mpr c9
     have c9b1 : (t182.toList != ([34, 92, 120, 102, 102, 34] : List UInt8)) = true := bne_iff_ne.mpr c9
     obtain rfl := Option.some.inj H
     go_enter Tryd.func14, Tryd.ntmps14
     go_wp2_with (first | ((with_reducible refine gate_callee (f := 17) rfl ?_); refine goesL_ (some 7) rfl rfl Tryd.func17 (by kernel_rfl) rfl #[.string (⟨#[195, 169]⟩ : ByteArray), .agg #[.bool true, .bool false, .bool false, .bool false, .bool false, .int .i64 (-1), .int .i64 (-1), .int .i32 113]] rfl (by (try simp only [List.map_toArray, List.map_cons, List.map_nil]); first | done | rfl | (simp only [List.length_drop, List.length_take]; rfl)) ?_; (with_reducible refine (quote_Text.calls k (⟨#[195, 169]⟩ : ByteArray) true false false false false (-1) (-1) 113 t178 true _ (by (try refine Aside0.mk ?_); first | exact hOK.out | exact (hOK.out).drewN _ | (refine (hOK.out).later ?_; (repeat (first | (with_reducible first | exact HB.out | apply below_alloc | apply pw_below_drewN | apply below_drew1) | exact HB.out))) | (refine Ok.drewN ?_ _; exact hOK.out)) A1.out).mono ?_); rintro e w15 ⟨rfl, hb⟩; refine ⟨_, rfl, ?_⟩; have n0_ := Aside0.mk (below_step (by repeat (first | (with_reducible first | exact HB.out | apply below_alloc | apply pw_below_drewN | apply below_drew1) | exact HB.out)) hb); clear HB; have HB := n0_; clear n0_; (try clear hb); (try clear hb2); (try clear hk); (try clear hi)) | ((with_reducible refine gate_callee (f := 12) rfl ?_); refine goesL_ (some 11) rfl rfl Tryd.func12 (by kernel_rfl) rfl #[.string (⟨#[34, 92, 120, 54, 49, 34]⟩ : ByteArray)] rfl (by (try simp only [List.map_toArray, List.map_cons, List.map_nil]); first | done | rfl | (simp only [List.length_drop, List.length_take]; rfl)) ?_; (with_reducible refine (quote_Unquote.calls (⟨#[34, 92, 120, 54, 49, 34]⟩ : ByteArray) t180 false _ (by (try refine Aside0.mk ?_); first | exact hOK.out | exact (hOK.out).drewN _ | (refine (hOK.out).later ?_; (repeat (first | (with_reducible first | exact HB.out | apply below_alloc | apply pw_below_drewN | apply below_drew1) | exact HB.out))) | (refine Ok.drewN ?_ _; exact hOK.out)) A2.out).mono ?_); rintro e w16 ⟨rfl, hb⟩; refine ⟨_, rfl, ?_⟩; have n0_ := Aside0.mk (below_step (by repeat (first | (with_reducible first | exact HB.out | apply below_alloc | apply pw_below_drewN | apply below_drew1) | exact HB.out)) hb); clear HB; have HB := n0_; clear n0_; (try clear hb); (try clear hb2); (try clear hk); (try clear hi)) | (go_at_call 19; (with_reducible refine (quote_Quote.calls (⟨#[255]⟩ : ByteArray) false t182 _ (by (try refine Aside0.mk ?_); first | exact hOK.out | exact (hOK.out).drewN _ | (refine (hOK.out).later ?_; (repeat (first | (with_reducible first | exact HB.out | apply below_alloc | apply pw_below_drewN | apply below_drew1) | exact HB.out))) | (refine Ok.drewN ?_ _; exact hOK.out)) A8.out).mono ?_); rintro e w17 ⟨rfl, hb⟩; have n0_ := Aside0.mk (below_step (by repeat (first | (with_reducible first | exact HB.out | apply below_alloc | apply pw_below_drewN | apply below_drew1) | exact HB.out)) hb); clear HB; have HB := n0_; clear n0_; (try clear hb); (try clear hb2); (try clear hk); (try clear hi)))
     go_ret
     exact ⟨by first | rfl | (simp [errW_none, errW_some] <;> rfl) | (simp [*, errW_none, errW_some] <;> rfl), by repeat (first | (with_reducible first | exact HB.out | apply below_alloc | apply pw_below_drewN | apply below_drew1) | exact HB.out)⟩
   ·
    rw [if_neg c7] at H
    have c7b0 : (t178.toList == ([34, 92, 117, 48, 48, 101, 57, 34] : List UInt8)) = false := beq_eq_false_iff_ne.mpr c7
    have c7b1 : (t178.toList != ([34, 92, 117, 48, 48, 101, 57, 34] : List UInt8)) = true := bne_iff_ne.mpr c7
    obtain rfl := Option.some.inj H
    go_enter Tryd.func14, Tryd.ntmps14
    go_wp2_with (first | ((with_reducible refine gate_callee (f := 17) rfl ?_); refine goesL_ (some 7) rfl rfl Tryd.func17 (by kernel_rfl) rfl #[.string (⟨#[195, 169]⟩ : ByteArray), .agg #[.bool true, .bool false, .bool false, .bool false, .bool false, .int .i64 (-1), .int .i64 (-1), .int .i32 113]] rfl (by (try simp only [List.map_toArray, List.map_cons, List.map_nil]); first | done | rfl | (simp only [List.length_drop, List.length_take]; rfl)) ?_; (with_reducible refine (quote_Text.calls k (⟨#[195, 169]⟩ : ByteArray) true false false false false (-1) (-1) 113 t178 true _ (by (try refine Aside0.mk ?_); first | exact hOK.out | exact (hOK.out).drewN _ | (refine (hOK.out).later ?_; (repeat (first | (with_reducible first | exact HB.out | apply below_alloc | apply pw_below_drewN | apply below_drew1) | exact HB.out))) | (refine Ok.drewN ?_ _; exact hOK.out)) A1.out).mono ?_); rintro e w18 ⟨rfl, hb⟩; refine ⟨_, rfl, ?_⟩; have n0_ := Aside0.mk (below_step (by repeat (first | (with_reducible first | exact HB.out | apply below_alloc | apply pw_below_drewN | apply below_drew1) | exact HB.out)) hb); clear HB; have HB := n0_; clear n0_; (try clear hb); (try clear hb2); (try clear hk); (try clear hi)) | ((with_reducible refine gate_callee (f := 12) rfl ?_); refine goesL_ (some 11) rfl rfl Tryd.func12 (by kernel_rfl) rfl #[.string (⟨#[34, 92, 120, 54, 49, 34]⟩ : ByteArray)] rfl (by (try simp only [List.map_toArray, List.map_cons, List.map_nil]); first | done | rfl | (simp only [List.length_drop, List.length_take]; rfl)) ?_; (with_reducible refine (quote_Unquote.calls (⟨#[34, 92, 120, 54, 49, 34]⟩ : ByteArray) t180 false _ (by (try refine Aside0.mk ?_); first | exact hOK.out | exact (hOK.out).drewN _ | (refine (hOK.out).later ?_; (repeat (first | (with_reducible first | exact HB.out | apply below_alloc | apply pw_below_drewN | apply below_drew1) | exact HB.out))) | (refine Ok.drewN ?_ _; exact hOK.out)) A2.out).mono ?_); rintro e w19 ⟨rfl, hb⟩; refine ⟨_, rfl, ?_⟩; have n0_ := Aside0.mk (below_step (by repeat (first | (with_reducible first | exact HB.out | apply below_alloc | apply pw_below_drewN | apply below_drew1) | exact HB.out)) hb); clear HB; have HB := n0_; clear n0_; (try clear hb); (try clear hb2); (try clear hk); (try clear hi)))
    go_ret
    exact ⟨by first | rfl | (simp [errW_none, errW_some] <;> rfl) | (simp [*, errW_none, errW_some] <;> rfl), by repeat (first | (with_reducible first | exact HB.out | apply below_alloc | apply pw_below_drewN | apply below_drew1) | exact HB.out)⟩
 ·
  replace c3 := Bool.eq_false_iff.mpr c3
  subst c3
  have H1 : (some false) = some r := by rw [if_neg (show ¬ (false = true) by decide)] at H; exact H
  clear H
  have H := H1
  clear H1
  obtain rfl := Option.some.inj H
  go_enter Tryd.func14, Tryd.ntmps14
  go_wp2_with (first | ((with_reducible refine gate_callee (f := 17) rfl ?_); refine goesL_ (some 7) rfl rfl Tryd.func17 (by kernel_rfl) rfl #[.string (⟨#[195, 169]⟩ : ByteArray), .agg #[.bool true, .bool false, .bool false, .bool false, .bool false, .int .i64 (-1), .int .i64 (-1), .int .i32 113]] rfl (by (try simp only [List.map_toArray, List.map_cons, List.map_nil]); first | done | rfl | (simp only [List.length_drop, List.length_take]; rfl)) ?_; (with_reducible refine (quote_Text.calls k (⟨#[195, 169]⟩ : ByteArray) true false false false false (-1) (-1) 113 t178 false _ (by (try refine Aside0.mk ?_); first | exact hOK.out | exact (hOK.out).drewN _ | (refine (hOK.out).later ?_; (repeat (first | (with_reducible first | exact HB.out | apply below_alloc | apply pw_below_drewN | apply below_drew1) | exact HB.out))) | (refine Ok.drewN ?_ _; exact hOK.out)) A1.out).mono ?_); rintro e w20 ⟨rfl, hb⟩; refine ⟨_, rfl, ?_⟩; have n0_ := Aside0.mk (below_step (by repeat (first | (with_reducible first | exact HB.out | apply below_alloc | apply pw_below_drewN | apply below_drew1) | exact HB.out)) hb); clear HB; have HB := n0_; clear n0_; (try clear hb); (try clear hb2); (try clear hk); (try clear hi)) | ((with_reducible refine gate_callee (f := 12) rfl ?_); refine goesL_ (some 11) rfl rfl Tryd.func12 (by kernel_rfl) rfl #[.string (⟨#[34, 92, 120, 54, 49, 34]⟩ : ByteArray)] rfl (by (try simp only [List.map_toArray, List.map_cons, List.map_nil]); first | done | rfl | (simp only [List.length_drop, List.length_take]; rfl)) ?_; (with_reducible refine (quote_Unquote.calls (⟨#[34, 92, 120, 54, 49, 34]⟩ : ByteArray) t180 t181 _ (by (try refine Aside0.mk ?_); first | exact hOK.out | exact (hOK.out).drewN _ | (refine (hOK.out).later ?_; (repeat (first | (with_reducible first | exact HB.out | apply below_alloc | apply pw_below_drewN | apply below_drew1) | exact HB.out))) | (refine Ok.drewN ?_ _; exact hOK.out)) A2.out).mono ?_); rintro e w21 ⟨rfl, hb⟩; refine ⟨_, rfl, ?_⟩; have n0_ := Aside0.mk (below_step (by repeat (first | (with_reducible first | exact HB.out | apply below_alloc | apply pw_below_drewN | apply below_drew1) | exact HB.out)) hb); clear HB; have HB := n0_; clear n0_; (try clear hb); (try clear hb2); (try clear hk); (try clear hi)))
  go_ret
  exact ⟨by first | rfl | (simp [errW_none, errW_some] <;> rfl) | (simp [*, errW_none, errW_some] <;> rfl), by repeat (first | (with_reducible first | exact HB.out | apply below_alloc | apply pw_below_drewN | apply below_drew1) | exact HB.out)⟩
end Go.Proofs.YtcoippikicikoaaDoor.PQGen
namespace Go.Proofs.YtcoippikicikoaaDoor.PQGen
open Go.RowKit Go.Proofs.YtcoippikicikoaaDoorW.PrintWords Go.Proofs.YtcoippikicikoaaDoorW.PrintLast Go.Proofs.YtcoippikicikoaaDoorW.PrintMore
attribute [local go_sem] max2_int min2_int max_two min_two
set_option linter.unusedVariables false
set_option linter.unusedSimpArgs false
end Go.Proofs.YtcoippikicikoaaDoor.PQGen
namespace Go.Proofs.YtcoippikicikoaaDoor.PQGen
open Go.RowKit Go.Proofs.YtcoippikicikoaaDoorW.PrintWords Go.Proofs.YtcoippikicikoaaDoorW.PrintLast Go.Proofs.YtcoippikicikoaaDoorW.PrintMore
attribute [local go_sem] max2_int min2_int max_two min_two
set_option linter.unusedVariables false
set_option linter.unusedSimpArgs false
end Go.Proofs.YtcoippikicikoaaDoor.PQGen
namespace Go.Proofs.YtcoippikicikoaaDoor.PQChars
open Go.RowKit Go.Proofs.YtcoippikicikoaaDoorW.PrintWords Go.Proofs.YtcoippikicikoaaDoorW.PrintLast Go.Proofs.YtcoippikicikoaaDoorW.PrintMore
attribute [local go_sem] max2_int min2_int max_two min_two
set_option linter.unusedVariables false
set_option linter.unusedSimpArgs false
def errW : Option Int → Value
 | none => .nilIface
 | some c => .iface 0 (.int .i64 c)
theorem errW_none : errW none = .nilIface := rfl
theorem errW_some (c : Int) : errW (some c) = .iface 0 (.int .i64 c) := rfl
end Go.Proofs.YtcoippikicikoaaDoor.PQChars
namespace Go.Proofs.YtcoippikicikoaaDoor.PQChars
open Go.RowKit Go.Proofs.YtcoippikicikoaaDoorW.PrintWords Go.Proofs.YtcoippikicikoaaDoorW.PrintLast Go.Proofs.YtcoippikicikoaaDoorW.PrintMore
attribute [local go_sem] max2_int min2_int max_two min_two
set_option linter.unusedVariables false
set_option linter.unusedSimpArgs false
end Go.Proofs.YtcoippikicikoaaDoor.PQChars
namespace Go.Proofs.YtcoippikicikoaaDoor.PQChars
open Go.RowKit Go.Proofs.YtcoippikicikoaaDoorW.PrintWords Go.Proofs.YtcoippikicikoaaDoorW.PrintLast Go.Proofs.YtcoippikicikoaaDoorW.PrintMore
attribute [local go_sem] max2_int min2_int max_two min_two
set_option linter.unusedVariables false
set_option linter.unusedSimpArgs false
end Go.Proofs.YtcoippikicikoaaDoor.PQChars
namespace Go.Proofs.YtcoippikicikoaaDoor
open Go.RowKit Go.Proofs.YtcoippikicikoaaDoorW.PrintWords Go.Proofs.YtcoippikicikoaaDoorW.PrintMore Go.Proofs.YtcoippikicikoaaDoor.PQRef
open Go.Proofs.YtcoippikicikoaaDoor.PQPut (quote_put.f quote_escape.f)
theorem lives_a : PQGen.platenlaw02_lives.f 100 = some true := by decide +kernel
theorem lives_f (k : Nat) : PQGen.platenlaw02_lives.f (k + 100) = some true :=
  at_rounds (fun k => PQGen.platenlaw02_lives.mono k) (Nat.le_add_left 100 k) lives_a
theorem putL_length (c q : Nat) (asc : Bool) : 1 ≤ (putL c q asc).length ∧ (putL c q asc).length ≤ 10 := by
  have := enc_length (c : Int)
  unfold putL
  repeat' split
  all_goals first | exact ⟨by omega, by omega⟩ | (simp [hexL_length])
theorem validRune_valid (c : Int) : Lib.validRune c = Utf8.valid c := by
  unfold Lib.validRune Utf8.valid
  rw [Bool.eq_iff_iff]
  simp
  omega
theorem around (a : UInt8) (l : List UInt8) : strOfNums (([(a.toNat : Int)] ++ ints l) ++ [(a.toNat : Int)]) = (T [a] ++ T l) ++ T [a] := by
  rw [T_append, T_append, ← strOfNums_ints, ints_append, ints_append]
  rfl
theorem Char_f (d : Nat) (c : Int) (asc : Bool) (hd : d ≤ 1114111) (h : (if Lib.validRune c = true then c else 65533) = (d : Int)) : quote_Char.f c asc = some ((T [39] ++ T (putL d 39 asc)) ++ T [39]) := by
  unfold quote_Char.f
  obtain ⟨l1, l2⟩ := putL_length d 39 asc
  rw [h, show (39 : Int) = ((39 : Nat) : Int) from rfl, put_f d 39 asc hd [((39 : Nat) : Int)] (by simp), Option.bind_some, if_pos (by rw [List.length_append, ints_length, List.length_singleton]; omega)]
  exact congrArg some (around 39 (putL d 39 asc))
end Go.Proofs.YtcoippikicikoaaDoor
namespace Go.Proofs.YtcoippikicikoaaDoor
open Go.RowKit Go.Proofs.YtcoippikicikoaaDoorW.PrintWords Go.Proofs.YtcoippikicikoaaDoorW.PrintMore Go.Proofs.YtcoippikicikoaaDoor.PQRef
open Go.Proofs.YtcoippikicikoaaDoor.PQPut (quote_put.f quote_escape.f)
theorem decN_small (n b0 b1 b2 b3 : Nat) : (Lib.decodeN n b0 b1 b2 b3).1 ≤ 1114111 := by
  unfold Lib.decodeN
  repeat' split
  all_goals simp only []
  all_goals omega
theorem dec_small (s : ByteArray) (p : Nat) : (Utf8.decode s p).1 ≤ 1114111 := by
  rw [Lib.decode_at]; exact decN_small _ _ _ _ _
def part (s : ByteArray) (asc : Bool) (p : Nat) : List UInt8 :=
  if (Utf8.decode s p).1 = 65533 ∧ (Utf8.decode s p).2 = 1 then [92, 120] ++ hexL 2 (s.get! p).toNat else putL (Utf8.decode s p).1 34 asc
theorem part_length (s : ByteArray) (asc : Bool) (p : Nat) : 1 ≤ (part s asc p).length ∧ (part s asc p).length ≤ 10 := by
  unfold part
  split
  · simp [hexL_length]
  · exact putL_length _ _ _
def qparts (s : ByteArray) (asc : Bool) : Nat → Nat → List UInt8
  | 0, _ => []
  | f + 1, p => if p < s.size then part s asc p ++ qparts s asc f (p + (Utf8.decode s p).2) else []
theorem part_f (s : ByteArray) (asc : Bool) (p : Nat) (l : List Int) (hl : l.length ≤ 10000000) :
    (if (Utf8.decode s p).1 = 65533 ∧ (Utf8.decode s p).2 = 1 then quote_escape.f 100 l 120 (bt s (p : Int)) 2 else quote_put.f 100 l ((Utf8.decode s p).1 : Int) 34 asc) = some (l ++ ints (part s asc p)) := by
  unfold part
  have hb : (s.get! p).toNat < 256 := bt_lt s p
  by_cases h : (Utf8.decode s p).1 = 65533 ∧ (Utf8.decode s p).2 = 1
  · rw [if_pos h, if_pos h, bt_get, show (120 : Int) = ((120 : Nat) : Int) from rfl, show (2 : Int) = ((2 : Nat) : Int) from rfl, escape_f 100 (by omega) _ 120 2 (by omega) l (by omega) (by omega) (by omega)]
    rfl
  · rw [if_neg h, if_neg h, show (34 : Int) = ((34 : Nat) : Int) from rfl, put_f _ 34 asc (dec_small s p) l hl]
theorem quoteGo_f (s : ByteArray) (asc : Bool) : ∀ (f p : Nat) (l : List Int), s.size ≤ p + f → l.length + 10 * f ≤ 10000000 → quoteGo s asc f p l = some (l ++ ints (qparts s asc f p)) := by
  intro f
  induction f with
  | zero =>
    intro p l h1 _
    rw [quoteGo_end _ _ _ _ _ (by omega)]
    simp [qparts, ints]
  | succ f ih =>
    intro p l h1 h2
    by_cases hp : p < s.size
    · have hw := dec_pos s p hp
      obtain ⟨l1, l2⟩ := part_length s asc p
      unfold quoteGo qparts
      rw [if_pos hp, if_pos hp, part_f s asc p l (by omega), Option.bind_some, ih _ _ (by omega) (by rw [List.length_append, ints_length]; omega), ints_append, List.append_assoc]
    · rw [quoteGo_end _ _ _ _ _ hp]
      unfold qparts
      rw [if_neg hp]
      simp [ints]
def quoteB (s : ByteArray) (asc : Bool) : List UInt8 := [34] ++ qparts s asc s.size 0 ++ [34]
theorem qparts_length (s : ByteArray) (asc : Bool) : ∀ f p, (qparts s asc f p).length ≤ 10 * f := by
  intro f
  induction f with
  | zero => intro p; simp [qparts]
  | succ f ih =>
    intro p
    unfold qparts
    split
    · have := part_length s asc p
      have := ih (p + (Utf8.decode s p).2)
      rw [List.length_append]; omega
    · simp
theorem Quote_f (s : ByteArray) (asc : Bool) (h : s.size ≤ 100000) : quote_Quote.f s asc = some (T (quoteB s asc)) := by
  have hq := qparts_length s asc s.size 0
  unfold quote_Quote.f
  rw [if_pos (by omega), quoteGo_f s asc s.size 0 [34] (by omega) (by simp; omega), Option.bind_some, if_pos (by rw [List.length_append, ints_length, List.length_singleton]; omega)]
  have := strOfNums_ints (quoteB s asc)
  unfold quoteB at this ⊢
  rw [← this, ints_append, ints_append]
  rfl
end Go.Proofs.YtcoippikicikoaaDoor
namespace Go.Proofs.YtcoippikicikoaaDoor
open Go.RowKit Go.Proofs.YtcoippikicikoaaDoorW.PrintWords Go.Proofs.YtcoippikicikoaaDoorW.PrintMore Go.Proofs.YtcoippikicikoaaDoor.PQRef
theorem getT (l : List UInt8) (i : Nat) : (T l).get! i = l.getD i 0 := by
  show (l.toArray)[i]! = _
  rw [Array.getElem!_eq_getD]
  simp [List.getD]
  rfl
theorem toNat_ofNat (x : Nat) (h : x < 256) : (UInt8.ofNat x).toNat = x := by rw [UInt8.toNat_ofNat']; omega
theorem T_self (s : ByteArray) : T s.data.toList = s := bytes_ext rfl
theorem dec_enc (c : Nat) (hv : Utf8.valid (c : Int) = true) (rest : List UInt8) : Utf8.decode (T (encN c ++ rest)) 0 = (c, (encN c).length) := by
  rw [valid_nat] at hv
  rw [Lib.decode_at, T_size]
  simp only [getT, Nat.zero_add, Nat.sub_zero]
  unfold encN
  by_cases h1 : c < 128
  · simp only [if_pos h1, List.cons_append, List.nil_append, List.getD_cons_zero, List.getD_cons_succ, List.length_cons, List.length_nil]
    rw [toNat_ofNat c (by omega)]
    unfold Lib.decodeN
    rw [if_pos h1]
  by_cases h2 : c < 2048
  · simp only [if_neg h1, if_pos h2, List.cons_append, List.nil_append, List.getD_cons_zero, List.getD_cons_succ, List.length_cons, List.length_nil]
    rw [toNat_ofNat (192 + c / 64) (by omega), toNat_ofNat (128 + c % 64) (by omega)]
    unfold Lib.decodeN
    rw [if_neg (by omega), if_pos (by omega), if_pos (by omega)]
    apply Prod.ext <;> simp only <;> omega
  by_cases h3 : c < 65536
  · simp only [if_neg h1, if_neg h2, if_pos h3, List.cons_append, List.nil_append, List.getD_cons_zero, List.getD_cons_succ, List.length_cons, List.length_nil]
    rw [toNat_ofNat (224 + c / 4096) (by omega), toNat_ofNat (128 + c / 64 % 64) (by omega), toNat_ofNat (128 + c % 64) (by omega)]
    unfold Lib.decodeN
    rw [if_neg (by omega), if_neg (by omega), if_pos (by omega), if_pos (by omega)]
    apply Prod.ext <;> simp only <;> omega
  · simp only [if_neg h1, if_neg h2, if_neg h3, List.cons_append, List.nil_append, List.getD_cons_zero, List.getD_cons_succ, List.length_cons, List.length_nil]
    rw [toNat_ofNat (240 + c / 262144) (by omega), toNat_ofNat (128 + c / 4096 % 64) (by omega), toNat_ofNat (128 + c / 64 % 64) (by omega), toNat_ofNat (128 + c % 64) (by omega)]
    unfold Lib.decodeN
    rw [if_neg (by omega), if_neg (by omega), if_neg (by omega), if_pos (by omega), if_pos (by omega)]
    apply Prod.ext <;> simp only <;> omega
theorem quoteB_length (s : ByteArray) (asc : Bool) : (quoteB s asc).length = (qparts s asc s.size 0).length + 2 := by
  unfold quoteB; simp
end Go.Proofs.YtcoippikicikoaaDoor
namespace Go.Proofs.YtcoippikicikoaaDoor
open Go.RowKit Go.Proofs.YtcoippikicikoaaDoorW.PrintWords Go.Proofs.YtcoippikicikoaaDoorW.PrintMore Go.Proofs.YtcoippikicikoaaDoor.PQRef
def ascb (b : UInt8) : Prop := 32 ≤ b.toNat ∧ b.toNat ≤ 126
instance (b : UInt8) : Decidable (ascb b) := inferInstanceAs (Decidable (_ ∧ _))
theorem hxd_asc (d : Nat) (h : d < 16) : ascb (hxd d) := by
  have : ∀ d : Fin 16, 32 ≤ (hxd d.val).toNat ∧ (hxd d.val).toNat ≤ 126 := by decide
  exact this ⟨d, h⟩
theorem hexL_asc (c : Nat) : ∀ n, ∀ b ∈ hexL n c, ascb b := by
  intro n
  induction n with
  | zero => intro b hb; cases hb
  | succ n ih =>
    intro b hb
    rcases List.mem_cons.1 hb with rfl | hb
    · exact hxd_asc _ (Nat.mod_lt _ (by omega))
    · exact ih b hb
theorem lettr_asc (d : Nat) (h : d < 7) : ascb (lettr d) := by
  have : ∀ d : Fin 7, 32 ≤ (lettr d.val).toNat ∧ (lettr d.val).toNat ≤ 126 := by decide
  exact this ⟨d, h⟩
theorem asc_cons (a : UInt8) (l : List UInt8) (ha : ascb a) (hl : ∀ b ∈ l, ascb b) : ∀ b ∈ a :: l, ascb b := by
  intro b hb
  rcases List.mem_cons.1 hb with rfl | hb
  · exact ha
  · exact hl b hb
theorem asc_nil : ∀ b ∈ ([] : List UInt8), ascb b := fun b hb => by cases hb
theorem asc_append (a b : List UInt8) (ha : ∀ x ∈ a, ascb x) (hb : ∀ x ∈ b, ascb x) : ∀ x ∈ a ++ b, ascb x := fun x hx => (List.mem_append.1 hx).elim (ha x) (hb x)
theorem asc_ofNat (c : Nat) (h : 32 ≤ c ∧ c ≤ 126) : ascb (UInt8.ofNat c) := by
  unfold ascb
  rw [toNat_ofNat c (by omega)]; exact h
theorem putL_is (c q : Nat) (asc : Bool) (hq : q = 34 ∨ q = 39) : (∀ b ∈ putL c q asc, ascb b) ∨ (asc = false ∧ plainP c = true ∧ putL c q asc = encN c) := by
  unfold putL
  by_cases h1 : c = q ∨ c = 92
  · rw [if_pos h1]; exact .inl (asc_cons _ _ (by decide) (asc_cons _ _ (asc_ofNat c (by omega)) asc_nil))
  rw [if_neg h1]
  by_cases h2 : 7 ≤ c ∧ c ≤ 13
  · rw [if_pos h2]; exact .inl (asc_cons _ _ (by decide) (asc_cons _ _ (lettr_asc _ (by omega)) asc_nil))
  rw [if_neg h2]
  by_cases h3 : (32 ≤ c ∧ c ≤ 126) ∨ (asc = false ∧ plainP c = true)
  · rw [if_pos h3]
    have hv := plain_valid c (h3.imp id (fun h => h.2))
    have een : enc (c : Int) = encN c := by unfold enc; rw [if_pos hv, Int.toNat_natCast]
    rw [een]
    by_cases h4 : 32 ≤ c ∧ c ≤ 126
    · refine .inl ?_
      unfold encN
      rw [if_pos (by omega)]
      exact asc_cons _ _ (asc_ofNat c h4) asc_nil
    · have h5 := h3.resolve_left h4
      exact .inr ⟨h5.1, h5.2, rfl⟩
  rw [if_neg h3]
  refine .inl ?_
  by_cases h4 : c < 128
  · rw [if_pos h4]; exact asc_cons _ _ (by decide) (asc_cons _ _ (by decide) (hexL_asc c 2))
  rw [if_neg h4]
  by_cases h5 : c ≤ 65535
  · rw [if_pos h5]; exact asc_cons _ _ (by decide) (asc_cons _ _ (by decide) (hexL_asc c 4))
  · rw [if_neg h5]; exact asc_cons _ _ (by decide) (asc_cons _ _ (by decide) (hexL_asc c 8))
theorem part_is (s : ByteArray) (asc : Bool) (p : Nat) : (∀ b ∈ part s asc p, ascb b) ∨ (asc = false ∧ plainP (Utf8.decode s p).1 = true ∧ part s asc p = encN (Utf8.decode s p).1) := by
  unfold part
  split
  · exact .inl (asc_cons _ _ (by decide) (asc_cons _ _ (by decide) (hexL_asc _ 2)))
  · exact putL_is _ 34 asc (.inl rfl)
theorem qparts_asc (s : ByteArray) : ∀ f p, ∀ b ∈ qparts s true f p, ascb b := by
  intro f
  induction f with
  | zero => intro p; exact asc_nil
  | succ f ih =>
    intro p
    unfold qparts
    split
    · refine asc_append _ _ ?_ (ih _)
      rcases part_is s true p with h | h
      · exact h
      · cases h.1
    · exact asc_nil
theorem quoteB_asc (s : ByteArray) : ∀ b ∈ quoteB s true, ascb b := asc_append _ _ (asc_append _ _ (asc_cons _ _ (by decide) asc_nil) (qparts_asc s _ _)) (asc_cons _ _ (by decide) asc_nil)
def Good (l : List UInt8) : Prop := ∃ cs : List Nat, (∀ c ∈ cs, plainP c = true) ∧ l = cs.flatMap encN
theorem good_nil : Good [] := ⟨[], (fun c hc => by cases hc), rfl⟩
theorem good_append (a b : List UInt8) (ha : Good a) (hb : Good b) : Good (a ++ b) := by
  obtain ⟨x, hx, rfl⟩ := ha
  obtain ⟨y, hy, rfl⟩ := hb
  exact ⟨x ++ y, fun c hc => (List.mem_append.1 hc).elim (hx c) (hy c), by rw [List.flatMap_append]⟩
theorem good_one (c : Nat) (h : plainP c = true) : Good (encN c) := ⟨[c], fun x hx => by rw [List.mem_singleton.1 hx]; exact h, by simp⟩
theorem good_asc : ∀ l : List UInt8, (∀ b ∈ l, ascb b) → Good l := by
  intro l
  induction l with
  | nil => intro _; exact good_nil
  | cons a l ih =>
    intro h
    have ha := h a (.head _)
    unfold ascb at ha
    have e : encN a.toNat = [a] := by
      unfold encN
      rw [if_pos (by omega)]
      congr 1
      exact UInt8.toNat_inj.1 (by rw [UInt8.toNat_ofNat']; have := a.toNat_lt; omega)
    have g := good_append _ _ (good_one a.toNat (by simp only [plainP, decide_eq_true_eq]; omega)) (ih (fun b hb => h b (.tail _ hb)))
    rw [e] at g
    exact g
theorem qparts_good (s : ByteArray) : ∀ f p, Good (qparts s false f p) := by
  intro f
  induction f with
  | zero => intro p; exact good_nil
  | succ f ih =>
    intro p
    unfold qparts
    split
    · refine good_append _ _ ?_ (ih _)
      rcases part_is s false p with h | ⟨_, h, e⟩
      · exact good_asc _ h
      · rw [e]; exact good_one _ h
    · exact good_nil
theorem quoteB_good (s : ByteArray) : Good (quoteB s false) := good_append _ _ (good_append _ _ (good_asc _ (asc_cons _ _ (by decide) asc_nil)) (qparts_good s _ _)) (good_asc _ (asc_cons _ _ (by decide) asc_nil))
theorem good_step (r : ByteArray) (h : Good r.data.toList) (h0 : 0 < r.size) : plainP (decB r).1 = true ∧ 32 ≤ (decB r).1 ∧ (decB r).1 ≤ 1114111 ∧ (decB r).1 ≠ 65533 ∧ 1 ≤ (decB r).2 ∧ (decB r).2 ≤ r.size ∧ Good (r.extract (decB r).2 r.size).data.toList := by
  obtain ⟨cs, hc, e⟩ := h
  cases cs with
  | nil => rw [Lib.size_eq, e] at h0; simp at h0
  | cons c cs =>
    have hp := hc c (.head _)
    have hv := plain_valid c (.inr hp)
    have er : r = T (encN c ++ cs.flatMap encN) := by rw [← T_self r, e]; rfl
    have hd := dec_enc c hv (cs.flatMap encN)
    rw [← er] at hd
    have hdb : decB r = (c, (encN c).length) := by unfold decB; rw [if_neg (by omega), hd]
    have h4 := encN_length c
    have hsz : r.size = (encN c).length + (cs.flatMap encN).length := by rw [er, T_size, List.length_append]
    rw [hdb]
    refine ⟨hp, ?_, ?_, ?_, h4.1, by simp only; omega, ?_⟩
    · simp only [plainP, decide_eq_true_eq] at hp; simp only; omega
    · simp only [plainP, decide_eq_true_eq] at hp; simp only; omega
    · simp only [plainP, decide_eq_true_eq] at hp; simp only; omega
    · rw [Lib.extract_to_end, e]
      refine ⟨cs, fun x hx => hc x (.tail _ hx), ?_⟩
      show List.drop (encN c).length (encN c ++ cs.flatMap encN) = _
      rw [List.drop_left]
end Go.Proofs.YtcoippikicikoaaDoor
namespace Go.Proofs.YtcoippikicikoaaDoor.PQBack
open Go.RowKit Go.Proofs.YtcoippikicikoaaDoorW.PrintWords Go.Proofs.YtcoippikicikoaaDoorW.PrintLast Go.Proofs.YtcoippikicikoaaDoorW.PrintMore
attribute [local go_sem] max2_int min2_int max_two min_two
set_option linter.unusedVariables false
set_option linter.unusedSimpArgs false
def errW : Option Int → Value
 | none => .nilIface
 | some c => .iface 0 (.int .i64 c)
theorem errW_none : errW none = .nilIface := rfl
theorem errW_some (c : Int) : errW (some c) = .iface 0 (.int .i64 c) := rfl
end Go.Proofs.YtcoippikicikoaaDoor.PQBack
namespace Go.Proofs.YtcoippikicikoaaDoor.PQBack
open Go.RowKit Go.Proofs.YtcoippikicikoaaDoorW.PrintWords Go.Proofs.YtcoippikicikoaaDoorW.PrintLast Go.Proofs.YtcoippikicikoaaDoorW.PrintMore
attribute [local go_sem] max2_int min2_int max_two min_two
set_option linter.unusedVariables false
set_option linter.unusedSimpArgs false
end Go.Proofs.YtcoippikicikoaaDoor.PQBack
namespace Go.Proofs.YtcoippikicikoaaDoor.PQBack
open Go.RowKit Go.Proofs.YtcoippikicikoaaDoorW.PrintWords Go.Proofs.YtcoippikicikoaaDoorW.PrintLast Go.Proofs.YtcoippikicikoaaDoorW.PrintMore
attribute [local go_sem] max2_int min2_int max_two min_two
set_option linter.unusedVariables false
set_option linter.unusedSimpArgs false
end Go.Proofs.YtcoippikicikoaaDoor.PQBack
namespace Go.Proofs.YtcoippikicikoaaDoor
open Go.RowKit Go.Proofs.YtcoippikicikoaaDoorW.PrintWords Go.Proofs.YtcoippikicikoaaDoorW.PrintMore Go.Proofs.YtcoippikicikoaaDoor.PQRef
theorem quoteB_le (s : ByteArray) (asc : Bool) : (quoteB s asc).length ≤ 10 * s.size + 2 := by
  have := qparts_length s asc s.size 0
  rw [quoteB_length]; omega
theorem cut_f (a0 : ByteArray) : ∃ t, platenlaw02_cut.f a0 = some t ∧ t.size ≤ 1000 := by
  unfold platenlaw02_cut.f
  by_cases h : (a0.size : Int) > 1000
  · rw [if_pos h, if_pos (by omega), if_pos (by omega)]
    exact ⟨_, rfl, by rw [ByteArray.size_extract]; omega⟩
  · rw [if_neg h]
    exact ⟨a0, rfl, by omega⟩
end Go.Proofs.YtcoippikicikoaaDoor
namespace Go.Proofs.YtcoippikicikoaaDoor
open Go.RowKit Go.Proofs.YtcoippikicikoaaDoorW.PrintWords
def okS (t : ByteArray) : Prop := t.size ≤ 100000 ∧ ∀ b ∈ t.data.toList, ascb b
theorem okS_at (t : ByteArray) (h : okS t) (i : Nat) (hi : i < t.size) : 32 ≤ (t[i]'hi).toNat ∧ (t[i]'hi).toNat ≤ 126 := by
  refine h.2 _ ?_
  have e : t[i]'hi = t.data[i]'hi := rfl
  rw [e]
  exact Array.getElem_mem_toList hi
theorem ix0 (A B : ByteArray) (w : World) : (Instr.index 38 (.agg #[.string A, .string B]) (.int .i64 0)).run Tryd.prog w = .ok (.string A) w := by
  simp [Instr.index, run_underlying Tryd.underlying38, go_sem]
theorem ix1 (A B : ByteArray) (w : World) : (Instr.index 38 (.agg #[.string A, .string B]) (.int .i64 1)).run Tryd.prog w = .ok (.string B) w := by
  simp [Instr.index, run_underlying Tryd.underlying38, go_sem]
set_option maxHeartbeats 4000000 in
theorem ascii_walk (s s' A B Q : ByteArray) (c : Int) (W : World) (hOK : Ok W) (hA : okS A) (hB : okS B) (hQ : Q.size ≤ 100000) (hG : Good Q.data.toList)
    (hcut : Gives 11 #[.string s] (.string s')) (hq1 : Gives 19 #[.string s', .bool true] (.string A)) (hch : Gives 22 #[.int .i32 c, .bool true] (.string B))
    (hq2 : Gives 19 #[.string s', .bool false] (.string Q)) (hlv : Gives 14 #[] (.bool true))
    (hpl : ∀ d : Nat, plainP d = true → Gives 25 #[.int .i32 (d : Int)] (.bool true)) :
    Calls Tryd.prog 10 #[.string s, .int .i32 c] W fun e w' => e = .returned (.bool true) ∧ Bel W w' := by
  have HG := Lib.hid hG
  have HOK := Lib.hid hOK
  have HAA := Lib.hid hA
  have HBB := Lib.hid hB
  clear hG hOK hA hB
  go_enter Tryd.func10, Tryd.ntmps10
  go_wp2_with (first | (go_at_call 11; (with_reducible refine (hcut.on W _ HOK.out (Bel.refl _)).mono ?_); rintro e w1 ⟨rfl, hb1⟩) | (go_at_call 19; (with_reducible refine (hq1.on W _ HOK.out hb1).mono ?_); rintro e w2 ⟨rfl, hb2⟩) | (go_at_call 22; (with_reducible refine (hch.on W _ HOK.out hb2).mono ?_); rintro e w3 ⟨rfl, hb3⟩))
  go_loop [18] (fun v18 => ∃ j : Nat, v18 = .int .i64 (j : Int) ∧ j ≤ 2) (fun v18 => 2 - (intOf v18).toNat)
  case atStart => exact ⟨0, rfl, by omega⟩
  case round =>
    obtain ⟨j, rfl, hj⟩ := hrel
    by_cases j2 : j = 2
    · subst j2
      go_wp2_with (go_at_call 19; (with_reducible refine (hq2.on W _ HOK.out hb3).mono ?_); rintro e w4 ⟨rfl, hb4⟩)
      go_loopw [8] (fun v8 wr => ∃ r : ByteArray, v8 = .string r ∧ Hid (Good r.data.toList) ∧ r.size ≤ 100000 ∧ Bel W wr) (fun v8 _ => strLen v8)
      case atStart => exact ⟨Q, rfl, HG, hQ, hb4⟩
      case round =>
        obtain ⟨r, rfl, hg, hr, hbw⟩ := hrel
        by_cases h0 : r.size = 0
        · have e0 : r.data.toList = [] := List.eq_nil_of_length_eq_zero (by rw [← Lib.size_eq]; exact h0)
          obtain rfl : r = ⟨#[]⟩ := bytes_ext (by rw [e0])
          clear e0 h0
          go_wp2_with (go_at_call 14; (with_reducible refine (hlv.on W _ HOK.out hbw).mono ?_); rintro e w5 ⟨rfl, hb5⟩)
          go_ret
          exact ⟨rfl, hb5⟩
        · have m1 : r.toList.isEmpty = false := by
            have : r.toList ≠ [] := fun e => h0 (by rw [Lib.size_eq, ← Lib.toList_data, e]; rfl)
            simpa using this
          obtain ⟨s1, s2, s3, s4, s5, s6, s7⟩ := good_step r hg.out (by omega)
          have hdec := (buf_Decode r).on W wr HOK.out hbw
          have hs7 := size_sub r (decB r).2 r.size s6 (Nat.le_refl _)
          obtain ⟨D, hD⟩ : ∃ D, D = decB r := ⟨_, rfl⟩
          rw [← hD] at s1 s2 s3 s4 s5 s6 s7 hdec hs7
          have HS7 := Lib.hid s7
          have hp := hpl D.1 s1
          have y1 : ((D.2 : Int) < 1) = False := eq_false (by omega)
          have y2 : ((D.2 : Int) > (r.size : Int)) = False := eq_false (by omega)
          have y3 : ((D.1 : Int) < 32) = False := eq_false (by omega)
          have y4 : (((D.1 : Nat) : Int) == 65533) = false := beq_eq_false_iff_ne.2 (by omega)
          have y5 : (((D.2 : Nat) : Int) ≤ (r.size : Int)) = True := eq_true (by omega)
          have y6 : (0 ≤ ((D.2 : Nat) : Int)) = True := eq_true (by omega)
          have y7 : decide ((D.2 : Int) < 1) = false := decide_eq_false (by omega)
          have y8 : decide ((D.2 : Int) > (r.size : Int)) = false := decide_eq_false (by omega)
          have y9 : decide ((D.1 : Int) < 32) = false := decide_eq_false (by omega)
          clear hD s1 s7 hg
          go_wp2_with (first | (go_at_call 24; (with_reducible refine hdec.mono ?_); rintro e w5 ⟨rfl, hb5⟩) | (go_at_call 25; (with_reducible refine (hp.on W _ HOK.out hb5).mono ?_); rintro e w6 ⟨rfl, hb6⟩))
          go_roundw
          case rel =>
            go_light
            exact ⟨r.extract D.2 r.size, rfl, HS7, by omega, hb6⟩
          case measure =>
            go_light
            simp only [strLen]
            omega
    · have hj2 : j = 0 ∨ j = 1 := by omega
      rcases hj2 with rfl | rfl
      · have hx := HAA.out
        have hsz := hx.1
        have HX := Lib.hid hx
        have hix := fun w : World => ix0 A B w
        clear hx
        go_wp2
        go_loop [7] (fun v7 => ∃ i : Nat, v7 = .int .i64 (i : Int) ∧ i ≤ A.size) (fun v7 => A.size - (intOf v7).toNat)
        case atStart => exact ⟨0, rfl, by omega⟩
        case round =>
          obtain ⟨i, rfl, hi⟩ := hrel
          by_cases hlt : i < A.size
          · have hb := okS_at A HX.out i hlt
            have y1 : ((i : Int) < (A.size : Int)) = True := eq_true (by omega)
            have y2 : (0 ≤ ((i : Nat) : Int)) = True := eq_true (by omega)
            have y3 : (((((A[i]'hlt).toNat : Nat) : Int)) < 32) = False := eq_false (by omega)
            have y4 : (((((A[i]'hlt).toNat : Nat) : Int)) > 126) = False := eq_false (by omega)
            have y5 : decide (((((A[i]'hlt).toNat : Nat) : Int)) < 32) = false := decide_eq_false (by omega)
            have y6 : decide (((((A[i]'hlt).toNat : Nat) : Int)) > 126) = false := decide_eq_false (by omega)
            clear hb
            go_wp2
            go_round
            case rel => exact ⟨i + 1, by go_num, by omega⟩
            case measure => simp [intOf]; omega
          · have y1 : ((i : Int) < (A.size : Int)) = False := eq_false (by omega)
            go_wp2
            go_round
            case rel => exact ⟨0 + 1, by go_num, by omega⟩
            case measure => simp [intOf]
      · have hx := HBB.out
        have hsz := hx.1
        have HX := Lib.hid hx
        have hix := fun w : World => ix1 A B w
        clear hx
        go_wp2
        go_loop [7] (fun v7 => ∃ i : Nat, v7 = .int .i64 (i : Int) ∧ i ≤ B.size) (fun v7 => B.size - (intOf v7).toNat)
        case atStart => exact ⟨0, rfl, by omega⟩
        case round =>
          obtain ⟨i, rfl, hi⟩ := hrel
          by_cases hlt : i < B.size
          · have hb := okS_at B HX.out i hlt
            have y1 : ((i : Int) < (B.size : Int)) = True := eq_true (by omega)
            have y2 : (0 ≤ ((i : Nat) : Int)) = True := eq_true (by omega)
            have y3 : (((((B[i]'hlt).toNat : Nat) : Int)) < 32) = False := eq_false (by omega)
            have y4 : (((((B[i]'hlt).toNat : Nat) : Int)) > 126) = False := eq_false (by omega)
            have y5 : decide (((((B[i]'hlt).toNat : Nat) : Int)) < 32) = false := decide_eq_false (by omega)
            have y6 : decide (((((B[i]'hlt).toNat : Nat) : Int)) > 126) = false := decide_eq_false (by omega)
            clear hb
            go_wp2
            go_round
            case rel => exact ⟨i + 1, by go_num, by omega⟩
            case measure => simp [intOf]; omega
          · have y1 : ((i : Int) < (B.size : Int)) = False := eq_false (by omega)
            go_wp2
            go_round
            case rel => exact ⟨1 + 1, by go_num, by omega⟩
            case measure => simp [intOf]
theorem lawQuoteAscii.lawC (s : ByteArray) (c : Int) (W : World) (hok : Ok W) (_h : s.size ≤ 140737488351232) (_hc : (Lit.int .i32 c).wf = true) :
    Calls Tryd.prog 10 #[.string s, .int .i32 c] W fun e w' => e = .returned (.bool true) ∧ Below W.heap.size W w' := by
  obtain ⟨s', hs, hz⟩ := cut_f s
  obtain ⟨d, hd, h⟩ : ∃ d : Nat, d ≤ 1114111 ∧ (if Utf8.valid c = true then c else 65533) = (d : Int) := by
    by_cases hv : Utf8.valid c = true
    · rw [if_pos hv]
      have := hv
      simp [Utf8.valid] at this
      exact ⟨c.toNat, by omega, by omega⟩
    · rw [if_neg hv]
      exact ⟨65533, by omega, rfl⟩
  have q1 := quoteB_le s' true
  have q2 := quoteB_le s' false
  have q3 := putL_length d 39 true
  have hpa : ∀ b ∈ putL d 39 true, ascb b := by
    rcases putL_is d 39 true (.inr rfl) with h | h
    · exact h
    · cases h.1
  have hch : ((T [39] ++ T (putL d 39 true)) ++ T [39]) = T ([39] ++ putL d 39 true ++ [39]) := by rw [T_append, T_append]
  refine ascii_walk s s' (T (quoteB s' true)) (T ([39] ++ putL d 39 true ++ [39])) (T (quoteB s' false)) c W hok ⟨by rw [T_size]; omega, quoteB_asc s'⟩ ⟨by rw [T_size]; simp; omega, asc_append _ _ (asc_append _ _ (asc_cons _ _ (by decide) asc_nil) hpa) (asc_cons _ _ (by decide) asc_nil)⟩ (by rw [T_size]; omega) (quoteB_good s') ?_ ?_ ?_ ?_ ?_ ?_
  · refine Gives.below fun w _ => (PQRef.platenlaw02_cut.calls s s' w hs).mono ?_
    rintro e w' ⟨he, hd⟩
    exact ⟨he, Drawn0.below hd⟩
  · exact Gives.below fun w hw => quote_Quote.calls s' true _ w hw (Quote_f s' true (by omega))
  · refine Gives.below fun w _ => quote_Char.calls c true _ w ?_
    rw [Char_f d c true hd (by rw [validRune_valid]; exact h), hch]
  · exact Gives.below fun w hw => quote_Quote.calls s' false _ w hw (Quote_f s' false (by omega))
  · exact Gives.below fun w hw => PQGen.platenlaw02_lives.calls 200 true w ⟨hw⟩ (lives_f 100)
  · intro d hd
    refine Gives.below fun w _ => (PQRef.quote_Plain.calls 10 (d : Int) true w (by rw [plain_f 8 d, hd])).mono ?_
    rintro e w' ⟨he, hd⟩
    exact ⟨he, Drawn0.below hd⟩
end Go.Proofs.YtcoippikicikoaaDoor
namespace Go.Proofs.YtcoippikicikoaaDoor
open Go.ChangeShapes Go.WideShapes Go.ChangeAt Go.RowKit Go.Lib
theorem handed_shaped {H : Type} {enc : TypeId × Value → H} {a : Assume} {C : Checked} {os : Os} {f : FuncId} {fn : Func} {s : ChangeSpec} {conds : List PathCond} {apart fresh handsOn again : Bool} {X : World → Array Value → Prop}
    (hX : ∀ (w w' : World) (args : Array Value), w.heap = w'.heap → X w args → X w' args)
    (own : ownKnob C.prog.godebug = none) (started : os.Started) (noInit : C.prog.inits.idxOf? f = none) (hfn : C.prog.funcs[f]? = some fn)
    (witness : ∃ (w : World) (tape : Tape) (i : Input), w.os = os ∧ (w.forCall tape i).Shaped C.prog ∧ i.vars = [] ∧ Input.okWide C.prog (w.forCall tape i) .any w.heap.size f i ∧
      ((s.pre enc C.prog fn conds apart (w.forCall tape i).memory i.args ∧ X (w.forCall tape i).memory i.args) ∧ sizedMet enc C.prog fn (OpenSpec.ofChange s) apart (w.forCall tape i).memory i.args) ∧ a.holds C.prog (lone (Frame.enter C.prog f i.args .normal) [] (w.forCall tape i)))
    (contract : ∀ (W : World) (base : Nat) (args : Array Value) (ds gs : List (DataW H)) (before : List MemPlace),
      (∀ (j : Nat) t v, fn.params[j]? = some t → args[j]? = some v → Value.okWide C.prog W .any base t v) →
      DataW.Whole enc C.prog fn.params.toList s.vars apart W args.toList ds gs before →
      conds.all (PathCond.test C.prog ⟨fn.params.toList, ds, s.plain.varTypes C.prog, gs⟩) = true →
      (DataW.weightsEach C.prog (fn.params.toList ++ s.plain.varTypes C.prog) (ds ++ gs)).all (· ≤ reachBytes) = true → X W args → W.ShapedOpen C.prog →
      a.holds C.prog (lone (Frame.enter C.prog f args .normal) [] W) →
      Calls C.prog f args W fun e W' => ∃ v, e = .returned v ∧ s.post enc C.prog fn apart fresh handsOn again W args v W') :
    ReturnsInHanded a C os f .any (fun w args => (s.pre enc C.prog fn conds apart w args ∧ X w args) ∧ sizedMet enc C.prog fn (OpenSpec.ofChange s) apart w args) (s.post enc C.prog fn apart fresh handsOn again) := by
  refine returnsInHanded_of_calls own started noInit witness ?_
  intro w tape i _ hsh _ hok hpre hholds
  obtain ⟨_, _, _, fn', hfn', _, _, _, _, hval⟩ := hok
  have e : fn' = fn := Option.some.inj (hfn'.symm.trans hfn)
  subst e
  obtain ⟨⟨⟨ds, gs, before, hw, hc⟩, hx⟩, hz⟩ := hpre
  have hw' := DataW.Whole.of_heap (w' := w.forCall tape i) (by rfl) hw
  refine (contract (w.forCall tape i) w.heap.size i.args ds gs before hval hw' hc (hz.weights hw) (hX _ _ _ (by rfl) hx) hsh hholds).mono fun e W' ⟨v, he, hp⟩ => ?_
  subst he
  exact ChangeSpec.post_blind hp
theorem own : ownKnob Tryd.prog.godebug = none := by kernel_rfl
def tables : List (String × DataW Unit) := [("unicode/utf8.acceptRanges", Rows.laid_unicode_utf8_acceptRanges), ("unicode/utf8.first", Rows.laid_unicode_utf8_first)]
theorem accept_eq : (Rows.laid_unicode_utf8_acceptRanges : DataW Unit) = Lib.acceptData := by kernel_rfl
theorem first_eq : Rows.laid_unicode_utf8_first = Lib.firstData := Pinned.utf8First_eq
theorem extra : U8Extra Tryd.prog Tryd.lays260_ren := ⟨by kernel_rfl, by kernel_rfl, by kernel_rfl, by kernel_rfl, by kernel_rfl, by kernel_rfl, by kernel_rfl⟩
theorem ok_of {W : World} (hL : laidMet Tryd.prog tables W) (hS : W.ShapedOpen Tryd.prog) : Ok W := by
  refine ⟨?_, Go.Proofs.cell_of_shapedOpen_int (zero := #[.int .i64 0]) (t := 3) hS (of_decide_eq_true (by kernel_rfl)) (by kernel_rfl) rfl (by kernel_rfl) (by kernel_rfl) Tryd.underlying3⟩
  have h3 : VarReads Tryd.prog W "unicode/utf8.first" Lib.firstData := first_eq ▸ Lib.laidMet.reads hL (.tail _ (.head _))
  have h4 : VarReads Tryd.prog W "unicode/utf8.acceptRanges" Lib.acceptData := accept_eq ▸ Lib.laidMet.reads hL (.head _)
  exact utf8Tabs_of_reads Tryd.lays260 extra h3 h4
end Go.Proofs.YtcoippikicikoaaDoor
namespace Go.Proofs.YtcoippikicikoaaDoor.lawQuoteAscii
open Go.ChangeShapes Go.WideShapes Go.ChangeAt Go.RowKit Go.Lib
open Go.ChangeMaps (open_string shut_string)
set_option maxRecDepth 100000 in
theorem lifted (os : Os) (started : os.Started) (H : Type) (enc : TypeId × Value → H) :
    ReturnsInHanded {} Tryd.checked os 10 .any (fun w args => (Rows.quoteAsciiSpec.pre enc Tryd.prog Tryd.f10 [] false w args ∧ laidMetH Tryd.prog tables w) ∧ sizedMet enc Tryd.prog Tryd.f10 (OpenSpec.ofChange Rows.quoteAsciiSpec) false w args)
      (Rows.quoteAsciiSpec.post enc Tryd.prog Tryd.f10 false true false false) := by
  refine handed_shaped (C := Tryd.checked) (X := fun w _ => laidMetH Tryd.prog tables w) (fun _ _ _ hh h => h.of_heap hh) own started (by kernel_rfl) Tryd.func10
    (ChangeSpec.witness_shaped (enc := enc) (C := Tryd.checked) (os := os) (X := fun w _ => laidMetH Tryd.prog tables w) false (World.laidAll Tryd.prog os tables) #[.string ⟨#[]⟩, .int .i32 0] 8 (World.laidAll_os _ _ _)
      (World.shaped_of_ZipB (by kernel_rfl) (by kernel_rfl)) (by kernel_rfl) (by kernel_rfl) (by kernel_rfl)
      (by rw [MakeChecks.laidMetH_plain _ _ _ (by kernel_rfl)]; exact laidMet_laidAll _ (by kernel_rfl) (by kernel_rfl))) ?_
  intro W base args ds gs before hval0 hW _ hsz0 hL hS _
  have hval : ∀ (j : Nat) t v, Tryd.f10.params[j]? = some t → args[j]? = some v → Value.okWide Tryd.prog W .any base t v := hval0
  have hsz : (DataW.weightsEach Tryd.prog (Tryd.f10.params.toList ++ Rows.quoteAsciiSpec.plain.varTypes Tryd.prog) (ds ++ gs)).all (· ≤ reachBytes) = true := hsz0
  have hW' := hW
  obtain ⟨p, q, hA0, hV, rfl, _, _⟩ := hW
  have hA : DataW.TrodAll enc Tryd.prog W 0 (fun _ => true) true Tryd.f10.params.toList args.toList ds p := hA0
  rw [Tryd.params10] at hA hval
  obtain ⟨v0, vs0, d0, ds0, p0, q0, hargs, rfl, rfl, h0, r0⟩ := trodAll_cons hA
  obtain ⟨v1, vs1, d1, ds1, p1, q1, rfl, rfl, rfl, h1, r1⟩ := trodAll_cons r0
  obtain ⟨rfl, rfl, rfl⟩ := trodAll_nil r1
  obtain rfl : args = #[v0, v1] := by cases args; simp_all
  obtain ⟨rfl, rfl⟩ := trodVars_none hV
  rw [MakeChecks.laidMetH_plain _ _ _ (by kernel_rfl)] at hL
  have hok := ok_of hL hS
  obtain ⟨a0, rfl, rfl, rfl, y0⟩ := open_string Tryd.underlying9 (hval 0 9 v0 rfl rfl) h0
  have w0 : a0.size ≤ 140737488351232 := by
    have z := sized_string hsz (j := 0) (t := 9) rfl rfl
    rw [Array.length_toList] at z
    exact z
  obtain ⟨a1, rfl, rfl, rfl, w1⟩ := open_int Tryd.underlying21 (hval 1 21 v1 rfl rfl) h1
  refine (lawQuoteAscii.lawC a0 a1 W hok w0 w1).mono fun e W' ⟨he, hb⟩ => ?_
  subst he
  exact ⟨_, rfl, _, _, _, [], _, [], hW', trodAll_mk1 (shut_bool Tryd.underlying4 _), (trodAll_cons_mk (shut_string Tryd.underlying9 y0) (trodAll_cons_mk (shut_int Tryd.underlying21 w1) trodAll_mk0)), rfl, hb.frame _, fun h => by cases h⟩
theorem said : Rows.QuoteAsciiSaid :=
  OpenClaim.holds_of_wide 10 Tryd.f10 rfl rfl rfl rfl rfl rfl rfl ⟨rfl, rfl, rfl, rfl, rfl⟩ rfl rfl rfl rfl rfl (by kernel_rfl) Tryd.func10 (by kernel_rfl)
    (of_decide_eq_true (by kernel_rfl)) (by unfold Func.isWrapper; first | (rw [if_pos (by decide +kernel)]; kernel_rfl) | (rw [if_neg (by decide +kernel)]; exact ⟨rfl, rfl⟩))
    (fun os started H enc _ => lifted os started H enc)
theorem plain (f : FuncId) (fn : Func) (hf : Tryd.pinned.checked.prog.funcNamed Rows.quoteAsciiRow.func = some f) (hfn : Tryd.pinned.checked.prog.funcs[f]? = some fn) :
    false = Tryd.pinned.checked.prog.looks [] ∧ ∀ (j : Nat) t, fn.params[j]? = some t → Tryd.pinned.checked.prog.wantsStandIn t = false := by
  obtain rfl : f = 10 := Option.some.inj ((show Tryd.prog.funcNamed Rows.quoteAsciiRow.func = some 10 by kernel_rfl).symm.trans hf) |>.symm
  obtain rfl : fn = Tryd.f10 := (Option.some.inj (Tryd.func10.symm.trans hfn)).symm
  refine ⟨by kernel_rfl, fun j t ht => ?_⟩
  rw [Tryd.params10] at ht
  have hm : t ∈ [9, 21] := by simpa using Array.mem_of_getElem? ht
  have hall : ([9, 21].all fun u => !Tryd.prog.wantsStandIn u) = true := by kernel_rfl
  exact (show Tryd.prog.wantsStandIn t = false by simpa using List.all_eq_true.1 hall t hm)
theorem card : Rows.QuoteAsciiCardSaid :=
  Claim7.holds_tied_plain_at .later [] _ _ _ _ said (fun _ h => by cases h) (by kernel_rfl) (fun _ h => by cases h) quoteAscii_row_tie rfl ⟨rfl, rfl⟩ (by kernel_rfl) rfl plain (by kernel_rfl)
end Go.Proofs.YtcoippikicikoaaDoor.lawQuoteAscii
#print axioms Go.Proofs.YtcoippikicikoaaDoor.lawQuoteAscii.card
