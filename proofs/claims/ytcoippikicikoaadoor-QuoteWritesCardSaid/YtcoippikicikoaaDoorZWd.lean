/- Part of the proof of lawQuoteWrites.card: texts merged by this session's bundle.py. -/
import Derived.Test.YtcoippikicikoaaDoorProg
import Derived.Below
import Derived.Deep.Draws
import Derived.Deep.AppendLies
import Derived.Maps.AppendAt
import Derived.OwnWalk
import Derived.Laws.BytesArg
import Derived.Laws.MakeOwn
import Derived.Laws.OwnMore
import Derived.Deep.OwnRows
import Derived.Tactics
import Derived.Lib.ConvBytes
import Derived.Laws.Slices
import Derived.WalkKit
import Derived.KernelRfl
import Derived.RowKit3
import Derived.Deep.LoopGhost
import Derived.Deep.QuietTactic
import Derived.BigQuiet
import Derived.WideLaws
import Derived.Deep.DeepCutAuto
import Derived.Deep.CutBlock
import Derived.Deep.RegionHeld3
import Derived.Laws.Rows
import Derived.Lib.AppendStr
import Derived.ArgAppend
import Derived.Laws.IdiomCopy
import Derived.OrdersHeld
import Derived.Laws.BitsLemmas
import Derived.RowKit
import Derived.Lib.OthersKept
import Derived.Lib.DecodeN
import Derived.Lib.RuneCountTail
import Derived.Carry
import Derived.MapKept
import Derived.Shelf.Unicode.ValidAny
import Derived.Test.YtcoippikicikoaaDoorZWc
namespace Go.Proofs.YtcoippikicikoaaDoor.PQPut
open Go.RowKit Go.Proofs.YtcoippikicikoaaDoorW.PrintWords Go.Proofs.YtcoippikicikoaaDoorW.PrintLast Go.Proofs.YtcoippikicikoaaDoorW.PrintMore
attribute [local go_sem] max2_int min2_int max_two min_two
set_option linter.unusedVariables false
set_option linter.unusedSimpArgs false
def errW : Option Int → Value
 | none => .nilIface
 | some c => .iface 0 (.int .i64 c)
theorem errW_none : errW none = .nilIface := rfl
theorem errW_some (c : Int) : errW (some c) = .iface 0 (.int .i64 c) := rfl
theorem info5 : (Tryd.prog.info? 5).map (fun i => (i.zero, i.size, i.bytes)) = some (some (.int .u8 0), 1, 1) := by kernel_rfl
end Go.Proofs.YtcoippikicikoaaDoor.PQPut
namespace Go.Proofs.YtcoippikicikoaaDoor.PQPut
open Go.RowKit Go.Proofs.YtcoippikicikoaaDoorW.PrintWords Go.Proofs.YtcoippikicikoaaDoorW.PrintLast Go.Proofs.YtcoippikicikoaaDoorW.PrintMore
attribute [local go_sem] max2_int min2_int max_two min_two
set_option linter.unusedVariables false
set_option linter.unusedSimpArgs false
def quote_escape.l0 : Nat → List Int → Int → Int → Option (List Int)
 | 0, _, _, _ => none
 | k + 1, x0, x2, x9 => if x9 ≥ 0 then (if 0 ≤ (wrap64 (4 * x9)) then (if 0 ≤ (Go.bits .and .i32 (shr .i32 x2 (wrap64 (4 * x9))) 15) then (if (Go.bits .and .i32 (shr .i32 x2 (wrap64 (4 * x9))) 15) < 16 then (if x0.length < 140737488355328 then (quote_escape.l0 k (x0 ++ [bt (⟨#[48, 49, 50, 51, 52, 53, 54, 55, 56, 57, 97, 98, 99, 100, 101, 102]⟩ : ByteArray) (Go.bits .and .i32 (shr .i32 x2 (wrap64 (4 * x9))) 15)]) x2 (wrap64 (x9 - 1))) else (none)) else (none)) else (none)) else (none)) else (some x0)
def quote_escape.f (k : Nat) (l0 : List Int) (a1 : Int) (a2 : Int) (a3 : Int) : Option (List Int) := (some (([92, a1] : List Int) : List Int)).bind fun y101 => (if l0.length + y101.length < 140737488355328 then (quote_escape.l0 k (l0 ++ y101) a2 (wrap64 (a3 - 1))) else (none))
set_option maxHeartbeats 8000000 in
set_option maxRecDepth 100000 in
theorem quote_escape.calls (k : Nat) (P0_ : Nat → Prop) (u9000_ : Value) (l0 : List Int) (a1 : Int) (a2 : Int) (a3 : Int) (r : List Int) (w0 w : World) (hB : Below w0.heap.size w0 w) (ho0 : Kd.R (Kd.int .u8) 5 w w0.heap.size P0_ u9000_ l0) (h : quote_escape.f k l0 a1 a2 a3 = some r) :
 Calls Tryd.prog 40 #[u9000_, .int .u8 a1, .int .i32 a2, .int .i64 a3] w fun e w' => ∃ v0_ : Value, e = .returned (v0_) ∧ Kd.R (Kd.int .u8) 5 w' w0.heap.size (fun k_ => (P0_ k_ ∨ w.heap.size ≤ k_)) v0_ r ∧ Below w0.heap.size w0 w' ∧ Kept w w' (fun k_ => P0_ k_) := by
 have HO0 := Aside0.mk (show Kd.R (Kd.int .u8) 5 w w0.heap.size (fun k_ => (P0_ k_ ∨ w.heap.size ≤ k_)) u9000_ l0 from Kd.R_mono ho0 (fun k_ hk => (.inl hk)))
 have HK := Aside0.mk (Kept.refl w (fun k_ => P0_ k_))
 have HW0 := Aside0.mk hB.size
 have HB := Aside0.mk hB
 clear hB
 have H : ((some (([92, a1] : List Int) : List Int)).bind fun y101 => (if l0.length + y101.length < 140737488355328 then (quote_escape.l0 k (l0 ++ y101) a2 (wrap64 (a3 - 1))) else (none))) = some r := h
 clear h
 obtain ⟨y101, hy101⟩ : ∃ y_ : List Int, y_ = (([92, a1] : List Int)) := ⟨_, rfl⟩
 replace H : (if l0.length + y101.length < 140737488355328 then (quote_escape.l0 k (l0 ++ y101) a2 (wrap64 (a3 - 1))) else (none)) = some r := by first | (rw [hy101]; with_reducible exact H) | (have H2_ := (Option.bind_some _ _).symm.trans H; rw [hy101]; with_reducible exact H2_) | (have H2_ := (Option.bind_some _ _).symm.trans H; with_reducible exact H2_) | with_reducible exact H | (rw [hy101]; exact H) | exact H
 have Ny101 := Aside0.mk hy101
 clear hy101
 by_cases c5 : l0.length + y101.length < 140737488355328
 ·
  rw [if_pos c5] at H
  have LMc5 := Aside0.mk c5
  clear c5
  obtain ⟨y104, hy104⟩ : ∃ y_ : List Int, y_ = (l0 ++ y101) := ⟨_, rfl⟩
  replace H : (quote_escape.l0 k y104 a2 (wrap64 (a3 - 1))) = some r := by first | (rw [hy104]; with_reducible exact H) | (have H2_ := (Option.bind_some _ _).symm.trans H; rw [hy104]; with_reducible exact H2_) | (have H2_ := (Option.bind_some _ _).symm.trans H; with_reducible exact H2_) | with_reducible exact H | (rw [hy104]; exact H) | exact H
  have Ny104 := Aside0.mk hy104
  clear hy104
  have H' := Aside0.mk H
  clear H
  go_enter Tryd.func40, Tryd.ntmps40
  go_wp2_with (first | ((with_reducible refine gate_dst (N := 12) rfl ?_); refine Kd.R_lit (Kd.int .u8) _ 5 ?hg (N := 12) ?hd (xs := ([92, a1] : List Int)) (inner := [.int .u8 92, .int .u8 a1]) (ok := fun _ => True) (okp := fun _ => True) ?hr ?hp (fun _ hk => hk) trivial (Below.refl _ _) (Nat.le_refl _) (by simp) ?_; (case hd => rfl); (case hg => rfl); (case hr => first | (go_simp; done) | (go_simp; rfl)); (case hp => exact (Reps.one (show Kd.M (Kd.int .u8) _ _ _ 92 [.int .u8 92] from rfl) (Reps.one (show Kd.M (Kd.int .u8) _ _ _ a1 [.int .u8 a1] from rfl) (Reps.none _ _)))); intro v102 w6 ho7 hb hg_ hnew_; clear hg_ hnew_; (first | rw [← Ny101.out] at ho7 | (simp only [Int.reduceToNat] at ho7; rw [← Ny101.out] at ho7)); have n0_ := Aside0.mk (Kd.R_elder' (by (with_reducible repeat (first | apply Kd.R_alloc | apply Kd.R_drewN | apply Kd.R_drew)); exact HO0.out) (Kd.R_base ho7) hb); have n1_ := Aside0.mk (Kd.R_lower (Kd.R_new' (Kd.R_newM (M := fun k_ => (P0_ k_ ∨ w.heap.size ≤ k_)) ho7 (by first | exact HK.out.1 | exact (show Kept w _ (fun k_ => P0_ k_) from by repeat (first | (with_reducible first | exact HK.out | apply Kept.alloc | apply Kept.drewN | apply Kept.drew) | exact HK.out)).1) (fun k_ h_ => .inr h_)) (Kd.R_lt (by (with_reducible repeat (first | apply Kd.R_alloc | apply Kd.R_drewN | apply Kd.R_drew)); exact HO0.out))) (below_size (by repeat (first | (with_reducible first | exact HB.out | apply below_alloc | apply pw_below_drewN | apply below_drew1) | exact HB.out)))); have n2_ := Aside0.mk (Kept.below (S := (fun k_ => P0_ k_)) (by repeat (first | (with_reducible first | exact HK.out | apply Kept.alloc | apply Kept.drewN | apply Kept.drew) | exact HK.out)) hb); have n3_ := Aside0.mk (below_step (by repeat (first | (with_reducible first | exact HB.out | apply below_alloc | apply pw_below_drewN | apply below_drew1) | exact HB.out)) hb); clear HO0; clear HK; clear HB; have HO0 := n0_; have HO103 := n1_; have HK := n2_; have HB := n3_; clear n0_ n1_ n2_ n3_; clear hb ho7; obtain ⟨Ao9, co9, eo9⟩ := Kd.R_slice HO103.out; subst eo9) | ((with_reducible refine gate_builtin (b := .append) (xs := #[.tmp 10, .tmp 12]) rfl ?_); at_builtin; refine Kd.R_append_rows (Kd.int .u8) (w0 := w0) w0.heap.size rfl (.tmp 10) (.tmp 12) 44 5 (.int .u8 0) 1 rfl Tryd.underlying44 info5 rfl (by decide) (by omega) u9000_ l0 y101 _ _ _ (fun k_ => (P0_ k_ ∨ w.heap.size ≤ k_) ∧ some k_ ≠ (.slice Ao9 y101.length co9 : Value).ownBlock) (fun _ => False) rfl rfl ?aO ?aR (fun _ _ h => h) (fun _ h => h.elim) ?aF ?aB ?aS ?aL ?_; (case aR => repeat (first | exact (Kd.R_reads' HO103.out).2.2 | (with_reducible refine Kd.C_alloc ?_ _) | (with_reducible refine Kd.C_drewN ?_ _) | (with_reducible refine Kd.C_drew ?_))); (case aB => exact (by repeat (first | (with_reducible first | exact HB.out | apply below_alloc | apply pw_below_drewN | apply below_drew1) | exact HB.out))); (case aF => exact (fun k_ hk => ⟨(.inr (Nat.le_trans (by first | exact HK.out.1 | exact (show Kept w _ (fun k_ => P0_ k_) from by repeat (first | (with_reducible first | exact HK.out | apply Kept.alloc | apply Kept.drewN | apply Kept.drew) | exact HK.out)).1) hk)), Kd.fresh' (Kd.R_lt (by (with_reducible repeat (first | apply Kd.R_alloc | apply Kd.R_drewN | apply Kd.R_drew)); exact HO103.out)) k_ hk⟩)); (case aO => exact (by (with_reducible repeat (first | apply Kd.R_alloc | apply Kd.R_drewN | apply Kd.R_drew)); exact HO0.out)); (case aS => exact (below_size (by repeat (first | (with_reducible first | exact HB.out | apply below_alloc | apply pw_below_drewN | apply below_drew1) | exact HB.out)))); (case aL => have := LMc5.out; omega); intro v105 w8 ho hb hg hat; rw [← Ny104.out] at ho; have n0_ := Aside0.mk (Kd.R_after (ok := (fun k_ => (P0_ k_ ∨ w.heap.size ≤ k_))) (by (with_reducible repeat (first | apply Kd.R_alloc | apply Kd.R_drewN | apply Kd.R_drew)); exact Kd.R_mono HO103.out (fun _ hk => ⟨hk.1.1, hk.2⟩)) hg hat); have n1_ := Aside0.mk (hb); have n2_ := Aside0.mk (Kept.of_grown (S := (fun k_ => P0_ k_)) hg (by repeat (first | (with_reducible first | exact HK.out | apply Kept.alloc | apply Kept.drewN | apply Kept.drew) | exact HK.out)) (fun k_ e_ => (HO0.out.1 k_ e_).1)); have n3_ := Aside0.mk (ho); clear HO103; clear HB; clear HK; clear HO0; have HO103 := n0_; have HB := n1_; have HK := n2_; have HO106 := n3_; clear n0_ n1_ n2_ n3_; clear ho hb hg hat))
  go_loopg [0, 9] k (fun kq v0 v9 w' => ∃ (x0_1 : List Int) (x9_1 : Int), v9 = .int .i64 x9_1 ∧ Aside0 (quote_escape.l0 kq x0_1 a2 x9_1 = some r) ∧ Aside0 (kq ≤ k) ∧ Aside0 (Kd.R (Kd.int .u8) 5 w' w0.heap.size (fun k_ => (P0_ k_ ∨ w.heap.size ≤ k_)) v0 x0_1) ∧ Aside0 (Kept w w' (fun k_ => P0_ k_)) ∧ Aside0 (Below w0.heap.size w0 w'))
  case atStart => exact ⟨(y104), (wrap64 (a3 - 1)), (by first | rfl | (simp; done) | (simp [*]; done)), H', ⟨Nat.le_refl _⟩, ⟨by (with_reducible repeat (first | apply Kd.R_alloc | apply Kd.R_drewN | apply Kd.R_drew)); exact Kd.R_mono HO106.out (fun _ hk => hk.1)⟩, ⟨by repeat (first | (with_reducible first | exact HK.out | apply Kept.alloc | apply Kept.drewN | apply Kept.drew) | exact HK.out)⟩, ⟨by repeat (first | (with_reducible first | exact HB.out | apply below_alloc | apply pw_below_drewN | apply below_drew1) | exact HB.out)⟩⟩
  case round =>
   clear H'
   try clear p2
   try clear c4
   try clear c5
   try clear p6
   obtain ⟨x0_1, x9_1, rfl, HA, HK1, HO_0, HK, HB⟩ := hrel
   cases gk with
   | zero => exact absurd HA.out (by simp [quote_escape.l0])
   | succ k1 =>
    have H := HA.out
    clear HA
    simp only [quote_escape.l0] at H
    by_cases c10 : x9_1 ≥ 0
    ·
     rw [if_pos c10] at H
     have c10b0 : decide (0 ≤ x9_1) = true := decide_eq_true c10
     clear c10
     obtain ⟨ji11, hji11⟩ : ∃ j_ : Int, (wrap64 (4 * x9_1)) = j_ := ⟨_, rfl⟩
     replace H : (if 0 ≤ (ji11) then (if 0 ≤ (Go.bits .and .i32 (shr .i32 a2 (ji11)) 15) then (if (Go.bits .and .i32 (shr .i32 a2 (ji11)) 15) < 16 then (if x0_1.length < 140737488355328 then (quote_escape.l0 k1 (x0_1 ++ [bt (⟨#[48, 49, 50, 51, 52, 53, 54, 55, 56, 57, 97, 98, 99, 100, 101, 102]⟩ : ByteArray) (Go.bits .and .i32 (shr .i32 a2 (ji11)) 15)]) a2 (wrap64 (x9_1 - 1))) else (none)) else (none)) else (none)) else (none)) = some r := by first | (rw [hji11] at H; exact H) | (simp only [hji11] at H ⊢; exact H)
     have hji11w : (IntKind.i64.wrap (4 * x9_1)) = ji11 := (i64_w _).trans hji11
     by_cases c12 : 0 ≤ (ji11)
     ·
      rw [if_pos c12] at H
      have c12b0 := eq_true c12
      have c12b1 : decide (0 ≤ (ji11)) = true := decide_eq_true c12
      clear c12
      obtain ⟨ji13, hji13⟩ : ∃ j_ : Int, (shr .i32 a2 (ji11)) = j_ := ⟨_, rfl⟩
      replace H : (if 0 ≤ (Go.bits .and .i32 (ji13) 15) then (if (Go.bits .and .i32 (ji13) 15) < 16 then (if x0_1.length < 140737488355328 then (quote_escape.l0 k1 (x0_1 ++ [bt (⟨#[48, 49, 50, 51, 52, 53, 54, 55, 56, 57, 97, 98, 99, 100, 101, 102]⟩ : ByteArray) (Go.bits .and .i32 (ji13) 15)]) a2 (wrap64 (x9_1 - 1))) else (none)) else (none)) else (none)) = some r := by first | (rw [hji13] at H; exact H) | (simp only [hji13] at H ⊢; exact H)
      have hji13_ : (a2 / 2 ^ min (ji11).toNat 32) = ji13 := hji13
      have hji13z : (ji11) ≤ 32 → (a2 / 2 ^ (ji11).toNat) = ji13 := shr_small hji13
      by_cases c14 : 0 ≤ (Go.bits .and .i32 (ji13) 15)
      ·
       rw [if_pos c14] at H
       have c14b0 : decide (0 ≤ (Go.bits .and .i32 (ji13) 15)) = true := decide_eq_true c14
       clear c14
       by_cases c15 : (Go.bits .and .i32 (ji13) 15) < 16
       ·
        rw [if_pos c15] at H
        have c15b0 : decide ((Go.bits .and .i32 (ji13) 15) < 16) = true := decide_eq_true c15
        clear c15
        by_cases c17 : x0_1.length < 140737488355328
        ·
         rw [if_pos c17] at H
         have LMc17 := Aside0.mk c17
         clear c17
         obtain ⟨y107, hy107⟩ : ∃ y_ : List Int, y_ = (x0_1 ++ [bt (⟨#[48, 49, 50, 51, 52, 53, 54, 55, 56, 57, 97, 98, 99, 100, 101, 102]⟩ : ByteArray) (Go.bits .and .i32 (ji13) 15)]) := ⟨_, rfl⟩
         replace H : (quote_escape.l0 k1 y107 a2 (wrap64 (x9_1 - 1))) = some r := by first | (rw [hy107]; with_reducible exact H) | (have H2_ := (Option.bind_some _ _).symm.trans H; rw [hy107]; with_reducible exact H2_) | (have H2_ := (Option.bind_some _ _).symm.trans H; with_reducible exact H2_) | with_reducible exact H | (rw [hy107]; exact H) | exact H
         have Ny107 := Aside0.mk hy107
         clear hy107
         have H' := Aside0.mk H
         clear H
         have p16 : 0 ≤ ((Go.bits .and .i32 (ji13) 15) : Int) := of_decide_eq_true (by first | (with_reducible assumption) | assumption)
         have q16 : (Go.bits .and .i32 (ji13) 15) < (16 : Int) := of_decide_eq_true (by first | (with_reducible assumption) | assumption)
         have hx16 := bt_at (⟨#[48, 49, 50, 51, 52, 53, 54, 55, 56, 57, 97, 98, 99, 100, 101, 102]⟩ : ByteArray) (Go.bits .and .i32 (ji13) 15)
         replace p16 := eq_true p16
         replace q16 := eq_true q16
         go_wp2_with (first | ((with_reducible refine gate_builtin (b := .append) (xs := #[.tmp 20, .tmp 27]) rfl ?_); at_builtin; refine Kd.R_append (Kd.int .u8) (w0 := w0) w0.heap.size rfl (.tmp 20) (.tmp 27) 44 5 (.int .u8 0) 1 rfl Tryd.underlying44 info5 rfl (by decide) (by omega) u0 x0_1 (bt (⟨#[48, 49, 50, 51, 52, 53, 54, 55, 56, 57, 97, 98, 99, 100, 101, 102]⟩ : ByteArray) (Go.bits .and .i32 (ji13) 15)) [.int .u8 (bt (⟨#[48, 49, 50, 51, 52, 53, 54, 55, 56, 57, 97, 98, 99, 100, 101, 102]⟩ : ByteArray) (Go.bits .and .i32 (ji13) 15))] (fun k_ => (P0_ k_ ∨ w.heap.size ≤ k_)) (fun _ => False) rfl rfl ?aP (fun _ hk => hk.elim) ?aF ?aO ?aB ?aS ?aL ?_; (case aP => exact rfl); (case aB => exact (by repeat (first | (with_reducible first | exact HB.out | apply below_alloc | apply pw_below_drewN | apply below_drew1) | exact HB.out))); (case aF => exact (fun k_ hk => (.inr (Nat.le_trans (by first | exact HK.out.1 | exact (show Kept w _ (fun k_ => P0_ k_) from by repeat (first | (with_reducible first | exact HK.out | apply Kept.alloc | apply Kept.drewN | apply Kept.drew) | exact HK.out)).1) hk)))); (case aO => exact (by (with_reducible repeat (first | apply Kd.R_alloc | apply Kd.R_drewN | apply Kd.R_drew)); exact HO_0.out)); (case aS => exact (below_size (by repeat (first | (with_reducible first | exact HB.out | apply below_alloc | apply pw_below_drewN | apply below_drew1) | exact HB.out)))); (case aL => have := LMc17.out; omega); intro v108 w18 ho hb hg hat; rw [← Ny107.out] at ho; have n0_ := Aside0.mk (hb); have n1_ := Aside0.mk (Kept.of_grown (S := (fun k_ => P0_ k_)) hg (by repeat (first | (with_reducible first | exact HK.out | apply Kept.alloc | apply Kept.drewN | apply Kept.drew) | exact HK.out)) (fun k_ e_ => (HO_0.out.1 k_ e_))); have n2_ := Aside0.mk (ho); clear HB; clear HK; clear HO_0; have HB := n0_; have HK := n1_; have HO109 := n2_; clear n0_ n1_ n2_; clear ho hb hg hat))
         go_roundg k1
         case measure => have := HK1.out; omega
         case rel => exact ⟨(y107), (wrap64 (x9_1 - 1)), (by first | rfl | (simp; done) | (simp [*]; done)), H', ⟨by have := HK1.out; omega⟩, ⟨by (with_reducible repeat (first | apply Kd.R_alloc | apply Kd.R_drewN | apply Kd.R_drew)); exact HO109.out⟩, ⟨by repeat (first | (with_reducible first | exact HK.out | apply Kept.alloc | apply Kept.drewN | apply Kept.drew) | exact HK.out)⟩, ⟨by repeat (first | (with_reducible first | exact HB.out | apply below_alloc | apply pw_below_drewN | apply below_drew1) | exact HB.out)⟩⟩
        ·
         rw [if_neg c17] at H
         exact absurd H (by simp)
       ·
        rw [if_neg c15] at H
        exact absurd H (by simp)
      ·
       rw [if_neg c14] at H
       exact absurd H (by simp)
     ·
      rw [if_neg c12] at H
      exact absurd H (by simp)
    ·
     rw [if_neg c10] at H
     have c10b0 : decide (0 ≤ x9_1) = false := decide_eq_false c10
     clear c10
     obtain rfl := Option.some.inj H
     go_wp2
     go_ret
     exact ⟨_, by first | rfl | (simp [errW_none, errW_some] <;> rfl) | (simp [*, errW_none, errW_some] <;> rfl), by (with_reducible repeat (first | apply Kd.R_alloc | apply Kd.R_drewN | apply Kd.R_drew)); exact HO_0.out, by repeat (first | (with_reducible first | exact HB.out | apply below_alloc | apply pw_below_drewN | apply below_drew1) | exact HB.out), by repeat (first | (with_reducible first | exact HK.out | apply Kept.alloc | apply Kept.drewN | apply Kept.drew) | exact HK.out)⟩
 ·
  rw [if_neg c5] at H
  exact absurd H (by simp)
def utf8_appendRuneNonASCII.j0 : Nat → List Int → Int → Int → Bool → Option (List Int)
 | 0, _, _, _, _ => none
 | k + 1, x0, x1, x5, x25 => if x25 = true then ((some (([Go.bits .or .u8 224 ((x1 / 4096) % 256), 128 + x1 / 64 % 64, 128 + x1 % 64] : List Int) : List Int)).bind fun y116 => (if x0.length + y116.length < 140737488355328 then (some (x0 ++ y116)) else (none))) else (if x5 > 65535 then (if x5 ≤ 1114111 then ((some (([Go.bits .or .u8 240 ((x1 / 262144) % 256), 128 + x1 / 4096 % 64, 128 + x1 / 64 % 64, 128 + x1 % 64] : List Int) : List Int)).bind fun y122 => (if x0.length + y122.length < 140737488355328 then (some (x0 ++ y122)) else (none))) else ((some (([239, 191, 189] : List Int) : List Int)).bind fun y128 => (if x0.length + y128.length < 140737488355328 then (some (x0 ++ y128)) else (none)))) else ((some (([239, 191, 189] : List Int) : List Int)).bind fun y134 => (if x0.length + y134.length < 140737488355328 then (some (x0 ++ y134)) else (none))))
def utf8_appendRuneNonASCII.f (k : Nat) (l0 : List Int) (a1 : Int) : Option (List Int) := if ((a1) % 4294967296) ≤ 2047 then ((some (([Go.bits .or .u8 192 ((a1 / 64) % 256), 128 + a1 % 64] : List Int) : List Int)).bind fun y110 => (if l0.length + y110.length < 140737488355328 then (some (l0 ++ y110)) else (none))) else (if ((a1) % 4294967296) < 55296 then (utf8_appendRuneNonASCII.j0 k l0 a1 ((a1) % 4294967296) (decide (((a1) % 4294967296) < 55296))) else (if 57343 < ((a1) % 4294967296) then (utf8_appendRuneNonASCII.j0 k l0 a1 ((a1) % 4294967296) (decide (((a1) % 4294967296) ≤ 65535))) else (utf8_appendRuneNonASCII.j0 k l0 a1 ((a1) % 4294967296) false)))
set_option maxHeartbeats 8000000 in
set_option maxRecDepth 100000 in
theorem utf8_appendRuneNonASCII.calls (k : Nat) (P0_ : Nat → Prop) (u9000_ : Value) (l0 : List Int) (a1 : Int) (r : List Int) (w0 w : World) (hB : Below w0.heap.size w0 w) (ho0 : Kd.R (Kd.int .u8) 5 w w0.heap.size P0_ u9000_ l0) (h : utf8_appendRuneNonASCII.f k l0 a1 = some r) :
 Calls Tryd.prog 62 #[u9000_, .int .i32 a1] w fun e w' => ∃ v0_ : Value, e = .returned (v0_) ∧ Kd.R (Kd.int .u8) 5 w' w0.heap.size (fun k_ => (P0_ k_ ∨ w.heap.size ≤ k_)) v0_ r ∧ Below w0.heap.size w0 w' ∧ Kept w w' (fun k_ => P0_ k_) := by
 have HO0 := Aside0.mk (show Kd.R (Kd.int .u8) 5 w w0.heap.size (fun k_ => (P0_ k_ ∨ w.heap.size ≤ k_)) u9000_ l0 from Kd.R_mono ho0 (fun k_ hk => (.inl hk)))
 have HK := Aside0.mk (Kept.refl w (fun k_ => P0_ k_))
 have HW0 := Aside0.mk hB.size
 have HB := Aside0.mk hB
 clear hB
 have H : (if ((a1) % 4294967296) ≤ 2047 then ((some (([Go.bits .or .u8 192 ((a1 / 64) % 256), 128 + a1 % 64] : List Int) : List Int)).bind fun y110 => (if l0.length + y110.length < 140737488355328 then (some (l0 ++ y110)) else (none))) else (if ((a1) % 4294967296) < 55296 then (utf8_appendRuneNonASCII.j0 k l0 a1 ((a1) % 4294967296) (decide (((a1) % 4294967296) < 55296))) else (if 57343 < ((a1) % 4294967296) then (utf8_appendRuneNonASCII.j0 k l0 a1 ((a1) % 4294967296) (decide (((a1) % 4294967296) ≤ 65535))) else (utf8_appendRuneNonASCII.j0 k l0 a1 ((a1) % 4294967296) false)))) = some r := h
 clear h
 by_cases c3 : ((a1) % 4294967296) ≤ 2047
 ·
  rw [if_pos c3] at H
  have c3b0 : decide (((a1) % 4294967296) ≤ 2047) = true := decide_eq_true c3
  clear c3
  obtain ⟨y110, hy110⟩ : ∃ y_ : List Int, y_ = (([Go.bits .or .u8 192 ((a1 / 64) % 256), 128 + a1 % 64] : List Int)) := ⟨_, rfl⟩
  replace H : (if l0.length + y110.length < 140737488355328 then (some (l0 ++ y110)) else (none)) = some r := by first | (rw [hy110]; with_reducible exact H) | (have H2_ := (Option.bind_some _ _).symm.trans H; rw [hy110]; with_reducible exact H2_) | (have H2_ := (Option.bind_some _ _).symm.trans H; with_reducible exact H2_) | with_reducible exact H | (rw [hy110]; exact H) | exact H
  have Ny110 := Aside0.mk hy110
  clear hy110
  by_cases c4 : l0.length + y110.length < 140737488355328
  ·
   rw [if_pos c4] at H
   have LMc4 := Aside0.mk c4
   clear c4
   obtain ⟨y113, hy113⟩ : ∃ y_ : List Int, y_ = (l0 ++ y110) := ⟨_, rfl⟩
   replace H : (some y113) = some r := by first | (rw [hy113]; with_reducible exact H) | (have H2_ := (Option.bind_some _ _).symm.trans H; rw [hy113]; with_reducible exact H2_) | (have H2_ := (Option.bind_some _ _).symm.trans H; with_reducible exact H2_) | with_reducible exact H | (rw [hy113]; exact H) | exact H
   have Ny113 := Aside0.mk hy113
   clear hy113
   obtain rfl := Option.some.inj H
   go_enter Tryd.func62, Tryd.ntmps62
   go_wp2_with (first | ((with_reducible refine gate_dst (N := 23) rfl ?_); refine Kd.R_lit (Kd.int .u8) _ 5 ?hg (N := 23) ?hd (xs := ([Go.bits .or .u8 192 ((a1 / 64) % 256), 128 + a1 % 64] : List Int)) (inner := [.int .u8 (Go.bits .or .u8 192 ((a1 / 64) % 256)), .int .u8 (128 + a1 % 64)]) (ok := fun _ => True) (okp := fun _ => True) ?hr ?hp (fun _ hk => hk) trivial (Below.refl _ _) (Nat.le_refl _) (by simp) ?_; (case hd => rfl); (case hg => rfl); (case hr => first | (go_simp; done) | (go_simp; rfl)); (case hp => exact (Reps.one (show Kd.M (Kd.int .u8) _ _ _ (Go.bits .or .u8 192 ((a1 / 64) % 256)) [.int .u8 (Go.bits .or .u8 192 ((a1 / 64) % 256))] from rfl) (Reps.one (show Kd.M (Kd.int .u8) _ _ _ (128 + a1 % 64) [.int .u8 (128 + a1 % 64)] from rfl) (Reps.none _ _)))); intro v111 w5 ho6 hb hg_ hnew_; clear hg_ hnew_; (first | rw [← Ny110.out] at ho6 | (simp only [Int.reduceToNat] at ho6; rw [← Ny110.out] at ho6)); have n0_ := Aside0.mk (Kd.R_elder' (by (with_reducible repeat (first | apply Kd.R_alloc | apply Kd.R_drewN | apply Kd.R_drew)); exact HO0.out) (Kd.R_base ho6) hb); have n1_ := Aside0.mk (Kd.R_lower (Kd.R_new' (Kd.R_newM (M := fun k_ => (P0_ k_ ∨ w.heap.size ≤ k_)) ho6 (by first | exact HK.out.1 | exact (show Kept w _ (fun k_ => P0_ k_) from by repeat (first | (with_reducible first | exact HK.out | apply Kept.alloc | apply Kept.drewN | apply Kept.drew) | exact HK.out)).1) (fun k_ h_ => .inr h_)) (Kd.R_lt (by (with_reducible repeat (first | apply Kd.R_alloc | apply Kd.R_drewN | apply Kd.R_drew)); exact HO0.out))) (below_size (by repeat (first | (with_reducible first | exact HB.out | apply below_alloc | apply pw_below_drewN | apply below_drew1) | exact HB.out)))); have n2_ := Aside0.mk (Kept.below (S := (fun k_ => P0_ k_)) (by repeat (first | (with_reducible first | exact HK.out | apply Kept.alloc | apply Kept.drewN | apply Kept.drew) | exact HK.out)) hb); have n3_ := Aside0.mk (below_step (by repeat (first | (with_reducible first | exact HB.out | apply below_alloc | apply pw_below_drewN | apply below_drew1) | exact HB.out)) hb); clear HO0; clear HK; clear HB; have HO0 := n0_; have HO112 := n1_; have HK := n2_; have HB := n3_; clear n0_ n1_ n2_ n3_; clear hb ho6; obtain ⟨Ao8, co8, eo8⟩ := Kd.R_slice HO112.out; subst eo8) | ((with_reducible refine gate_builtin (b := .append) (xs := #[.tmp 14, .tmp 23]) rfl ?_); at_builtin; refine Kd.R_append_rows (Kd.int .u8) (w0 := w0) w0.heap.size rfl (.tmp 14) (.tmp 23) 44 5 (.int .u8 0) 1 rfl Tryd.underlying44 info5 rfl (by decide) (by omega) u9000_ l0 y110 _ _ _ (fun k_ => (P0_ k_ ∨ w.heap.size ≤ k_) ∧ some k_ ≠ (.slice Ao8 y110.length co8 : Value).ownBlock) (fun _ => False) rfl rfl ?aO ?aR (fun _ _ h => h) (fun _ h => h.elim) ?aF ?aB ?aS ?aL ?_; (case aR => repeat (first | exact (Kd.R_reads' HO112.out).2.2 | (with_reducible refine Kd.C_alloc ?_ _) | (with_reducible refine Kd.C_drewN ?_ _) | (with_reducible refine Kd.C_drew ?_))); (case aB => exact (by repeat (first | (with_reducible first | exact HB.out | apply below_alloc | apply pw_below_drewN | apply below_drew1) | exact HB.out))); (case aF => exact (fun k_ hk => ⟨(.inr (Nat.le_trans (by first | exact HK.out.1 | exact (show Kept w _ (fun k_ => P0_ k_) from by repeat (first | (with_reducible first | exact HK.out | apply Kept.alloc | apply Kept.drewN | apply Kept.drew) | exact HK.out)).1) hk)), Kd.fresh' (Kd.R_lt (by (with_reducible repeat (first | apply Kd.R_alloc | apply Kd.R_drewN | apply Kd.R_drew)); exact HO112.out)) k_ hk⟩)); (case aO => exact (by (with_reducible repeat (first | apply Kd.R_alloc | apply Kd.R_drewN | apply Kd.R_drew)); exact HO0.out)); (case aS => exact (below_size (by repeat (first | (with_reducible first | exact HB.out | apply below_alloc | apply pw_below_drewN | apply below_drew1) | exact HB.out)))); (case aL => have := LMc4.out; omega); intro v114 w7 ho hb hg hat; rw [← Ny113.out] at ho; have n0_ := Aside0.mk (Kd.R_after (ok := (fun k_ => (P0_ k_ ∨ w.heap.size ≤ k_))) (by (with_reducible repeat (first | apply Kd.R_alloc | apply Kd.R_drewN | apply Kd.R_drew)); exact Kd.R_mono HO112.out (fun _ hk => ⟨hk.1.1, hk.2⟩)) hg hat); have n1_ := Aside0.mk (hb); have n2_ := Aside0.mk (Kept.of_grown (S := (fun k_ => P0_ k_)) hg (by repeat (first | (with_reducible first | exact HK.out | apply Kept.alloc | apply Kept.drewN | apply Kept.drew) | exact HK.out)) (fun k_ e_ => (HO0.out.1 k_ e_).1)); have n3_ := Aside0.mk (ho); clear HO112; clear HB; clear HK; clear HO0; have HO112 := n0_; have HB := n1_; have HK := n2_; have HO115 := n3_; clear n0_ n1_ n2_ n3_; clear ho hb hg hat))
   go_ret
   exact ⟨_, by first | rfl | (simp [errW_none, errW_some] <;> rfl) | (simp [*, errW_none, errW_some] <;> rfl), by (with_reducible repeat (first | apply Kd.R_alloc | apply Kd.R_drewN | apply Kd.R_drew)); exact Kd.R_mono HO115.out (fun _ hk => hk.1), by repeat (first | (with_reducible first | exact HB.out | apply below_alloc | apply pw_below_drewN | apply below_drew1) | exact HB.out), by repeat (first | (with_reducible first | exact HK.out | apply Kept.alloc | apply Kept.drewN | apply Kept.drew) | exact HK.out)⟩
  ·
   rw [if_neg c4] at H
   exact absurd H (by simp)
 ·
  rw [if_neg c3] at H
  have c3b0 : decide (((a1) % 4294967296) ≤ 2047) = false := decide_eq_false c3
  clear c3
  have HC9 := Aside0.mk H
  clear H
  go_enter Tryd.func62, Tryd.ntmps62
  go_upto_if 25 with (fail)
  go_cut [25] (fun v25 wc => ∃ (kq : Nat) (x25_8 : Bool), v25 = .bool x25_8 ∧ Aside0 (utf8_appendRuneNonASCII.j0 kq l0 a1 ((a1) % 4294967296) x25_8 = some r) ∧ Aside0 (kq ≤ k) ∧ Aside0 (Kd.R (Kd.int .u8) 5 wc w0.heap.size (fun k_ => (P0_ k_ ∨ w.heap.size ≤ k_)) u9000_ l0) ∧ Aside0 (Kept w wc (fun k_ => P0_ k_)) ∧ Aside0 (Below w0.heap.size w0 wc))
  case first =>
   have H := HC9.out
   clear HC9
   by_cases c10 : ((a1) % 4294967296) < 55296
   ·
    rw [if_pos c10] at H
    have c10b0 : decide (((a1) % 4294967296) < 55296) = true := decide_eq_true c10
    clear c10
    (first | rw [c10b0] | (simp only [i64_w, i32_w]; rw [c10b0]) | skip)
    have H' := Aside0.mk H
    clear H
    go_wp2
    go_meet
    case rel => exact ⟨_, (decide (((a1) % 4294967296) < 55296)), (by first | rfl | (simp; done) | (simp [*]; done)), H', ⟨by first | omega | exact Nat.le_refl _⟩, ⟨by (with_reducible repeat (first | apply Kd.R_alloc | apply Kd.R_drewN | apply Kd.R_drew)); exact HO0.out⟩, ⟨by repeat (first | (with_reducible first | exact HK.out | apply Kept.alloc | apply Kept.drewN | apply Kept.drew) | exact HK.out)⟩, ⟨by repeat (first | (with_reducible first | exact HB.out | apply below_alloc | apply pw_below_drewN | apply below_drew1) | exact HB.out)⟩⟩
   ·
    rw [if_neg c10] at H
    have c10b0 : decide (((a1) % 4294967296) < 55296) = false := decide_eq_false c10
    clear c10
    (first | rw [c10b0] | (simp only [i64_w, i32_w]; rw [c10b0]) | skip)
    by_cases c11 : 57343 < ((a1) % 4294967296)
    ·
     rw [if_pos c11] at H
     have c11b0 : decide (57343 < ((a1) % 4294967296)) = true := decide_eq_true c11
     clear c11
     have H' := Aside0.mk H
     clear H
     go_wp2
     go_meet
     case rel => exact ⟨_, (decide (((a1) % 4294967296) ≤ 65535)), (by first | rfl | (simp; done) | (simp [*]; done)), H', ⟨by first | omega | exact Nat.le_refl _⟩, ⟨by (with_reducible repeat (first | apply Kd.R_alloc | apply Kd.R_drewN | apply Kd.R_drew)); exact HO0.out⟩, ⟨by repeat (first | (with_reducible first | exact HK.out | apply Kept.alloc | apply Kept.drewN | apply Kept.drew) | exact HK.out)⟩, ⟨by repeat (first | (with_reducible first | exact HB.out | apply below_alloc | apply pw_below_drewN | apply below_drew1) | exact HB.out)⟩⟩
    ·
     rw [if_neg c11] at H
     have c11b0 : decide (57343 < ((a1) % 4294967296)) = false := decide_eq_false c11
     clear c11
     have H' := Aside0.mk H
     clear H
     go_wp2
     go_meet
     case rel => exact ⟨_, (false), (by first | rfl | (simp; done) | (simp [*]; done)), H', ⟨by first | omega | exact Nat.le_refl _⟩, ⟨by (with_reducible repeat (first | apply Kd.R_alloc | apply Kd.R_drewN | apply Kd.R_drew)); exact HO0.out⟩, ⟨by repeat (first | (with_reducible first | exact HK.out | apply Kept.alloc | apply Kept.drewN | apply Kept.drew) | exact HK.out)⟩, ⟨by repeat (first | (with_reducible first | exact HB.out | apply below_alloc | apply pw_below_drewN | apply below_drew1) | exact HB.out)⟩⟩
  case rest =>
   clear HC9
   try clear c1
   try clear p2
   try clear c3
   try clear c3b0
   try clear c4
   try clear c6
   try clear c10
   try clear c10b0
   try clear c11
   try clear c11b0
   obtain ⟨kq, x25_8, rfl, HA, HJ8, HO_0, HK, HB⟩ := hcut
   cases kq with
   | zero => exact absurd HA.out (by simp [utf8_appendRuneNonASCII.j0])
   | succ kj8 =>
    have H := HA.out
    clear HA
    simp only [utf8_appendRuneNonASCII.j0] at H
    by_cases c12 : x25_8 = true
    ·
     subst c12
     have H1 : ((some (([Go.bits .or .u8 224 ((a1 / 4096) % 256), 128 + a1 / 64 % 64, 128 + a1 % 64] : List Int) : List Int)).bind fun y116 => (if l0.length + y116.length < 140737488355328 then (some (l0 ++ y116)) else (none))) = some r := by rw [if_pos rfl] at H; exact H
     clear H
     have H := H1
     clear H1
     obtain ⟨y116, hy116⟩ : ∃ y_ : List Int, y_ = (([Go.bits .or .u8 224 ((a1 / 4096) % 256), 128 + a1 / 64 % 64, 128 + a1 % 64] : List Int)) := ⟨_, rfl⟩
     replace H : (if l0.length + y116.length < 140737488355328 then (some (l0 ++ y116)) else (none)) = some r := by first | (rw [hy116]; with_reducible exact H) | (have H2_ := (Option.bind_some _ _).symm.trans H; rw [hy116]; with_reducible exact H2_) | (have H2_ := (Option.bind_some _ _).symm.trans H; with_reducible exact H2_) | with_reducible exact H | (rw [hy116]; exact H) | exact H
     have Ny116 := Aside0.mk hy116
     clear hy116
     by_cases c13 : l0.length + y116.length < 140737488355328
     ·
      rw [if_pos c13] at H
      have LMc13 := Aside0.mk c13
      clear c13
      obtain ⟨y119, hy119⟩ : ∃ y_ : List Int, y_ = (l0 ++ y116) := ⟨_, rfl⟩
      replace H : (some y119) = some r := by first | (rw [hy119]; with_reducible exact H) | (have H2_ := (Option.bind_some _ _).symm.trans H; rw [hy119]; with_reducible exact H2_) | (have H2_ := (Option.bind_some _ _).symm.trans H; with_reducible exact H2_) | with_reducible exact H | (rw [hy119]; exact H) | exact H
      have Ny119 := Aside0.mk hy119
      clear hy119
      obtain rfl := Option.some.inj H
      go_wp2_with (first | ((with_reducible refine gate_dst (N := 48) rfl ?_); refine Kd.R_lit (Kd.int .u8) _ 5 ?hg (N := 48) ?hd (xs := ([Go.bits .or .u8 224 ((a1 / 4096) % 256), 128 + a1 / 64 % 64, 128 + a1 % 64] : List Int)) (inner := [.int .u8 (Go.bits .or .u8 224 ((a1 / 4096) % 256)), .int .u8 (128 + a1 / 64 % 64), .int .u8 (128 + a1 % 64)]) (ok := fun _ => True) (okp := fun _ => True) ?hr ?hp (fun _ hk => hk) trivial (Below.refl _ _) (Nat.le_refl _) (by simp) ?_; (case hd => rfl); (case hg => rfl); (case hr => first | (go_simp; done) | (go_simp; rfl)); (case hp => exact (Reps.one (show Kd.M (Kd.int .u8) _ _ _ (Go.bits .or .u8 224 ((a1 / 4096) % 256)) [.int .u8 (Go.bits .or .u8 224 ((a1 / 4096) % 256))] from rfl) (Reps.one (show Kd.M (Kd.int .u8) _ _ _ (128 + a1 / 64 % 64) [.int .u8 (128 + a1 / 64 % 64)] from rfl) (Reps.one (show Kd.M (Kd.int .u8) _ _ _ (128 + a1 % 64) [.int .u8 (128 + a1 % 64)] from rfl) (Reps.none _ _))))); intro v117 w14 ho15 hb hg_ hnew_; clear hg_ hnew_; (first | rw [← Ny116.out] at ho15 | (simp only [Int.reduceToNat] at ho15; rw [← Ny116.out] at ho15)); have n0_ := Aside0.mk (Kd.R_elder' (by (with_reducible repeat (first | apply Kd.R_alloc | apply Kd.R_drewN | apply Kd.R_drew)); exact HO_0.out) (Kd.R_base ho15) hb); have n1_ := Aside0.mk (Kd.R_lower (Kd.R_new' (Kd.R_newM (M := fun k_ => (P0_ k_ ∨ w.heap.size ≤ k_)) ho15 (by first | exact HK.out.1 | exact (show Kept w _ (fun k_ => P0_ k_) from by repeat (first | (with_reducible first | exact HK.out | apply Kept.alloc | apply Kept.drewN | apply Kept.drew) | exact HK.out)).1) (fun k_ h_ => .inr h_)) (Kd.R_lt (by (with_reducible repeat (first | apply Kd.R_alloc | apply Kd.R_drewN | apply Kd.R_drew)); exact HO_0.out))) (below_size (by repeat (first | (with_reducible first | exact HB.out | apply below_alloc | apply pw_below_drewN | apply below_drew1) | exact HB.out)))); have n2_ := Aside0.mk (Kept.below (S := (fun k_ => P0_ k_)) (by repeat (first | (with_reducible first | exact HK.out | apply Kept.alloc | apply Kept.drewN | apply Kept.drew) | exact HK.out)) hb); have n3_ := Aside0.mk (below_step (by repeat (first | (with_reducible first | exact HB.out | apply below_alloc | apply pw_below_drewN | apply below_drew1) | exact HB.out)) hb); clear HO_0; clear HK; clear HB; have HO_0 := n0_; have HO118 := n1_; have HK := n2_; have HB := n3_; clear n0_ n1_ n2_ n3_; clear hb ho15; obtain ⟨Ao17, co17, eo17⟩ := Kd.R_slice HO118.out; subst eo17) | ((with_reducible refine gate_builtin (b := .append) (xs := #[.tmp 34, .tmp 48]) rfl ?_); at_builtin; refine Kd.R_append_rows (Kd.int .u8) (w0 := w0) w0.heap.size rfl (.tmp 34) (.tmp 48) 44 5 (.int .u8 0) 1 rfl Tryd.underlying44 info5 rfl (by decide) (by omega) u9000_ l0 y116 _ _ _ (fun k_ => (P0_ k_ ∨ w.heap.size ≤ k_) ∧ some k_ ≠ (.slice Ao17 y116.length co17 : Value).ownBlock) (fun _ => False) rfl rfl ?aO ?aR (fun _ _ h => h) (fun _ h => h.elim) ?aF ?aB ?aS ?aL ?_; (case aR => repeat (first | exact (Kd.R_reads' HO118.out).2.2 | (with_reducible refine Kd.C_alloc ?_ _) | (with_reducible refine Kd.C_drewN ?_ _) | (with_reducible refine Kd.C_drew ?_))); (case aB => exact (by repeat (first | (with_reducible first | exact HB.out | apply below_alloc | apply pw_below_drewN | apply below_drew1) | exact HB.out))); (case aF => exact (fun k_ hk => ⟨(.inr (Nat.le_trans (by first | exact HK.out.1 | exact (show Kept w _ (fun k_ => P0_ k_) from by repeat (first | (with_reducible first | exact HK.out | apply Kept.alloc | apply Kept.drewN | apply Kept.drew) | exact HK.out)).1) hk)), Kd.fresh' (Kd.R_lt (by (with_reducible repeat (first | apply Kd.R_alloc | apply Kd.R_drewN | apply Kd.R_drew)); exact HO118.out)) k_ hk⟩)); (case aO => exact (by (with_reducible repeat (first | apply Kd.R_alloc | apply Kd.R_drewN | apply Kd.R_drew)); exact HO_0.out)); (case aS => exact (below_size (by repeat (first | (with_reducible first | exact HB.out | apply below_alloc | apply pw_below_drewN | apply below_drew1) | exact HB.out)))); (case aL => have := LMc13.out; omega); intro v120 w16 ho hb hg hat; rw [← Ny119.out] at ho; have n0_ := Aside0.mk (Kd.R_after (ok := (fun k_ => (P0_ k_ ∨ w.heap.size ≤ k_))) (by (with_reducible repeat (first | apply Kd.R_alloc | apply Kd.R_drewN | apply Kd.R_drew)); exact Kd.R_mono HO118.out (fun _ hk => ⟨hk.1.1, hk.2⟩)) hg hat); have n1_ := Aside0.mk (hb); have n2_ := Aside0.mk (Kept.of_grown (S := (fun k_ => P0_ k_)) hg (by repeat (first | (with_reducible first | exact HK.out | apply Kept.alloc | apply Kept.drewN | apply Kept.drew) | exact HK.out)) (fun k_ e_ => (HO_0.out.1 k_ e_).1)); have n3_ := Aside0.mk (ho); clear HO118; clear HB; clear HK; clear HO_0; have HO118 := n0_; have HB := n1_; have HK := n2_; have HO121 := n3_; clear n0_ n1_ n2_ n3_; clear ho hb hg hat))
      go_ret
      exact ⟨_, by first | rfl | (simp [errW_none, errW_some] <;> rfl) | (simp [*, errW_none, errW_some] <;> rfl), by (with_reducible repeat (first | apply Kd.R_alloc | apply Kd.R_drewN | apply Kd.R_drew)); exact Kd.R_mono HO121.out (fun _ hk => hk.1), by repeat (first | (with_reducible first | exact HB.out | apply below_alloc | apply pw_below_drewN | apply below_drew1) | exact HB.out), by repeat (first | (with_reducible first | exact HK.out | apply Kept.alloc | apply Kept.drewN | apply Kept.drew) | exact HK.out)⟩
     ·
      rw [if_neg c13] at H
      exact absurd H (by simp)
    ·
     replace c12 := Bool.eq_false_iff.mpr c12
     subst c12
     have H1 : (if ((a1) % 4294967296) > 65535 then (if ((a1) % 4294967296) ≤ 1114111 then ((some (([Go.bits .or .u8 240 ((a1 / 262144) % 256), 128 + a1 / 4096 % 64, 128 + a1 / 64 % 64, 128 + a1 % 64] : List Int) : List Int)).bind fun y122 => (if l0.length + y122.length < 140737488355328 then (some (l0 ++ y122)) else (none))) else ((some (([239, 191, 189] : List Int) : List Int)).bind fun y128 => (if l0.length + y128.length < 140737488355328 then (some (l0 ++ y128)) else (none)))) else ((some (([239, 191, 189] : List Int) : List Int)).bind fun y134 => (if l0.length + y134.length < 140737488355328 then (some (l0 ++ y134)) else (none)))) = some r := by rw [if_neg (show ¬ (false = true) by decide)] at H; exact H
     clear H
     have H := H1
     clear H1
     by_cases c18 : ((a1) % 4294967296) > 65535
     ·
      rw [if_pos c18] at H
      have c18b0 : decide (65535 < ((a1) % 4294967296)) = true := decide_eq_true c18
      clear c18
      by_cases c19 : ((a1) % 4294967296) ≤ 1114111
      ·
       rw [if_pos c19] at H
       have c19b0 : decide (((a1) % 4294967296) ≤ 1114111) = true := decide_eq_true c19
       clear c19
       obtain ⟨y122, hy122⟩ : ∃ y_ : List Int, y_ = (([Go.bits .or .u8 240 ((a1 / 262144) % 256), 128 + a1 / 4096 % 64, 128 + a1 / 64 % 64, 128 + a1 % 64] : List Int)) := ⟨_, rfl⟩
       replace H : (if l0.length + y122.length < 140737488355328 then (some (l0 ++ y122)) else (none)) = some r := by first | (rw [hy122]; with_reducible exact H) | (have H2_ := (Option.bind_some _ _).symm.trans H; rw [hy122]; with_reducible exact H2_) | (have H2_ := (Option.bind_some _ _).symm.trans H; with_reducible exact H2_) | with_reducible exact H | (rw [hy122]; exact H) | exact H
       have Ny122 := Aside0.mk hy122
       clear hy122
       by_cases c20 : l0.length + y122.length < 140737488355328
       ·
        rw [if_pos c20] at H
        have LMc20 := Aside0.mk c20
        clear c20
        obtain ⟨y125, hy125⟩ : ∃ y_ : List Int, y_ = (l0 ++ y122) := ⟨_, rfl⟩
        replace H : (some y125) = some r := by first | (rw [hy125]; with_reducible exact H) | (have H2_ := (Option.bind_some _ _).symm.trans H; rw [hy125]; with_reducible exact H2_) | (have H2_ := (Option.bind_some _ _).symm.trans H; with_reducible exact H2_) | with_reducible exact H | (rw [hy125]; exact H) | exact H
        have Ny125 := Aside0.mk hy125
        clear hy125
        obtain rfl := Option.some.inj H
        go_wp2_with (first | ((with_reducible refine gate_dst (N := 76) rfl ?_); refine Kd.R_lit (Kd.int .u8) _ 5 ?hg (N := 76) ?hd (xs := ([Go.bits .or .u8 240 ((a1 / 262144) % 256), 128 + a1 / 4096 % 64, 128 + a1 / 64 % 64, 128 + a1 % 64] : List Int)) (inner := [.int .u8 (Go.bits .or .u8 240 ((a1 / 262144) % 256)), .int .u8 (128 + a1 / 4096 % 64), .int .u8 (128 + a1 / 64 % 64), .int .u8 (128 + a1 % 64)]) (ok := fun _ => True) (okp := fun _ => True) ?hr ?hp (fun _ hk => hk) trivial (Below.refl _ _) (Nat.le_refl _) (by simp) ?_; (case hd => rfl); (case hg => rfl); (case hr => first | (go_simp; done) | (go_simp; rfl)); (case hp => exact (Reps.one (show Kd.M (Kd.int .u8) _ _ _ (Go.bits .or .u8 240 ((a1 / 262144) % 256)) [.int .u8 (Go.bits .or .u8 240 ((a1 / 262144) % 256))] from rfl) (Reps.one (show Kd.M (Kd.int .u8) _ _ _ (128 + a1 / 4096 % 64) [.int .u8 (128 + a1 / 4096 % 64)] from rfl) (Reps.one (show Kd.M (Kd.int .u8) _ _ _ (128 + a1 / 64 % 64) [.int .u8 (128 + a1 / 64 % 64)] from rfl) (Reps.one (show Kd.M (Kd.int .u8) _ _ _ (128 + a1 % 64) [.int .u8 (128 + a1 % 64)] from rfl) (Reps.none _ _)))))); intro v123 w21 ho22 hb hg_ hnew_; clear hg_ hnew_; (first | rw [← Ny122.out] at ho22 | (simp only [Int.reduceToNat] at ho22; rw [← Ny122.out] at ho22)); have n0_ := Aside0.mk (Kd.R_elder' (by (with_reducible repeat (first | apply Kd.R_alloc | apply Kd.R_drewN | apply Kd.R_drew)); exact HO_0.out) (Kd.R_base ho22) hb); have n1_ := Aside0.mk (Kd.R_lower (Kd.R_new' (Kd.R_newM (M := fun k_ => (P0_ k_ ∨ w.heap.size ≤ k_)) ho22 (by first | exact HK.out.1 | exact (show Kept w _ (fun k_ => P0_ k_) from by repeat (first | (with_reducible first | exact HK.out | apply Kept.alloc | apply Kept.drewN | apply Kept.drew) | exact HK.out)).1) (fun k_ h_ => .inr h_)) (Kd.R_lt (by (with_reducible repeat (first | apply Kd.R_alloc | apply Kd.R_drewN | apply Kd.R_drew)); exact HO_0.out))) (below_size (by repeat (first | (with_reducible first | exact HB.out | apply below_alloc | apply pw_below_drewN | apply below_drew1) | exact HB.out)))); have n2_ := Aside0.mk (Kept.below (S := (fun k_ => P0_ k_)) (by repeat (first | (with_reducible first | exact HK.out | apply Kept.alloc | apply Kept.drewN | apply Kept.drew) | exact HK.out)) hb); have n3_ := Aside0.mk (below_step (by repeat (first | (with_reducible first | exact HB.out | apply below_alloc | apply pw_below_drewN | apply below_drew1) | exact HB.out)) hb); clear HO_0; clear HK; clear HB; have HO_0 := n0_; have HO124 := n1_; have HK := n2_; have HB := n3_; clear n0_ n1_ n2_ n3_; clear hb ho22; obtain ⟨Ao24, co24, eo24⟩ := Kd.R_slice HO124.out; subst eo24) | ((with_reducible refine gate_builtin (b := .append) (xs := #[.tmp 57, .tmp 76]) rfl ?_); at_builtin; refine Kd.R_append_rows (Kd.int .u8) (w0 := w0) w0.heap.size rfl (.tmp 57) (.tmp 76) 44 5 (.int .u8 0) 1 rfl Tryd.underlying44 info5 rfl (by decide) (by omega) u9000_ l0 y122 _ _ _ (fun k_ => (P0_ k_ ∨ w.heap.size ≤ k_) ∧ some k_ ≠ (.slice Ao24 y122.length co24 : Value).ownBlock) (fun _ => False) rfl rfl ?aO ?aR (fun _ _ h => h) (fun _ h => h.elim) ?aF ?aB ?aS ?aL ?_; (case aR => repeat (first | exact (Kd.R_reads' HO124.out).2.2 | (with_reducible refine Kd.C_alloc ?_ _) | (with_reducible refine Kd.C_drewN ?_ _) | (with_reducible refine Kd.C_drew ?_))); (case aB => exact (by repeat (first | (with_reducible first | exact HB.out | apply below_alloc | apply pw_below_drewN | apply below_drew1) | exact HB.out))); (case aF => exact (fun k_ hk => ⟨(.inr (Nat.le_trans (by first | exact HK.out.1 | exact (show Kept w _ (fun k_ => P0_ k_) from by repeat (first | (with_reducible first | exact HK.out | apply Kept.alloc | apply Kept.drewN | apply Kept.drew) | exact HK.out)).1) hk)), Kd.fresh' (Kd.R_lt (by (with_reducible repeat (first | apply Kd.R_alloc | apply Kd.R_drewN | apply Kd.R_drew)); exact HO124.out)) k_ hk⟩)); (case aO => exact (by (with_reducible repeat (first | apply Kd.R_alloc | apply Kd.R_drewN | apply Kd.R_drew)); exact HO_0.out)); (case aS => exact (below_size (by repeat (first | (with_reducible first | exact HB.out | apply below_alloc | apply pw_below_drewN | apply below_drew1) | exact HB.out)))); (case aL => have := LMc20.out; omega); intro v126 w23 ho hb hg hat; rw [← Ny125.out] at ho; have n0_ := Aside0.mk (Kd.R_after (ok := (fun k_ => (P0_ k_ ∨ w.heap.size ≤ k_))) (by (with_reducible repeat (first | apply Kd.R_alloc | apply Kd.R_drewN | apply Kd.R_drew)); exact Kd.R_mono HO124.out (fun _ hk => ⟨hk.1.1, hk.2⟩)) hg hat); have n1_ := Aside0.mk (hb); have n2_ := Aside0.mk (Kept.of_grown (S := (fun k_ => P0_ k_)) hg (by repeat (first | (with_reducible first | exact HK.out | apply Kept.alloc | apply Kept.drewN | apply Kept.drew) | exact HK.out)) (fun k_ e_ => (HO_0.out.1 k_ e_).1)); have n3_ := Aside0.mk (ho); clear HO124; clear HB; clear HK; clear HO_0; have HO124 := n0_; have HB := n1_; have HK := n2_; have HO127 := n3_; clear n0_ n1_ n2_ n3_; clear ho hb hg hat))
        go_ret
        exact ⟨_, by first | rfl | (simp [errW_none, errW_some] <;> rfl) | (simp [*, errW_none, errW_some] <;> rfl), by (with_reducible repeat (first | apply Kd.R_alloc | apply Kd.R_drewN | apply Kd.R_drew)); exact Kd.R_mono HO127.out (fun _ hk => hk.1), by repeat (first | (with_reducible first | exact HB.out | apply below_alloc | apply pw_below_drewN | apply below_drew1) | exact HB.out), by repeat (first | (with_reducible first | exact HK.out | apply Kept.alloc | apply Kept.drewN | apply Kept.drew) | exact HK.out)⟩
       ·
        rw [if_neg c20] at H
        exact absurd H (by simp)
      ·
       rw [if_neg c19] at H
       have c19b0 : decide (((a1) % 4294967296) ≤ 1114111) = false := decide_eq_false c19
       clear c19
       obtain ⟨y128, hy128⟩ : ∃ y_ : List Int, y_ = (([239, 191, 189] : List Int)) := ⟨_, rfl⟩
       replace H : (if l0.length + y128.length < 140737488355328 then (some (l0 ++ y128)) else (none)) = some r := by first | (rw [hy128]; with_reducible exact H) | (have H2_ := (Option.bind_some _ _).symm.trans H; rw [hy128]; with_reducible exact H2_) | (have H2_ := (Option.bind_some _ _).symm.trans H; with_reducible exact H2_) | with_reducible exact H | (rw [hy128]; exact H) | exact H
       have Ny128 := Aside0.mk hy128
       clear hy128
       by_cases c25 : l0.length + y128.length < 140737488355328
       ·
        rw [if_pos c25] at H
        have LMc25 := Aside0.mk c25
        clear c25
        obtain ⟨y131, hy131⟩ : ∃ y_ : List Int, y_ = (l0 ++ y128) := ⟨_, rfl⟩
        replace H : (some y131) = some r := by first | (rw [hy131]; with_reducible exact H) | (have H2_ := (Option.bind_some _ _).symm.trans H; rw [hy131]; with_reducible exact H2_) | (have H2_ := (Option.bind_some _ _).symm.trans H; with_reducible exact H2_) | with_reducible exact H | (rw [hy131]; exact H) | exact H
        have Ny131 := Aside0.mk hy131
        clear hy131
        obtain rfl := Option.some.inj H
        go_wp2_with (first | ((with_reducible refine gate_dst (N := 9) rfl ?_); refine Kd.R_lit (Kd.int .u8) _ 5 ?hg (N := 9) ?hd (xs := ([239, 191, 189] : List Int)) (inner := [.int .u8 239, .int .u8 191, .int .u8 189]) (ok := fun _ => True) (okp := fun _ => True) ?hr ?hp (fun _ hk => hk) trivial (Below.refl _ _) (Nat.le_refl _) (by simp) ?_; (case hd => rfl); (case hg => rfl); (case hr => first | (go_simp; done) | (go_simp; rfl)); (case hp => exact (Reps.one (show Kd.M (Kd.int .u8) _ _ _ 239 [.int .u8 239] from rfl) (Reps.one (show Kd.M (Kd.int .u8) _ _ _ 191 [.int .u8 191] from rfl) (Reps.one (show Kd.M (Kd.int .u8) _ _ _ 189 [.int .u8 189] from rfl) (Reps.none _ _))))); intro v129 w26 ho27 hb hg_ hnew_; clear hg_ hnew_; (first | rw [← Ny128.out] at ho27 | (simp only [Int.reduceToNat] at ho27; rw [← Ny128.out] at ho27)); have n0_ := Aside0.mk (Kd.R_elder' (by (with_reducible repeat (first | apply Kd.R_alloc | apply Kd.R_drewN | apply Kd.R_drew)); exact HO_0.out) (Kd.R_base ho27) hb); have n1_ := Aside0.mk (Kd.R_lower (Kd.R_new' (Kd.R_newM (M := fun k_ => (P0_ k_ ∨ w.heap.size ≤ k_)) ho27 (by first | exact HK.out.1 | exact (show Kept w _ (fun k_ => P0_ k_) from by repeat (first | (with_reducible first | exact HK.out | apply Kept.alloc | apply Kept.drewN | apply Kept.drew) | exact HK.out)).1) (fun k_ h_ => .inr h_)) (Kd.R_lt (by (with_reducible repeat (first | apply Kd.R_alloc | apply Kd.R_drewN | apply Kd.R_drew)); exact HO_0.out))) (below_size (by repeat (first | (with_reducible first | exact HB.out | apply below_alloc | apply pw_below_drewN | apply below_drew1) | exact HB.out)))); have n2_ := Aside0.mk (Kept.below (S := (fun k_ => P0_ k_)) (by repeat (first | (with_reducible first | exact HK.out | apply Kept.alloc | apply Kept.drewN | apply Kept.drew) | exact HK.out)) hb); have n3_ := Aside0.mk (below_step (by repeat (first | (with_reducible first | exact HB.out | apply below_alloc | apply pw_below_drewN | apply below_drew1) | exact HB.out)) hb); clear HO_0; clear HK; clear HB; have HO_0 := n0_; have HO130 := n1_; have HK := n2_; have HB := n3_; clear n0_ n1_ n2_ n3_; clear hb ho27; obtain ⟨Ao29, co29, eo29⟩ := Kd.R_slice HO130.out; subst eo29) | ((with_reducible refine gate_builtin (b := .append) (xs := #[.tmp 8, .tmp 9]) rfl ?_); at_builtin; refine Kd.R_append_rows (Kd.int .u8) (w0 := w0) w0.heap.size rfl (.tmp 8) (.tmp 9) 44 5 (.int .u8 0) 1 rfl Tryd.underlying44 info5 rfl (by decide) (by omega) u9000_ l0 y128 _ _ _ (fun k_ => (P0_ k_ ∨ w.heap.size ≤ k_) ∧ some k_ ≠ (.slice Ao29 y128.length co29 : Value).ownBlock) (fun _ => False) rfl rfl ?aO ?aR (fun _ _ h => h) (fun _ h => h.elim) ?aF ?aB ?aS ?aL ?_; (case aR => repeat (first | exact (Kd.R_reads' HO130.out).2.2 | (with_reducible refine Kd.C_alloc ?_ _) | (with_reducible refine Kd.C_drewN ?_ _) | (with_reducible refine Kd.C_drew ?_))); (case aB => exact (by repeat (first | (with_reducible first | exact HB.out | apply below_alloc | apply pw_below_drewN | apply below_drew1) | exact HB.out))); (case aF => exact (fun k_ hk => ⟨(.inr (Nat.le_trans (by first | exact HK.out.1 | exact (show Kept w _ (fun k_ => P0_ k_) from by repeat (first | (with_reducible first | exact HK.out | apply Kept.alloc | apply Kept.drewN | apply Kept.drew) | exact HK.out)).1) hk)), Kd.fresh' (Kd.R_lt (by (with_reducible repeat (first | apply Kd.R_alloc | apply Kd.R_drewN | apply Kd.R_drew)); exact HO130.out)) k_ hk⟩)); (case aO => exact (by (with_reducible repeat (first | apply Kd.R_alloc | apply Kd.R_drewN | apply Kd.R_drew)); exact HO_0.out)); (case aS => exact (below_size (by repeat (first | (with_reducible first | exact HB.out | apply below_alloc | apply pw_below_drewN | apply below_drew1) | exact HB.out)))); (case aL => have := LMc25.out; omega); intro v132 w28 ho hb hg hat; rw [← Ny131.out] at ho; have n0_ := Aside0.mk (Kd.R_after (ok := (fun k_ => (P0_ k_ ∨ w.heap.size ≤ k_))) (by (with_reducible repeat (first | apply Kd.R_alloc | apply Kd.R_drewN | apply Kd.R_drew)); exact Kd.R_mono HO130.out (fun _ hk => ⟨hk.1.1, hk.2⟩)) hg hat); have n1_ := Aside0.mk (hb); have n2_ := Aside0.mk (Kept.of_grown (S := (fun k_ => P0_ k_)) hg (by repeat (first | (with_reducible first | exact HK.out | apply Kept.alloc | apply Kept.drewN | apply Kept.drew) | exact HK.out)) (fun k_ e_ => (HO_0.out.1 k_ e_).1)); have n3_ := Aside0.mk (ho); clear HO130; clear HB; clear HK; clear HO_0; have HO130 := n0_; have HB := n1_; have HK := n2_; have HO133 := n3_; clear n0_ n1_ n2_ n3_; clear ho hb hg hat))
        go_ret
        exact ⟨_, by first | rfl | (simp [errW_none, errW_some] <;> rfl) | (simp [*, errW_none, errW_some] <;> rfl), by (with_reducible repeat (first | apply Kd.R_alloc | apply Kd.R_drewN | apply Kd.R_drew)); exact Kd.R_mono HO133.out (fun _ hk => hk.1), by repeat (first | (with_reducible first | exact HB.out | apply below_alloc | apply pw_below_drewN | apply below_drew1) | exact HB.out), by repeat (first | (with_reducible first | exact HK.out | apply Kept.alloc | apply Kept.drewN | apply Kept.drew) | exact HK.out)⟩
       ·
        rw [if_neg c25] at H
        exact absurd H (by simp)
     ·
      rw [if_neg c18] at H
      have c18b0 : decide (65535 < ((a1) % 4294967296)) = false := decide_eq_false c18
      clear c18
      obtain ⟨y134, hy134⟩ : ∃ y_ : List Int, y_ = (([239, 191, 189] : List Int)) := ⟨_, rfl⟩
      replace H : (if l0.length + y134.length < 140737488355328 then (some (l0 ++ y134)) else (none)) = some r := by first | (rw [hy134]; with_reducible exact H) | (have H2_ := (Option.bind_some _ _).symm.trans H; rw [hy134]; with_reducible exact H2_) | (have H2_ := (Option.bind_some _ _).symm.trans H; with_reducible exact H2_) | with_reducible exact H | (rw [hy134]; exact H) | exact H
      have Ny134 := Aside0.mk hy134
      clear hy134
      by_cases c30 : l0.length + y134.length < 140737488355328
      ·
       rw [if_pos c30] at H
       have LMc30 := Aside0.mk c30
       clear c30
       obtain ⟨y137, hy137⟩ : ∃ y_ : List Int, y_ = (l0 ++ y134) := ⟨_, rfl⟩
       replace H : (some y137) = some r := by first | (rw [hy137]; with_reducible exact H) | (have H2_ := (Option.bind_some _ _).symm.trans H; rw [hy137]; with_reducible exact H2_) | (have H2_ := (Option.bind_some _ _).symm.trans H; with_reducible exact H2_) | with_reducible exact H | (rw [hy137]; exact H) | exact H
       have Ny137 := Aside0.mk hy137
       clear hy137
       obtain rfl := Option.some.inj H
       go_wp2_with (first | ((with_reducible refine gate_dst (N := 9) rfl ?_); refine Kd.R_lit (Kd.int .u8) _ 5 ?hg (N := 9) ?hd (xs := ([239, 191, 189] : List Int)) (inner := [.int .u8 239, .int .u8 191, .int .u8 189]) (ok := fun _ => True) (okp := fun _ => True) ?hr ?hp (fun _ hk => hk) trivial (Below.refl _ _) (Nat.le_refl _) (by simp) ?_; (case hd => rfl); (case hg => rfl); (case hr => first | (go_simp; done) | (go_simp; rfl)); (case hp => exact (Reps.one (show Kd.M (Kd.int .u8) _ _ _ 239 [.int .u8 239] from rfl) (Reps.one (show Kd.M (Kd.int .u8) _ _ _ 191 [.int .u8 191] from rfl) (Reps.one (show Kd.M (Kd.int .u8) _ _ _ 189 [.int .u8 189] from rfl) (Reps.none _ _))))); intro v135 w31 ho32 hb hg_ hnew_; clear hg_ hnew_; (first | rw [← Ny134.out] at ho32 | (simp only [Int.reduceToNat] at ho32; rw [← Ny134.out] at ho32)); have n0_ := Aside0.mk (Kd.R_elder' (by (with_reducible repeat (first | apply Kd.R_alloc | apply Kd.R_drewN | apply Kd.R_drew)); exact HO_0.out) (Kd.R_base ho32) hb); have n1_ := Aside0.mk (Kd.R_lower (Kd.R_new' (Kd.R_newM (M := fun k_ => (P0_ k_ ∨ w.heap.size ≤ k_)) ho32 (by first | exact HK.out.1 | exact (show Kept w _ (fun k_ => P0_ k_) from by repeat (first | (with_reducible first | exact HK.out | apply Kept.alloc | apply Kept.drewN | apply Kept.drew) | exact HK.out)).1) (fun k_ h_ => .inr h_)) (Kd.R_lt (by (with_reducible repeat (first | apply Kd.R_alloc | apply Kd.R_drewN | apply Kd.R_drew)); exact HO_0.out))) (below_size (by repeat (first | (with_reducible first | exact HB.out | apply below_alloc | apply pw_below_drewN | apply below_drew1) | exact HB.out)))); have n2_ := Aside0.mk (Kept.below (S := (fun k_ => P0_ k_)) (by repeat (first | (with_reducible first | exact HK.out | apply Kept.alloc | apply Kept.drewN | apply Kept.drew) | exact HK.out)) hb); have n3_ := Aside0.mk (below_step (by repeat (first | (with_reducible first | exact HB.out | apply below_alloc | apply pw_below_drewN | apply below_drew1) | exact HB.out)) hb); clear HO_0; clear HK; clear HB; have HO_0 := n0_; have HO136 := n1_; have HK := n2_; have HB := n3_; clear n0_ n1_ n2_ n3_; clear hb ho32; obtain ⟨Ao34, co34, eo34⟩ := Kd.R_slice HO136.out; subst eo34) | ((with_reducible refine gate_builtin (b := .append) (xs := #[.tmp 8, .tmp 9]) rfl ?_); at_builtin; refine Kd.R_append_rows (Kd.int .u8) (w0 := w0) w0.heap.size rfl (.tmp 8) (.tmp 9) 44 5 (.int .u8 0) 1 rfl Tryd.underlying44 info5 rfl (by decide) (by omega) u9000_ l0 y134 _ _ _ (fun k_ => (P0_ k_ ∨ w.heap.size ≤ k_) ∧ some k_ ≠ (.slice Ao34 y134.length co34 : Value).ownBlock) (fun _ => False) rfl rfl ?aO ?aR (fun _ _ h => h) (fun _ h => h.elim) ?aF ?aB ?aS ?aL ?_; (case aR => repeat (first | exact (Kd.R_reads' HO136.out).2.2 | (with_reducible refine Kd.C_alloc ?_ _) | (with_reducible refine Kd.C_drewN ?_ _) | (with_reducible refine Kd.C_drew ?_))); (case aB => exact (by repeat (first | (with_reducible first | exact HB.out | apply below_alloc | apply pw_below_drewN | apply below_drew1) | exact HB.out))); (case aF => exact (fun k_ hk => ⟨(.inr (Nat.le_trans (by first | exact HK.out.1 | exact (show Kept w _ (fun k_ => P0_ k_) from by repeat (first | (with_reducible first | exact HK.out | apply Kept.alloc | apply Kept.drewN | apply Kept.drew) | exact HK.out)).1) hk)), Kd.fresh' (Kd.R_lt (by (with_reducible repeat (first | apply Kd.R_alloc | apply Kd.R_drewN | apply Kd.R_drew)); exact HO136.out)) k_ hk⟩)); (case aO => exact (by (with_reducible repeat (first | apply Kd.R_alloc | apply Kd.R_drewN | apply Kd.R_drew)); exact HO_0.out)); (case aS => exact (below_size (by repeat (first | (with_reducible first | exact HB.out | apply below_alloc | apply pw_below_drewN | apply below_drew1) | exact HB.out)))); (case aL => have := LMc30.out; omega); intro v138 w33 ho hb hg hat; rw [← Ny137.out] at ho; have n0_ := Aside0.mk (Kd.R_after (ok := (fun k_ => (P0_ k_ ∨ w.heap.size ≤ k_))) (by (with_reducible repeat (first | apply Kd.R_alloc | apply Kd.R_drewN | apply Kd.R_drew)); exact Kd.R_mono HO136.out (fun _ hk => ⟨hk.1.1, hk.2⟩)) hg hat); have n1_ := Aside0.mk (hb); have n2_ := Aside0.mk (Kept.of_grown (S := (fun k_ => P0_ k_)) hg (by repeat (first | (with_reducible first | exact HK.out | apply Kept.alloc | apply Kept.drewN | apply Kept.drew) | exact HK.out)) (fun k_ e_ => (HO_0.out.1 k_ e_).1)); have n3_ := Aside0.mk (ho); clear HO136; clear HB; clear HK; clear HO_0; have HO136 := n0_; have HB := n1_; have HK := n2_; have HO139 := n3_; clear n0_ n1_ n2_ n3_; clear ho hb hg hat))
       go_ret
       exact ⟨_, by first | rfl | (simp [errW_none, errW_some] <;> rfl) | (simp [*, errW_none, errW_some] <;> rfl), by (with_reducible repeat (first | apply Kd.R_alloc | apply Kd.R_drewN | apply Kd.R_drew)); exact Kd.R_mono HO139.out (fun _ hk => hk.1), by repeat (first | (with_reducible first | exact HB.out | apply below_alloc | apply pw_below_drewN | apply below_drew1) | exact HB.out), by repeat (first | (with_reducible first | exact HK.out | apply Kept.alloc | apply Kept.drewN | apply Kept.drew) | exact HK.out)⟩
      ·
       rw [if_neg c30] at H
       exact absurd H (by simp)
def utf8_AppendRune.f (k : Nat) (l0 : List Int) (a1 : Int) : Option (List Int) := if ((a1) % 4294967296) ≤ 127 then (if l0.length < 140737488355328 then (some (l0 ++ [(a1) % 256])) else (none)) else ((utf8_appendRuneNonASCII.f k l0 a1).bind fun t143 => (some t143))
set_option maxHeartbeats 8000000 in
set_option maxRecDepth 100000 in
theorem utf8_AppendRune.calls (k : Nat) (P0_ : Nat → Prop) (u9000_ : Value) (l0 : List Int) (a1 : Int) (r : List Int) (w0 w : World) (hB : Below w0.heap.size w0 w) (ho0 : Kd.R (Kd.int .u8) 5 w w0.heap.size P0_ u9000_ l0) (h : utf8_AppendRune.f k l0 a1 = some r) :
 Calls Tryd.prog 56 #[u9000_, .int .i32 a1] w fun e w' => ∃ v0_ : Value, e = .returned (v0_) ∧ Kd.R (Kd.int .u8) 5 w' w0.heap.size (fun k_ => (P0_ k_ ∨ w.heap.size ≤ k_)) v0_ r ∧ Below w0.heap.size w0 w' ∧ Kept w w' (fun k_ => P0_ k_) := by
 have HO0 := Aside0.mk (show Kd.R (Kd.int .u8) 5 w w0.heap.size (fun k_ => (P0_ k_ ∨ w.heap.size ≤ k_)) u9000_ l0 from Kd.R_mono ho0 (fun k_ hk => (.inl hk)))
 have HK := Aside0.mk (Kept.refl w (fun k_ => P0_ k_))
 have HW0 := Aside0.mk hB.size
 have HB := Aside0.mk hB
 clear hB
 have H : (if ((a1) % 4294967296) ≤ 127 then (if l0.length < 140737488355328 then (some (l0 ++ [(a1) % 256])) else (none)) else ((utf8_appendRuneNonASCII.f k l0 a1).bind fun t143 => (some t143))) = some r := h
 clear h
 by_cases c3 : ((a1) % 4294967296) ≤ 127
 ·
  rw [if_pos c3] at H
  have c3b0 : decide (((a1) % 4294967296) ≤ 127) = true := decide_eq_true c3
  clear c3
  by_cases c4 : l0.length < 140737488355328
  ·
   rw [if_pos c4] at H
   have LMc4 := Aside0.mk c4
   clear c4
   obtain ⟨y140, hy140⟩ : ∃ y_ : List Int, y_ = (l0 ++ [(a1) % 256]) := ⟨_, rfl⟩
   replace H : (some y140) = some r := by first | (rw [hy140]; with_reducible exact H) | (have H2_ := (Option.bind_some _ _).symm.trans H; rw [hy140]; with_reducible exact H2_) | (have H2_ := (Option.bind_some _ _).symm.trans H; with_reducible exact H2_) | with_reducible exact H | (rw [hy140]; exact H) | exact H
   have Ny140 := Aside0.mk hy140
   clear hy140
   obtain rfl := Option.some.inj H
   go_enter Tryd.func56, Tryd.ntmps56
   go_wp2_with (first | ((with_reducible refine gate_builtin (b := .append) (xs := #[.tmp 8, .tmp 11]) rfl ?_); at_builtin; refine Kd.R_append (Kd.int .u8) (w0 := w0) w0.heap.size rfl (.tmp 8) (.tmp 11) 44 5 (.int .u8 0) 1 rfl Tryd.underlying44 info5 rfl (by decide) (by omega) u9000_ l0 ((a1) % 256) [.int .u8 ((a1) % 256)] (fun k_ => (P0_ k_ ∨ w.heap.size ≤ k_)) (fun _ => False) rfl rfl ?aP (fun _ hk => hk.elim) ?aF ?aO ?aB ?aS ?aL ?_; (case aP => exact rfl); (case aB => exact (by repeat (first | (with_reducible first | exact HB.out | apply below_alloc | apply pw_below_drewN | apply below_drew1) | exact HB.out))); (case aF => exact (fun k_ hk => (.inr (Nat.le_trans (by first | exact HK.out.1 | exact (show Kept w _ (fun k_ => P0_ k_) from by repeat (first | (with_reducible first | exact HK.out | apply Kept.alloc | apply Kept.drewN | apply Kept.drew) | exact HK.out)).1) hk)))); (case aO => exact (by (with_reducible repeat (first | apply Kd.R_alloc | apply Kd.R_drewN | apply Kd.R_drew)); exact HO0.out)); (case aS => exact (below_size (by repeat (first | (with_reducible first | exact HB.out | apply below_alloc | apply pw_below_drewN | apply below_drew1) | exact HB.out)))); (case aL => have := LMc4.out; omega); intro v141 w5 ho hb hg hat; rw [← Ny140.out] at ho; have n0_ := Aside0.mk (hb); have n1_ := Aside0.mk (Kept.of_grown (S := (fun k_ => P0_ k_)) hg (by repeat (first | (with_reducible first | exact HK.out | apply Kept.alloc | apply Kept.drewN | apply Kept.drew) | exact HK.out)) (fun k_ e_ => (HO0.out.1 k_ e_))); have n2_ := Aside0.mk (ho); clear HB; clear HK; clear HO0; have HB := n0_; have HK := n1_; have HO142 := n2_; clear n0_ n1_ n2_; clear ho hb hg hat))
   go_ret
   exact ⟨_, by first | rfl | (simp [errW_none, errW_some] <;> rfl) | (simp [*, errW_none, errW_some] <;> rfl), by (with_reducible repeat (first | apply Kd.R_alloc | apply Kd.R_drewN | apply Kd.R_drew)); exact HO142.out, by repeat (first | (with_reducible first | exact HB.out | apply below_alloc | apply pw_below_drewN | apply below_drew1) | exact HB.out), by repeat (first | (with_reducible first | exact HK.out | apply Kept.alloc | apply Kept.drewN | apply Kept.drew) | exact HK.out)⟩
  ·
   rw [if_neg c4] at H
   exact absurd H (by simp)
 ·
  rw [if_neg c3] at H
  have c3b0 : decide (((a1) % 4294967296) ≤ 127) = false := decide_eq_false c3
  clear c3
  replace H := Option.bind_eq_some_iff.mp H
  obtain ⟨t143, A60, H⟩ := H
  replace H : (some t143) = some r := H
  have A6 := Aside0.mk A60
  clear A60
  obtain rfl := Option.some.inj H
  obtain ⟨Ao7, co7, eo7⟩ := Kd.R_slice HO0.out
  subst eo7
  go_enter Tryd.func56, Tryd.ntmps56
  go_wp2_with (first | ((with_reducible refine gate_callee (f := 62) rfl ?_); refine goesL_ (some 15) rfl rfl Tryd.func62 (by kernel_rfl) rfl #[.slice Ao7 l0.length co7, .int .i32 a1] rfl (by (try simp only [List.map_toArray, List.map_cons, List.map_nil]); first | done | rfl | (simp only [List.length_drop, List.length_take]; rfl)) ?_; (with_reducible refine (utf8_appendRuneNonASCII.calls k (fun k_ => some k_ = (.slice Ao7 l0.length co7 : Value).ownBlock) (.slice Ao7 l0.length co7) l0 a1 t143 w0 _ ?side1 ?side2 A6.out).mono ?_); (case side1 => repeat (first | (with_reducible first | exact HB.out | apply below_alloc | apply pw_below_drewN | apply below_drew1) | exact HB.out)); (case side2 => exact Kd.R_tight rfl HO0.out); rintro e w8 ⟨v144, rfl, ho0, hb, hkp⟩; refine ⟨_, rfl, ?_⟩; have n0_ := Aside0.mk (Kd.R_mono (ok' := fun k_ => (P0_ k_ ∨ w.heap.size ≤ k_)) ho0 (fun k_ hk_ => Or.elim hk_ (fun hs_ => (HO0.out.1 k_ (hs_).symm)) (fun hn_ => (.inr (Nat.le_trans (by first | exact HK.out.1 | exact (show Kept w _ (fun k_ => P0_ k_) from by repeat (first | (with_reducible first | exact HK.out | apply Kept.alloc | apply Kept.drewN | apply Kept.drew) | exact HK.out)).1) hn_))))); have n1_ := Aside0.mk (Kept.then_ (S := (fun k_ => P0_ k_)) (by repeat (first | (with_reducible first | exact HK.out | apply Kept.alloc | apply Kept.drewN | apply Kept.drew) | exact HK.out)) hkp (fun k_ hs_ => (fun e_ => (HO0.out.1 k_ e_.symm)) hs_)); have n2_ := Aside0.mk (hb); clear HK; clear HB; clear HO0; have HO145 := n0_; have HK := n1_; have HB := n2_; clear n0_ n1_ n2_; (try clear hb); (try clear hkp); (try clear ho0)))
  go_ret
  exact ⟨_, by first | rfl | (simp [errW_none, errW_some] <;> rfl) | (simp [*, errW_none, errW_some] <;> rfl), by (with_reducible repeat (first | apply Kd.R_alloc | apply Kd.R_drewN | apply Kd.R_drew)); exact HO145.out, by repeat (first | (with_reducible first | exact HB.out | apply below_alloc | apply pw_below_drewN | apply below_drew1) | exact HB.out), by repeat (first | (with_reducible first | exact HK.out | apply Kept.alloc | apply Kept.drewN | apply Kept.drew) | exact HK.out)⟩
end Go.Proofs.YtcoippikicikoaaDoor.PQPut
namespace Go.Proofs.YtcoippikicikoaaDoor.PQPut
open Go.RowKit Go.Proofs.YtcoippikicikoaaDoorW.PrintWords Go.Proofs.YtcoippikicikoaaDoorW.PrintLast Go.Proofs.YtcoippikicikoaaDoorW.PrintMore
attribute [local go_sem] max2_int min2_int max_two min_two
set_option linter.unusedVariables false
set_option linter.unusedSimpArgs false
mutual
def quote_put.j0 : Nat → List Int → Int → Bool → Bool → Option (List Int)
 | 0, _, _, _, _ => none
 | k + 1, x0, x1, x3, x9 => if x9 = true then ((some (([92, (x1) % 256] : List Int) : List Int)).bind fun y146 => (if x0.length + y146.length < 140737488355328 then (some (x0 ++ y146)) else (none))) else (if x1 ≥ 7 then (quote_put.j1 k x0 x1 x3 (decide (x1 ≤ 13))) else (quote_put.j1 k x0 x1 x3 false))
def quote_put.j1 : Nat → List Int → Int → Bool → Bool → Option (List Int)
 | 0, _, _, _, _ => none
 | k + 1, x0, x1, x3, x22 => if x22 = true then (if 0 ≤ (wrap32 (x1 - 7)) then (if (wrap32 (x1 - 7)) < 7 then ((some (([92, bt (⟨#[97, 98, 116, 110, 118, 102, 114]⟩ : ByteArray) (wrap32 (x1 - 7))] : List Int) : List Int)).bind fun y152 => (if x0.length + y152.length < 140737488355328 then (some (x0 ++ y152)) else (none))) else (none)) else (none)) else (if x1 < 127 then (quote_put.j2 k x0 x1 x3 (decide (x1 ≥ 32))) else (quote_put.j2 k x0 x1 x3 false))
def quote_put.j2 : Nat → List Int → Int → Bool → Bool → Option (List Int)
 | 0, _, _, _, _ => none
 | k + 1, x0, x1, x3, x35 => if x35 = true then (quote_put.j3 k x0 x1 x35) else (if x3 = true then (quote_put.j3 k x0 x1 false) else ((PQRef.quote_Plain.f k x1).bind fun t158 => (quote_put.j3 k x0 x1 t158)))
def quote_put.j3 : Nat → List Int → Int → Bool → Option (List Int)
 | 0, _, _, _ => none
 | k + 1, x0, x1, x35 => if x35 = true then ((utf8_AppendRune.f k x0 x1).bind fun t159 => (some t159)) else (if x1 < 128 then ((quote_escape.f k x0 120 x1 2).bind fun t162 => (some t162)) else (if x1 ≤ 65535 then ((quote_escape.f k x0 117 x1 4).bind fun t165 => (some t165)) else ((quote_escape.f k x0 85 x1 8).bind fun t168 => (some t168))))
end
def quote_put.f (k : Nat) (l0 : List Int) (a1 : Int) (a2 : Int) (a3 : Bool) : Option (List Int) := if a1 = a2 then (quote_put.j0 k l0 a1 a3 true) else (quote_put.j0 k l0 a1 a3 (a1 == 92))
set_option maxHeartbeats 8000000 in
set_option maxRecDepth 100000 in
theorem quote_put.calls (k : Nat) (P0_ : Nat → Prop) (u9000_ : Value) (l0 : List Int) (a1 : Int) (a2 : Int) (a3 : Bool) (r : List Int) (w0 w : World) (hB : Below w0.heap.size w0 w) (ho0 : Kd.R (Kd.int .u8) 5 w w0.heap.size P0_ u9000_ l0) (h : quote_put.f k l0 a1 a2 a3 = some r) :
 Calls Tryd.prog 41 #[u9000_, .int .i32 a1, .int .i32 a2, .bool a3] w fun e w' => ∃ v0_ : Value, e = .returned (v0_) ∧ Kd.R (Kd.int .u8) 5 w' w0.heap.size (fun k_ => (P0_ k_ ∨ w.heap.size ≤ k_)) v0_ r ∧ Below w0.heap.size w0 w' ∧ Kept w w' (fun k_ => P0_ k_) := by
 have HO0 := Aside0.mk (show Kd.R (Kd.int .u8) 5 w w0.heap.size (fun k_ => (P0_ k_ ∨ w.heap.size ≤ k_)) u9000_ l0 from Kd.R_mono ho0 (fun k_ hk => (.inl hk)))
 have HK := Aside0.mk (Kept.refl w (fun k_ => P0_ k_))
 have HW0 := Aside0.mk hB.size
 have HB := Aside0.mk hB
 clear hB
 have H : (if a1 = a2 then (quote_put.j0 k l0 a1 a3 true) else (quote_put.j0 k l0 a1 a3 (a1 == 92))) = some r := h
 clear h
 have HC5 := Aside0.mk H
 clear H
 go_enter Tryd.func41, Tryd.ntmps41
 go_upto_region 1 with (fail)
 go_cut [9] (fun v9 wc => ∃ (kq : Nat) (x9_4 : Bool), v9 = .bool x9_4 ∧ Aside0 (quote_put.j0 kq l0 a1 a3 x9_4 = some r) ∧ Aside0 (kq ≤ k) ∧ Aside0 (Kd.R (Kd.int .u8) 5 wc w0.heap.size (fun k_ => (P0_ k_ ∨ w.heap.size ≤ k_)) u9000_ l0) ∧ Aside0 (Kept w wc (fun k_ => P0_ k_)) ∧ Aside0 (Below w0.heap.size w0 wc))
 case first =>
  have H := HC5.out
  clear HC5
  by_cases c6 : a1 = a2
  ·
   rw [if_pos c6] at H
   have c6b0 : (a1 == a2) = true := beq_iff_eq.mpr c6
   have c6b1 : (a1 != a2) = false := bne_eq_false_iff_eq.mpr c6
   clear c6
   (first | rw [c6b0] | (simp only [i64_w, i32_w]; rw [c6b0]) | skip)
   have H' := Aside0.mk H
   clear H
   go_wp2
   (first | go_meet | (refine Met.intro ?_; go_step; (repeat apply Exists.intro); refine ⟨?rel, (by first | rfl | (simp only [c6b0]; rfl))⟩))
   case rel => exact ⟨_, (true), (by first | rfl | (simp; done) | (simp [*]; done)), H', ⟨by first | omega | exact Nat.le_refl _⟩, ⟨by (with_reducible repeat (first | apply Kd.R_alloc | apply Kd.R_drewN | apply Kd.R_drew)); exact HO0.out⟩, ⟨by repeat (first | (with_reducible first | exact HK.out | apply Kept.alloc | apply Kept.drewN | apply Kept.drew) | exact HK.out)⟩, ⟨by repeat (first | (with_reducible first | exact HB.out | apply below_alloc | apply pw_below_drewN | apply below_drew1) | exact HB.out)⟩⟩
  ·
   rw [if_neg c6] at H
   have c6b0 : (a1 == a2) = false := beq_eq_false_iff_ne.mpr c6
   have c6b1 : (a1 != a2) = true := bne_iff_ne.mpr c6
   (first | rw [c6b0] | (simp only [i64_w, i32_w]; rw [c6b0]) | skip)
   have H' := Aside0.mk H
   clear H
   go_wp2
   (first | go_meet | (refine Met.intro ?_; go_step; (repeat apply Exists.intro); refine ⟨?rel, (by first | rfl | (simp only [c6b0]; rfl))⟩))
   case rel => exact ⟨_, ((a1 == 92)), (by first | rfl | (simp; done) | (simp [*]; done)), H', ⟨by first | omega | exact Nat.le_refl _⟩, ⟨by (with_reducible repeat (first | apply Kd.R_alloc | apply Kd.R_drewN | apply Kd.R_drew)); exact HO0.out⟩, ⟨by repeat (first | (with_reducible first | exact HK.out | apply Kept.alloc | apply Kept.drewN | apply Kept.drew) | exact HK.out)⟩, ⟨by repeat (first | (with_reducible first | exact HB.out | apply below_alloc | apply pw_below_drewN | apply below_drew1) | exact HB.out)⟩⟩
 case rest =>
  clear HC5
  try clear p2
  try clear c4
  try clear c6
  try clear c6b0
  try clear c6b1
  obtain ⟨kq, x9_4, rfl, HA, HJ4, HO_0, HK, HB⟩ := hcut
  cases kq with
  | zero => exact absurd HA.out (by simp [quote_put.j0])
  | succ kj4 =>
   have H := HA.out
   clear HA
   simp only [quote_put.j0] at H
   by_cases c7 : x9_4 = true
   ·
    subst c7
    have H1 : ((some (([92, (a1) % 256] : List Int) : List Int)).bind fun y146 => (if l0.length + y146.length < 140737488355328 then (some (l0 ++ y146)) else (none))) = some r := by rw [if_pos rfl] at H; exact H
    clear H
    have H := H1
    clear H1
    obtain ⟨y146, hy146⟩ : ∃ y_ : List Int, y_ = (([92, (a1) % 256] : List Int)) := ⟨_, rfl⟩
    replace H : (if l0.length + y146.length < 140737488355328 then (some (l0 ++ y146)) else (none)) = some r := by first | (rw [hy146]; with_reducible exact H) | (have H2_ := (Option.bind_some _ _).symm.trans H; rw [hy146]; with_reducible exact H2_) | (have H2_ := (Option.bind_some _ _).symm.trans H; with_reducible exact H2_) | with_reducible exact H | (rw [hy146]; exact H) | exact H
    have Ny146 := Aside0.mk hy146
    clear hy146
    by_cases c8 : l0.length + y146.length < 140737488355328
    ·
     rw [if_pos c8] at H
     have LMc8 := Aside0.mk c8
     clear c8
     obtain ⟨y149, hy149⟩ : ∃ y_ : List Int, y_ = (l0 ++ y146) := ⟨_, rfl⟩
     replace H : (some y149) = some r := by first | (rw [hy149]; with_reducible exact H) | (have H2_ := (Option.bind_some _ _).symm.trans H; rw [hy149]; with_reducible exact H2_) | (have H2_ := (Option.bind_some _ _).symm.trans H; with_reducible exact H2_) | with_reducible exact H | (rw [hy149]; exact H) | exact H
     have Ny149 := Aside0.mk hy149
     clear hy149
     obtain rfl := Option.some.inj H
     go_wp2_with (first | ((with_reducible refine gate_dst (N := 20) rfl ?_); refine Kd.R_lit (Kd.int .u8) _ 5 ?hg (N := 20) ?hd (xs := ([92, (a1) % 256] : List Int)) (inner := [.int .u8 92, .int .u8 ((a1) % 256)]) (ok := fun _ => True) (okp := fun _ => True) ?hr ?hp (fun _ hk => hk) trivial (Below.refl _ _) (Nat.le_refl _) (by simp) ?_; (case hd => rfl); (case hg => rfl); (case hr => first | (go_simp; done) | (go_simp; rfl)); (case hp => exact (Reps.one (show Kd.M (Kd.int .u8) _ _ _ 92 [.int .u8 92] from rfl) (Reps.one (show Kd.M (Kd.int .u8) _ _ _ ((a1) % 256) [.int .u8 ((a1) % 256)] from rfl) (Reps.none _ _)))); intro v147 w9 ho10 hb hg_ hnew_; clear hg_ hnew_; (first | rw [← Ny146.out] at ho10 | (simp only [Int.reduceToNat] at ho10; rw [← Ny146.out] at ho10)); have n0_ := Aside0.mk (Kd.R_elder' (by (with_reducible repeat (first | apply Kd.R_alloc | apply Kd.R_drewN | apply Kd.R_drew)); exact HO_0.out) (Kd.R_base ho10) hb); have n1_ := Aside0.mk (Kd.R_lower (Kd.R_new' (Kd.R_newM (M := fun k_ => (P0_ k_ ∨ w.heap.size ≤ k_)) ho10 (by first | exact HK.out.1 | exact (show Kept w _ (fun k_ => P0_ k_) from by repeat (first | (with_reducible first | exact HK.out | apply Kept.alloc | apply Kept.drewN | apply Kept.drew) | exact HK.out)).1) (fun k_ h_ => .inr h_)) (Kd.R_lt (by (with_reducible repeat (first | apply Kd.R_alloc | apply Kd.R_drewN | apply Kd.R_drew)); exact HO_0.out))) (below_size (by repeat (first | (with_reducible first | exact HB.out | apply below_alloc | apply pw_below_drewN | apply below_drew1) | exact HB.out)))); have n2_ := Aside0.mk (Kept.below (S := (fun k_ => P0_ k_)) (by repeat (first | (with_reducible first | exact HK.out | apply Kept.alloc | apply Kept.drewN | apply Kept.drew) | exact HK.out)) hb); have n3_ := Aside0.mk (below_step (by repeat (first | (with_reducible first | exact HB.out | apply below_alloc | apply pw_below_drewN | apply below_drew1) | exact HB.out)) hb); clear HO_0; clear HK; clear HB; have HO_0 := n0_; have HO148 := n1_; have HK := n2_; have HB := n3_; clear n0_ n1_ n2_ n3_; clear hb ho10; obtain ⟨Ao12, co12, eo12⟩ := Kd.R_slice HO148.out; subst eo12) | ((with_reducible refine gate_builtin (b := .append) (xs := #[.tmp 17, .tmp 20]) rfl ?_); at_builtin; refine Kd.R_append_rows (Kd.int .u8) (w0 := w0) w0.heap.size rfl (.tmp 17) (.tmp 20) 44 5 (.int .u8 0) 1 rfl Tryd.underlying44 info5 rfl (by decide) (by omega) u9000_ l0 y146 _ _ _ (fun k_ => (P0_ k_ ∨ w.heap.size ≤ k_) ∧ some k_ ≠ (.slice Ao12 y146.length co12 : Value).ownBlock) (fun _ => False) rfl rfl ?aO ?aR (fun _ _ h => h) (fun _ h => h.elim) ?aF ?aB ?aS ?aL ?_; (case aR => repeat (first | exact (Kd.R_reads' HO148.out).2.2 | (with_reducible refine Kd.C_alloc ?_ _) | (with_reducible refine Kd.C_drewN ?_ _) | (with_reducible refine Kd.C_drew ?_))); (case aB => exact (by repeat (first | (with_reducible first | exact HB.out | apply below_alloc | apply pw_below_drewN | apply below_drew1) | exact HB.out))); (case aF => exact (fun k_ hk => ⟨(.inr (Nat.le_trans (by first | exact HK.out.1 | exact (show Kept w _ (fun k_ => P0_ k_) from by repeat (first | (with_reducible first | exact HK.out | apply Kept.alloc | apply Kept.drewN | apply Kept.drew) | exact HK.out)).1) hk)), Kd.fresh' (Kd.R_lt (by (with_reducible repeat (first | apply Kd.R_alloc | apply Kd.R_drewN | apply Kd.R_drew)); exact HO148.out)) k_ hk⟩)); (case aO => exact (by (with_reducible repeat (first | apply Kd.R_alloc | apply Kd.R_drewN | apply Kd.R_drew)); exact HO_0.out)); (case aS => exact (below_size (by repeat (first | (with_reducible first | exact HB.out | apply below_alloc | apply pw_below_drewN | apply below_drew1) | exact HB.out)))); (case aL => have := LMc8.out; omega); intro v150 w11 ho hb hg hat; rw [← Ny149.out] at ho; have n0_ := Aside0.mk (Kd.R_after (ok := (fun k_ => (P0_ k_ ∨ w.heap.size ≤ k_))) (by (with_reducible repeat (first | apply Kd.R_alloc | apply Kd.R_drewN | apply Kd.R_drew)); exact Kd.R_mono HO148.out (fun _ hk => ⟨hk.1.1, hk.2⟩)) hg hat); have n1_ := Aside0.mk (hb); have n2_ := Aside0.mk (Kept.of_grown (S := (fun k_ => P0_ k_)) hg (by repeat (first | (with_reducible first | exact HK.out | apply Kept.alloc | apply Kept.drewN | apply Kept.drew) | exact HK.out)) (fun k_ e_ => (HO_0.out.1 k_ e_).1)); have n3_ := Aside0.mk (ho); clear HO148; clear HB; clear HK; clear HO_0; have HO148 := n0_; have HB := n1_; have HK := n2_; have HO151 := n3_; clear n0_ n1_ n2_ n3_; clear ho hb hg hat))
     go_ret
     exact ⟨_, by first | rfl | (simp [errW_none, errW_some] <;> rfl) | (simp [*, errW_none, errW_some] <;> rfl), by (with_reducible repeat (first | apply Kd.R_alloc | apply Kd.R_drewN | apply Kd.R_drew)); exact Kd.R_mono HO151.out (fun _ hk => hk.1), by repeat (first | (with_reducible first | exact HB.out | apply below_alloc | apply pw_below_drewN | apply below_drew1) | exact HB.out), by repeat (first | (with_reducible first | exact HK.out | apply Kept.alloc | apply Kept.drewN | apply Kept.drew) | exact HK.out)⟩
    ·
     rw [if_neg c8] at H
     exact absurd H (by simp)
   ·
    replace c7 := Bool.eq_false_iff.mpr c7
    subst c7
    have H1 : (if a1 ≥ 7 then (quote_put.j1 kj4 l0 a1 a3 (decide (a1 ≤ 13))) else (quote_put.j1 kj4 l0 a1 a3 false)) = some r := by rw [if_neg (show ¬ (false = true) by decide)] at H; exact H
    clear H
    have H := H1
    clear H1
    have HC13 := Aside0.mk H
    clear H
    go_upto_region 3 with (fail)
    go_cut [22] (fun v22 wc => ∃ (kq : Nat) (x22_12 : Bool), v22 = .bool x22_12 ∧ Aside0 (quote_put.j1 kq l0 a1 a3 x22_12 = some r) ∧ Aside0 (kq ≤ kj4) ∧ Aside0 (Kd.R (Kd.int .u8) 5 wc w0.heap.size (fun k_ => (P0_ k_ ∨ w.heap.size ≤ k_)) u9000_ l0) ∧ Aside0 (Kept w wc (fun k_ => P0_ k_)) ∧ Aside0 (Below w0.heap.size w0 wc))
    case first =>
     have H := HC13.out
     clear HC13
     by_cases c14 : a1 ≥ 7
     ·
      rw [if_pos c14] at H
      have c14b0 : decide (7 ≤ a1) = true := decide_eq_true c14
      clear c14
      (first | rw [c14b0] | (simp only [i64_w, i32_w]; rw [c14b0]) | skip)
      have H' := Aside0.mk H
      clear H
      go_wp2
      go_meet
      case rel => exact ⟨_, (decide (a1 ≤ 13)), (by first | rfl | (simp; done) | (simp [*]; done)), H', ⟨by have := HJ4.out; first | omega | exact Nat.le_refl _⟩, ⟨by (with_reducible repeat (first | apply Kd.R_alloc | apply Kd.R_drewN | apply Kd.R_drew)); exact HO_0.out⟩, ⟨by repeat (first | (with_reducible first | exact HK.out | apply Kept.alloc | apply Kept.drewN | apply Kept.drew) | exact HK.out)⟩, ⟨by repeat (first | (with_reducible first | exact HB.out | apply below_alloc | apply pw_below_drewN | apply below_drew1) | exact HB.out)⟩⟩
     ·
      rw [if_neg c14] at H
      have c14b0 : decide (7 ≤ a1) = false := decide_eq_false c14
      clear c14
      (first | rw [c14b0] | (simp only [i64_w, i32_w]; rw [c14b0]) | skip)
      have H' := Aside0.mk H
      clear H
      go_wp2
      go_meet
      case rel => exact ⟨_, (false), (by first | rfl | (simp; done) | (simp [*]; done)), H', ⟨by have := HJ4.out; first | omega | exact Nat.le_refl _⟩, ⟨by (with_reducible repeat (first | apply Kd.R_alloc | apply Kd.R_drewN | apply Kd.R_drew)); exact HO_0.out⟩, ⟨by repeat (first | (with_reducible first | exact HK.out | apply Kept.alloc | apply Kept.drewN | apply Kept.drew) | exact HK.out)⟩, ⟨by repeat (first | (with_reducible first | exact HB.out | apply below_alloc | apply pw_below_drewN | apply below_drew1) | exact HB.out)⟩⟩
    case rest =>
     clear HC13
     try clear c1
     try clear p2
     try clear c4
     try clear c6
     try clear c6b0
     try clear c6b1
     try clear c7
     try clear c8
     try clear c14
     try clear c14b0
     try clear p2
     obtain ⟨kq, x22_12, rfl, HA, HJ12, HO_0, HK, HB⟩ := hcut
     cases kq with
     | zero => exact absurd HA.out (by simp [quote_put.j1])
     | succ kj12 =>
      have H := HA.out
      clear HA
      simp only [quote_put.j1] at H
      by_cases c15 : x22_12 = true
      ·
       subst c15
       have H1 : (if 0 ≤ (wrap32 (a1 - 7)) then (if (wrap32 (a1 - 7)) < 7 then ((some (([92, bt (⟨#[97, 98, 116, 110, 118, 102, 114]⟩ : ByteArray) (wrap32 (a1 - 7))] : List Int) : List Int)).bind fun y152 => (if l0.length + y152.length < 140737488355328 then (some (l0 ++ y152)) else (none))) else (none)) else (none)) = some r := by rw [if_pos rfl] at H; exact H
       clear H
       have H := H1
       clear H1
       obtain ⟨ji16, hji16⟩ : ∃ j_ : Int, (wrap32 (a1 - 7)) = j_ := ⟨_, rfl⟩
       replace H : (if 0 ≤ (ji16) then (if (ji16) < 7 then ((some (([92, bt (⟨#[97, 98, 116, 110, 118, 102, 114]⟩ : ByteArray) (ji16)] : List Int) : List Int)).bind fun y152 => (if l0.length + y152.length < 140737488355328 then (some (l0 ++ y152)) else (none))) else (none)) else (none)) = some r := by first | (rw [hji16] at H; exact H) | (simp only [hji16] at H ⊢; exact H)
       have hji16w : (IntKind.i32.wrap (a1 - 7)) = ji16 := (i32_w _).trans hji16
       by_cases c17 : 0 ≤ (ji16)
       ·
        rw [if_pos c17] at H
        have c17b0 : decide (0 ≤ (ji16)) = true := decide_eq_true c17
        clear c17
        by_cases c18 : (ji16) < 7
        ·
         rw [if_pos c18] at H
         have c18b0 : decide ((ji16) < 7) = true := decide_eq_true c18
         clear c18
         obtain ⟨y152, hy152⟩ : ∃ y_ : List Int, y_ = (([92, bt (⟨#[97, 98, 116, 110, 118, 102, 114]⟩ : ByteArray) (ji16)] : List Int)) := ⟨_, rfl⟩
         replace H : (if l0.length + y152.length < 140737488355328 then (some (l0 ++ y152)) else (none)) = some r := by first | (rw [hy152]; with_reducible exact H) | (have H2_ := (Option.bind_some _ _).symm.trans H; rw [hy152]; with_reducible exact H2_) | (have H2_ := (Option.bind_some _ _).symm.trans H; with_reducible exact H2_) | with_reducible exact H | (rw [hy152]; exact H) | exact H
         have Ny152 := Aside0.mk hy152
         clear hy152
         by_cases c20 : l0.length + y152.length < 140737488355328
         ·
          rw [if_pos c20] at H
          have LMc20 := Aside0.mk c20
          clear c20
          obtain ⟨y155, hy155⟩ : ∃ y_ : List Int, y_ = (l0 ++ y152) := ⟨_, rfl⟩
          replace H : (some y155) = some r := by first | (rw [hy155]; with_reducible exact H) | (have H2_ := (Option.bind_some _ _).symm.trans H; rw [hy155]; with_reducible exact H2_) | (have H2_ := (Option.bind_some _ _).symm.trans H; with_reducible exact H2_) | with_reducible exact H | (rw [hy155]; exact H) | exact H
          have Ny155 := Aside0.mk hy155
          clear hy155
          obtain rfl := Option.some.inj H
          have p19 : 0 ≤ ((ji16) : Int) := of_decide_eq_true (by first | (with_reducible assumption) | assumption)
          have q19 : (ji16) < (7 : Int) := of_decide_eq_true (by first | (with_reducible assumption) | assumption)
          have hx19 := bt_at (⟨#[97, 98, 116, 110, 118, 102, 114]⟩ : ByteArray) (ji16)
          replace p19 := eq_true p19
          replace q19 := eq_true q19
          go_wp2_with (first | ((with_reducible refine gate_dst (N := 33) rfl ?_); refine Kd.R_lit (Kd.int .u8) _ 5 ?hg (N := 33) ?hd (xs := ([92, bt (⟨#[97, 98, 116, 110, 118, 102, 114]⟩ : ByteArray) (ji16)] : List Int)) (inner := [.int .u8 92, .int .u8 (bt (⟨#[97, 98, 116, 110, 118, 102, 114]⟩ : ByteArray) (ji16))]) (ok := fun _ => True) (okp := fun _ => True) ?hr ?hp (fun _ hk => hk) trivial (Below.refl _ _) (Nat.le_refl _) (by simp) ?_; (case hd => rfl); (case hg => rfl); (case hr => first | (go_simp; done) | (go_simp; rfl)); (case hp => exact (Reps.one (show Kd.M (Kd.int .u8) _ _ _ 92 [.int .u8 92] from rfl) (Reps.one (show Kd.M (Kd.int .u8) _ _ _ (bt (⟨#[97, 98, 116, 110, 118, 102, 114]⟩ : ByteArray) (ji16)) [.int .u8 (bt (⟨#[97, 98, 116, 110, 118, 102, 114]⟩ : ByteArray) (ji16))] from rfl) (Reps.none _ _)))); intro v153 w21 ho22 hb hg_ hnew_; clear hg_ hnew_; (first | rw [← Ny152.out] at ho22 | (simp only [Int.reduceToNat] at ho22; rw [← Ny152.out] at ho22)); have n0_ := Aside0.mk (Kd.R_elder' (by (with_reducible repeat (first | apply Kd.R_alloc | apply Kd.R_drewN | apply Kd.R_drew)); exact HO_0.out) (Kd.R_base ho22) hb); have n1_ := Aside0.mk (Kd.R_lower (Kd.R_new' (Kd.R_newM (M := fun k_ => (P0_ k_ ∨ w.heap.size ≤ k_)) ho22 (by first | exact HK.out.1 | exact (show Kept w _ (fun k_ => P0_ k_) from by repeat (first | (with_reducible first | exact HK.out | apply Kept.alloc | apply Kept.drewN | apply Kept.drew) | exact HK.out)).1) (fun k_ h_ => .inr h_)) (Kd.R_lt (by (with_reducible repeat (first | apply Kd.R_alloc | apply Kd.R_drewN | apply Kd.R_drew)); exact HO_0.out))) (below_size (by repeat (first | (with_reducible first | exact HB.out | apply below_alloc | apply pw_below_drewN | apply below_drew1) | exact HB.out)))); have n2_ := Aside0.mk (Kept.below (S := (fun k_ => P0_ k_)) (by repeat (first | (with_reducible first | exact HK.out | apply Kept.alloc | apply Kept.drewN | apply Kept.drew) | exact HK.out)) hb); have n3_ := Aside0.mk (below_step (by repeat (first | (with_reducible first | exact HB.out | apply below_alloc | apply pw_below_drewN | apply below_drew1) | exact HB.out)) hb); clear HO_0; clear HK; clear HB; have HO_0 := n0_; have HO154 := n1_; have HK := n2_; have HB := n3_; clear n0_ n1_ n2_ n3_; clear hb ho22; obtain ⟨Ao24, co24, eo24⟩ := Kd.R_slice HO154.out; subst eo24) | ((with_reducible refine gate_builtin (b := .append) (xs := #[.tmp 29, .tmp 33]) rfl ?_); at_builtin; refine Kd.R_append_rows (Kd.int .u8) (w0 := w0) w0.heap.size rfl (.tmp 29) (.tmp 33) 44 5 (.int .u8 0) 1 rfl Tryd.underlying44 info5 rfl (by decide) (by omega) u9000_ l0 y152 _ _ _ (fun k_ => (P0_ k_ ∨ w.heap.size ≤ k_) ∧ some k_ ≠ (.slice Ao24 y152.length co24 : Value).ownBlock) (fun _ => False) rfl rfl ?aO ?aR (fun _ _ h => h) (fun _ h => h.elim) ?aF ?aB ?aS ?aL ?_; (case aR => repeat (first | exact (Kd.R_reads' HO154.out).2.2 | (with_reducible refine Kd.C_alloc ?_ _) | (with_reducible refine Kd.C_drewN ?_ _) | (with_reducible refine Kd.C_drew ?_))); (case aB => exact (by repeat (first | (with_reducible first | exact HB.out | apply below_alloc | apply pw_below_drewN | apply below_drew1) | exact HB.out))); (case aF => exact (fun k_ hk => ⟨(.inr (Nat.le_trans (by first | exact HK.out.1 | exact (show Kept w _ (fun k_ => P0_ k_) from by repeat (first | (with_reducible first | exact HK.out | apply Kept.alloc | apply Kept.drewN | apply Kept.drew) | exact HK.out)).1) hk)), Kd.fresh' (Kd.R_lt (by (with_reducible repeat (first | apply Kd.R_alloc | apply Kd.R_drewN | apply Kd.R_drew)); exact HO154.out)) k_ hk⟩)); (case aO => exact (by (with_reducible repeat (first | apply Kd.R_alloc | apply Kd.R_drewN | apply Kd.R_drew)); exact HO_0.out)); (case aS => exact (below_size (by repeat (first | (with_reducible first | exact HB.out | apply below_alloc | apply pw_below_drewN | apply below_drew1) | exact HB.out)))); (case aL => have := LMc20.out; omega); intro v156 w23 ho hb hg hat; rw [← Ny155.out] at ho; have n0_ := Aside0.mk (Kd.R_after (ok := (fun k_ => (P0_ k_ ∨ w.heap.size ≤ k_))) (by (with_reducible repeat (first | apply Kd.R_alloc | apply Kd.R_drewN | apply Kd.R_drew)); exact Kd.R_mono HO154.out (fun _ hk => ⟨hk.1.1, hk.2⟩)) hg hat); have n1_ := Aside0.mk (hb); have n2_ := Aside0.mk (Kept.of_grown (S := (fun k_ => P0_ k_)) hg (by repeat (first | (with_reducible first | exact HK.out | apply Kept.alloc | apply Kept.drewN | apply Kept.drew) | exact HK.out)) (fun k_ e_ => (HO_0.out.1 k_ e_).1)); have n3_ := Aside0.mk (ho); clear HO154; clear HB; clear HK; clear HO_0; have HO154 := n0_; have HB := n1_; have HK := n2_; have HO157 := n3_; clear n0_ n1_ n2_ n3_; clear ho hb hg hat))
          go_ret
          exact ⟨_, by first | rfl | (simp [errW_none, errW_some] <;> rfl) | (simp only [← hji16]; first | rfl | (simp [errW_none, errW_some] <;> rfl)) | (simp [*, errW_none, errW_some] <;> rfl), by (with_reducible repeat (first | apply Kd.R_alloc | apply Kd.R_drewN | apply Kd.R_drew)); exact Kd.R_mono HO157.out (fun _ hk => hk.1), by repeat (first | (with_reducible first | exact HB.out | apply below_alloc | apply pw_below_drewN | apply below_drew1) | exact HB.out), by repeat (first | (with_reducible first | exact HK.out | apply Kept.alloc | apply Kept.drewN | apply Kept.drew) | exact HK.out)⟩
         ·
          rw [if_neg c20] at H
          exact absurd H (by simp)
        ·
         rw [if_neg c18] at H
         exact absurd H (by simp)
       ·
        rw [if_neg c17] at H
        exact absurd H (by simp)
      ·
       replace c15 := Bool.eq_false_iff.mpr c15
       subst c15
       have H1 : (if a1 < 127 then (quote_put.j2 kj12 l0 a1 a3 (decide (a1 ≥ 32))) else (quote_put.j2 kj12 l0 a1 a3 false)) = some r := by rw [if_neg (show ¬ (false = true) by decide)] at H; exact H
       clear H
       have H := H1
       clear H1
       have HC25 := Aside0.mk H
       clear H
       go_upto_region 5 with (fail)
       go_cut [35] (fun v35 wc => ∃ (kq : Nat) (x35_24 : Bool), v35 = .bool x35_24 ∧ Aside0 (quote_put.j2 kq l0 a1 a3 x35_24 = some r) ∧ Aside0 (kq ≤ kj12) ∧ Aside0 (Kd.R (Kd.int .u8) 5 wc w0.heap.size (fun k_ => (P0_ k_ ∨ w.heap.size ≤ k_)) u9000_ l0) ∧ Aside0 (Kept w wc (fun k_ => P0_ k_)) ∧ Aside0 (Below w0.heap.size w0 wc))
       case first =>
        have H := HC25.out
        clear HC25
        by_cases c26 : a1 < 127
        ·
         rw [if_pos c26] at H
         have c26b0 : decide (a1 < 127) = true := decide_eq_true c26
         clear c26
         (first | rw [c26b0] | (simp only [i64_w, i32_w]; rw [c26b0]) | skip)
         have H' := Aside0.mk H
         clear H
         go_wp2
         go_meet
         case rel => exact ⟨_, (decide (a1 ≥ 32)), (by first | rfl | (simp; done) | (simp [*]; done)), H', ⟨by have := HJ4.out; have := HJ12.out; first | omega | exact Nat.le_refl _⟩, ⟨by (with_reducible repeat (first | apply Kd.R_alloc | apply Kd.R_drewN | apply Kd.R_drew)); exact HO_0.out⟩, ⟨by repeat (first | (with_reducible first | exact HK.out | apply Kept.alloc | apply Kept.drewN | apply Kept.drew) | exact HK.out)⟩, ⟨by repeat (first | (with_reducible first | exact HB.out | apply below_alloc | apply pw_below_drewN | apply below_drew1) | exact HB.out)⟩⟩
        ·
         rw [if_neg c26] at H
         have c26b0 : decide (a1 < 127) = false := decide_eq_false c26
         clear c26
         (first | rw [c26b0] | (simp only [i64_w, i32_w]; rw [c26b0]) | skip)
         have H' := Aside0.mk H
         clear H
         go_wp2
         go_meet
         case rel => exact ⟨_, (false), (by first | rfl | (simp; done) | (simp [*]; done)), H', ⟨by have := HJ4.out; have := HJ12.out; first | omega | exact Nat.le_refl _⟩, ⟨by (with_reducible repeat (first | apply Kd.R_alloc | apply Kd.R_drewN | apply Kd.R_drew)); exact HO_0.out⟩, ⟨by repeat (first | (with_reducible first | exact HK.out | apply Kept.alloc | apply Kept.drewN | apply Kept.drew) | exact HK.out)⟩, ⟨by repeat (first | (with_reducible first | exact HB.out | apply below_alloc | apply pw_below_drewN | apply below_drew1) | exact HB.out)⟩⟩
       case rest =>
        clear HC25
        try clear c1
        try clear p1
        try clear q1
        try clear hx1
        try clear c2
        try clear p2
        try clear p3
        try clear c4
        try clear c6
        try clear c6b0
        try clear c6b1
        try clear c7
        try clear c8
        try clear c14
        try clear c14b0
        try clear c15
        try clear c17
        try clear c17b0
        try clear c18
        try clear c18b0
        try clear p19
        try clear q19
        try clear hx19
        try clear c20
        try clear c26
        try clear c26b0
        try clear p19
        try clear p2
        try clear q19
        obtain ⟨kq, x35_24, rfl, HA, HJ24, HO_0, HK, HB⟩ := hcut
        cases kq with
        | zero => exact absurd HA.out (by simp [quote_put.j2])
        | succ kj24 =>
         have H := HA.out
         clear HA
         simp only [quote_put.j2] at H
         have HC27 := Aside0.mk H
         clear H
         go_upto_if 35 with (fail)
         go_cut [35] (fun v35 wc => ∃ (kq : Nat) (x35_26 : Bool), v35 = .bool x35_26 ∧ Aside0 (quote_put.j3 kq l0 a1 x35_26 = some r) ∧ Aside0 (kq ≤ kj24) ∧ Aside0 (Kd.R (Kd.int .u8) 5 wc w0.heap.size (fun k_ => (P0_ k_ ∨ w.heap.size ≤ k_)) u9000_ l0) ∧ Aside0 (Kept w wc (fun k_ => P0_ k_)) ∧ Aside0 (Below w0.heap.size w0 wc))
         case first =>
          have H := HC27.out
          clear HC27
          by_cases c28 : x35_24 = true
          ·
           subst c28
           have H1 : (quote_put.j3 kj24 l0 a1 true) = some r := by rw [if_pos rfl] at H; exact H
           clear H
           have H := H1
           clear H1
           have H' := Aside0.mk H
           clear H
           go_wp2
           go_meet
           case rel => exact ⟨_, (true), (by first | rfl | (simp; done) | (simp [*]; done)), H', ⟨by have := HJ4.out; have := HJ12.out; have := HJ24.out; first | omega | exact Nat.le_refl _⟩, ⟨by (with_reducible repeat (first | apply Kd.R_alloc | apply Kd.R_drewN | apply Kd.R_drew)); exact HO_0.out⟩, ⟨by repeat (first | (with_reducible first | exact HK.out | apply Kept.alloc | apply Kept.drewN | apply Kept.drew) | exact HK.out)⟩, ⟨by repeat (first | (with_reducible first | exact HB.out | apply below_alloc | apply pw_below_drewN | apply below_drew1) | exact HB.out)⟩⟩
          ·
           replace c28 := Bool.eq_false_iff.mpr c28
           subst c28
           have H1 : (if a3 = true then (quote_put.j3 kj24 l0 a1 false) else ((PQRef.quote_Plain.f kj24 a1).bind fun t158 => (quote_put.j3 kj24 l0 a1 t158))) = some r := by rw [if_neg (show ¬ (false = true) by decide)] at H; exact H
           clear H
           have H := H1
           clear H1
           by_cases c29 : a3 = true
           ·
            subst c29
            have H1 : (quote_put.j3 kj24 l0 a1 false) = some r := by rw [if_pos rfl] at H; exact H
            clear H
            have H := H1
            clear H1
            have H' := Aside0.mk H
            clear H
            go_wp2
            go_meet
            case rel => exact ⟨_, (false), (by first | rfl | (simp; done) | (simp [*]; done)), H', ⟨by have := HJ4.out; have := HJ12.out; have := HJ24.out; first | omega | exact Nat.le_refl _⟩, ⟨by (with_reducible repeat (first | apply Kd.R_alloc | apply Kd.R_drewN | apply Kd.R_drew)); exact HO_0.out⟩, ⟨by repeat (first | (with_reducible first | exact HK.out | apply Kept.alloc | apply Kept.drewN | apply Kept.drew) | exact HK.out)⟩, ⟨by repeat (first | (with_reducible first | exact HB.out | apply below_alloc | apply pw_below_drewN | apply below_drew1) | exact HB.out)⟩⟩
           ·
            replace c29 := Bool.eq_false_iff.mpr c29
            subst c29
            have H1 : ((PQRef.quote_Plain.f kj24 a1).bind fun t158 => (quote_put.j3 kj24 l0 a1 t158)) = some r := by rw [if_neg (show ¬ (false = true) by decide)] at H; exact H
            clear H
            have H := H1
            clear H1
            replace H := Option.bind_eq_some_iff.mp H
            obtain ⟨t158, A300, H⟩ := H
            replace H : (quote_put.j3 kj24 l0 a1 t158) = some r := H
            have A30 := Aside0.mk A300
            clear A300
            have H' := Aside0.mk H
            clear H
            go_wp2_with (first | (go_at_call 25; (with_reducible refine (PQRef.quote_Plain.calls kj24 a1 t158 _ A30.out).mono ?_); rintro e w' ⟨rfl, ⟨nd, rfl⟩⟩))
            go_meet
            case rel => exact ⟨_, (t158), (by first | rfl | (simp; done) | (simp [*]; done)), H', ⟨by have := HJ4.out; have := HJ12.out; have := HJ24.out; first | omega | exact Nat.le_refl _⟩, ⟨by (with_reducible repeat (first | apply Kd.R_alloc | apply Kd.R_drewN | apply Kd.R_drew)); exact HO_0.out⟩, ⟨by repeat (first | (with_reducible first | exact HK.out | apply Kept.alloc | apply Kept.drewN | apply Kept.drew) | exact HK.out)⟩, ⟨by repeat (first | (with_reducible first | exact HB.out | apply below_alloc | apply pw_below_drewN | apply below_drew1) | exact HB.out)⟩⟩
         case rest =>
          clear HC27
          try clear c1
          try clear p1
          try clear q1
          try clear hx1
          try clear c2
          try clear p2
          try clear p3
          try clear c4
          try clear c6
          try clear c6b0
          try clear c6b1
          try clear c7
          try clear c8
          try clear c14
          try clear c14b0
          try clear c15
          try clear c17
          try clear c17b0
          try clear c18
          try clear c18b0
          try clear p19
          try clear q19
          try clear hx19
          try clear c20
          try clear c26
          try clear c26b0
          try clear c28
          try clear c29
          try clear p1
          try clear p19
          try clear p2
          try clear p3
          try clear q1
          try clear q19
          obtain ⟨kq, x35_26, rfl, HA, HJ26, HO_0, HK, HB⟩ := hcut
          cases kq with
          | zero => exact absurd HA.out (by simp [quote_put.j3])
          | succ kj26 =>
           have H := HA.out
           clear HA
           simp only [quote_put.j3] at H
           by_cases c31 : x35_26 = true
           ·
            subst c31
            have H1 : ((utf8_AppendRune.f kj26 l0 a1).bind fun t159 => (some t159)) = some r := by rw [if_pos rfl] at H; exact H
            clear H
            have H := H1
            clear H1
            replace H := Option.bind_eq_some_iff.mp H
            obtain ⟨t159, A320, H⟩ := H
            replace H : (some t159) = some r := H
            have A32 := Aside0.mk A320
            clear A320
            obtain rfl := Option.some.inj H
            obtain ⟨Ao33, co33, eo33⟩ := Kd.R_slice HO_0.out
            subst eo33
            go_wp2_with (first | ((with_reducible refine gate_callee (f := 56) rfl ?_); refine goesL_ (some 50) rfl rfl Tryd.func56 (by kernel_rfl) rfl #[.slice Ao33 l0.length co33, .int .i32 a1] rfl (by (try simp only [List.map_toArray, List.map_cons, List.map_nil]); first | done | rfl | (simp only [List.length_drop, List.length_take]; rfl)) ?_; (with_reducible refine (utf8_AppendRune.calls kj26 (fun k_ => some k_ = (.slice Ao33 l0.length co33 : Value).ownBlock) (.slice Ao33 l0.length co33) l0 a1 t159 w0 _ ?side1 ?side2 A32.out).mono ?_); (case side1 => repeat (first | (with_reducible first | exact HB.out | apply below_alloc | apply pw_below_drewN | apply below_drew1) | exact HB.out)); (case side2 => exact Kd.R_tight rfl HO_0.out); rintro e w34 ⟨v160, rfl, ho0, hb, hkp⟩; refine ⟨_, rfl, ?_⟩; have n0_ := Aside0.mk (Kd.R_mono (ok' := fun k_ => (P0_ k_ ∨ w.heap.size ≤ k_)) ho0 (fun k_ hk_ => Or.elim hk_ (fun hs_ => (HO_0.out.1 k_ (hs_).symm)) (fun hn_ => (.inr (Nat.le_trans (by first | exact HK.out.1 | exact (show Kept w _ (fun k_ => P0_ k_) from by repeat (first | (with_reducible first | exact HK.out | apply Kept.alloc | apply Kept.drewN | apply Kept.drew) | exact HK.out)).1) hn_))))); have n1_ := Aside0.mk (Kept.then_ (S := (fun k_ => P0_ k_)) (by repeat (first | (with_reducible first | exact HK.out | apply Kept.alloc | apply Kept.drewN | apply Kept.drew) | exact HK.out)) hkp (fun k_ hs_ => (fun e_ => (HO_0.out.1 k_ e_.symm)) hs_)); have n2_ := Aside0.mk (hb); clear HK; clear HB; clear HO_0; have HO161 := n0_; have HK := n1_; have HB := n2_; clear n0_ n1_ n2_; (try clear hb); (try clear hkp); (try clear ho0)))
            go_ret
            exact ⟨_, by first | rfl | (simp [errW_none, errW_some] <;> rfl) | (simp [*, errW_none, errW_some] <;> rfl), by (with_reducible repeat (first | apply Kd.R_alloc | apply Kd.R_drewN | apply Kd.R_drew)); exact HO161.out, by repeat (first | (with_reducible first | exact HB.out | apply below_alloc | apply pw_below_drewN | apply below_drew1) | exact HB.out), by repeat (first | (with_reducible first | exact HK.out | apply Kept.alloc | apply Kept.drewN | apply Kept.drew) | exact HK.out)⟩
           ·
            replace c31 := Bool.eq_false_iff.mpr c31
            subst c31
            have H1 : (if a1 < 128 then ((quote_escape.f kj26 l0 120 a1 2).bind fun t162 => (some t162)) else (if a1 ≤ 65535 then ((quote_escape.f kj26 l0 117 a1 4).bind fun t165 => (some t165)) else ((quote_escape.f kj26 l0 85 a1 8).bind fun t168 => (some t168)))) = some r := by rw [if_neg (show ¬ (false = true) by decide)] at H; exact H
            clear H
            have H := H1
            clear H1
            by_cases c35 : a1 < 128
            ·
             rw [if_pos c35] at H
             have c35b0 : decide (a1 < 128) = true := decide_eq_true c35
             clear c35
             replace H := Option.bind_eq_some_iff.mp H
             obtain ⟨t162, A360, H⟩ := H
             replace H : (some t162) = some r := H
             have A36 := Aside0.mk A360
             clear A360
             obtain rfl := Option.some.inj H
             obtain ⟨Ao37, co37, eo37⟩ := Kd.R_slice HO_0.out
             subst eo37
             go_wp2_with (first | ((with_reducible refine gate_callee (f := 40) rfl ?_); refine goesL_ (some 56) rfl rfl Tryd.func40 (by kernel_rfl) rfl #[.slice Ao37 l0.length co37, .int .u8 120, .int .i32 a1, .int .i64 2] rfl (by (try simp only [List.map_toArray, List.map_cons, List.map_nil]); first | done | rfl | (simp only [List.length_drop, List.length_take]; rfl)) ?_; (with_reducible refine (quote_escape.calls kj26 (fun k_ => some k_ = (.slice Ao37 l0.length co37 : Value).ownBlock) (.slice Ao37 l0.length co37) l0 120 a1 2 t162 w0 _ ?side1 ?side2 A36.out).mono ?_); (case side1 => repeat (first | (with_reducible first | exact HB.out | apply below_alloc | apply pw_below_drewN | apply below_drew1) | exact HB.out)); (case side2 => exact Kd.R_tight rfl HO_0.out); rintro e w38 ⟨v163, rfl, ho0, hb, hkp⟩; refine ⟨_, rfl, ?_⟩; have n0_ := Aside0.mk (Kd.R_mono (ok' := fun k_ => (P0_ k_ ∨ w.heap.size ≤ k_)) ho0 (fun k_ hk_ => Or.elim hk_ (fun hs_ => (HO_0.out.1 k_ (hs_).symm)) (fun hn_ => (.inr (Nat.le_trans (by first | exact HK.out.1 | exact (show Kept w _ (fun k_ => P0_ k_) from by repeat (first | (with_reducible first | exact HK.out | apply Kept.alloc | apply Kept.drewN | apply Kept.drew) | exact HK.out)).1) hn_))))); have n1_ := Aside0.mk (Kept.then_ (S := (fun k_ => P0_ k_)) (by repeat (first | (with_reducible first | exact HK.out | apply Kept.alloc | apply Kept.drewN | apply Kept.drew) | exact HK.out)) hkp (fun k_ hs_ => (fun e_ => (HO_0.out.1 k_ e_.symm)) hs_)); have n2_ := Aside0.mk (hb); clear HK; clear HB; clear HO_0; have HO164 := n0_; have HK := n1_; have HB := n2_; clear n0_ n1_ n2_; (try clear hb); (try clear hkp); (try clear ho0)))
             go_ret
             exact ⟨_, by first | rfl | (simp [errW_none, errW_some] <;> rfl) | (simp [*, errW_none, errW_some] <;> rfl), by (with_reducible repeat (first | apply Kd.R_alloc | apply Kd.R_drewN | apply Kd.R_drew)); exact HO164.out, by repeat (first | (with_reducible first | exact HB.out | apply below_alloc | apply pw_below_drewN | apply below_drew1) | exact HB.out), by repeat (first | (with_reducible first | exact HK.out | apply Kept.alloc | apply Kept.drewN | apply Kept.drew) | exact HK.out)⟩
            ·
             rw [if_neg c35] at H
             have c35b0 : decide (a1 < 128) = false := decide_eq_false c35
             clear c35
             by_cases c39 : a1 ≤ 65535
             ·
              rw [if_pos c39] at H
              have c39b0 : decide (a1 ≤ 65535) = true := decide_eq_true c39
              clear c39
              replace H := Option.bind_eq_some_iff.mp H
              obtain ⟨t165, A400, H⟩ := H
              replace H : (some t165) = some r := H
              have A40 := Aside0.mk A400
              clear A400
              obtain rfl := Option.some.inj H
              obtain ⟨Ao41, co41, eo41⟩ := Kd.R_slice HO_0.out
              subst eo41
              go_wp2_with (first | ((with_reducible refine gate_callee (f := 40) rfl ?_); refine goesL_ (some 62) rfl rfl Tryd.func40 (by kernel_rfl) rfl #[.slice Ao41 l0.length co41, .int .u8 117, .int .i32 a1, .int .i64 4] rfl (by (try simp only [List.map_toArray, List.map_cons, List.map_nil]); first | done | rfl | (simp only [List.length_drop, List.length_take]; rfl)) ?_; (with_reducible refine (quote_escape.calls kj26 (fun k_ => some k_ = (.slice Ao41 l0.length co41 : Value).ownBlock) (.slice Ao41 l0.length co41) l0 117 a1 4 t165 w0 _ ?side1 ?side2 A40.out).mono ?_); (case side1 => repeat (first | (with_reducible first | exact HB.out | apply below_alloc | apply pw_below_drewN | apply below_drew1) | exact HB.out)); (case side2 => exact Kd.R_tight rfl HO_0.out); rintro e w42 ⟨v166, rfl, ho0, hb, hkp⟩; refine ⟨_, rfl, ?_⟩; have n0_ := Aside0.mk (Kd.R_mono (ok' := fun k_ => (P0_ k_ ∨ w.heap.size ≤ k_)) ho0 (fun k_ hk_ => Or.elim hk_ (fun hs_ => (HO_0.out.1 k_ (hs_).symm)) (fun hn_ => (.inr (Nat.le_trans (by first | exact HK.out.1 | exact (show Kept w _ (fun k_ => P0_ k_) from by repeat (first | (with_reducible first | exact HK.out | apply Kept.alloc | apply Kept.drewN | apply Kept.drew) | exact HK.out)).1) hn_))))); have n1_ := Aside0.mk (Kept.then_ (S := (fun k_ => P0_ k_)) (by repeat (first | (with_reducible first | exact HK.out | apply Kept.alloc | apply Kept.drewN | apply Kept.drew) | exact HK.out)) hkp (fun k_ hs_ => (fun e_ => (HO_0.out.1 k_ e_.symm)) hs_)); have n2_ := Aside0.mk (hb); clear HK; clear HB; clear HO_0; have HO167 := n0_; have HK := n1_; have HB := n2_; clear n0_ n1_ n2_; (try clear hb); (try clear hkp); (try clear ho0)))
              go_ret
              exact ⟨_, by first | rfl | (simp [errW_none, errW_some] <;> rfl) | (simp [*, errW_none, errW_some] <;> rfl), by (with_reducible repeat (first | apply Kd.R_alloc | apply Kd.R_drewN | apply Kd.R_drew)); exact HO167.out, by repeat (first | (with_reducible first | exact HB.out | apply below_alloc | apply pw_below_drewN | apply below_drew1) | exact HB.out), by repeat (first | (with_reducible first | exact HK.out | apply Kept.alloc | apply Kept.drewN | apply Kept.drew) | exact HK.out)⟩
             ·
              rw [if_neg c39] at H
              have c39b0 : decide (a1 ≤ 65535) = false := decide_eq_false c39
              clear c39
              replace H := Option.bind_eq_some_iff.mp H
              obtain ⟨t168, A430, H⟩ := H
              replace H : (some t168) = some r := H
              have A43 := Aside0.mk A430
              clear A430
              obtain rfl := Option.some.inj H
              obtain ⟨Ao44, co44, eo44⟩ := Kd.R_slice HO_0.out
              subst eo44
              go_wp2_with (first | ((with_reducible refine gate_callee (f := 40) rfl ?_); refine goesL_ (some 65) rfl rfl Tryd.func40 (by kernel_rfl) rfl #[.slice Ao44 l0.length co44, .int .u8 85, .int .i32 a1, .int .i64 8] rfl (by (try simp only [List.map_toArray, List.map_cons, List.map_nil]); first | done | rfl | (simp only [List.length_drop, List.length_take]; rfl)) ?_; (with_reducible refine (quote_escape.calls kj26 (fun k_ => some k_ = (.slice Ao44 l0.length co44 : Value).ownBlock) (.slice Ao44 l0.length co44) l0 85 a1 8 t168 w0 _ ?side1 ?side2 A43.out).mono ?_); (case side1 => repeat (first | (with_reducible first | exact HB.out | apply below_alloc | apply pw_below_drewN | apply below_drew1) | exact HB.out)); (case side2 => exact Kd.R_tight rfl HO_0.out); rintro e w45 ⟨v169, rfl, ho0, hb, hkp⟩; refine ⟨_, rfl, ?_⟩; have n0_ := Aside0.mk (Kd.R_mono (ok' := fun k_ => (P0_ k_ ∨ w.heap.size ≤ k_)) ho0 (fun k_ hk_ => Or.elim hk_ (fun hs_ => (HO_0.out.1 k_ (hs_).symm)) (fun hn_ => (.inr (Nat.le_trans (by first | exact HK.out.1 | exact (show Kept w _ (fun k_ => P0_ k_) from by repeat (first | (with_reducible first | exact HK.out | apply Kept.alloc | apply Kept.drewN | apply Kept.drew) | exact HK.out)).1) hn_))))); have n1_ := Aside0.mk (Kept.then_ (S := (fun k_ => P0_ k_)) (by repeat (first | (with_reducible first | exact HK.out | apply Kept.alloc | apply Kept.drewN | apply Kept.drew) | exact HK.out)) hkp (fun k_ hs_ => (fun e_ => (HO_0.out.1 k_ e_.symm)) hs_)); have n2_ := Aside0.mk (hb); clear HK; clear HB; clear HO_0; have HO170 := n0_; have HK := n1_; have HB := n2_; clear n0_ n1_ n2_; (try clear hb); (try clear hkp); (try clear ho0)))
              go_ret
              exact ⟨_, by first | rfl | (simp [errW_none, errW_some] <;> rfl) | (simp [*, errW_none, errW_some] <;> rfl), by (with_reducible repeat (first | apply Kd.R_alloc | apply Kd.R_drewN | apply Kd.R_drew)); exact HO170.out, by repeat (first | (with_reducible first | exact HB.out | apply below_alloc | apply pw_below_drewN | apply below_drew1) | exact HB.out), by repeat (first | (with_reducible first | exact HK.out | apply Kept.alloc | apply Kept.drewN | apply Kept.drew) | exact HK.out)⟩
end Go.Proofs.YtcoippikicikoaaDoor.PQPut
namespace Go.Proofs.YtcoippikicikoaaDoor.PQPut
open Go.RowKit Go.Proofs.YtcoippikicikoaaDoorW.PrintWords Go.Proofs.YtcoippikicikoaaDoorW.PrintLast Go.Proofs.YtcoippikicikoaaDoorW.PrintMore
attribute [local go_sem] max2_int min2_int max_two min_two
set_option linter.unusedVariables false
set_option linter.unusedSimpArgs false
end Go.Proofs.YtcoippikicikoaaDoor.PQPut
namespace Go.Proofs.YtcoippikicikoaaDoor
open Go.RowKit Go.Proofs.YtcoippikicikoaaDoorW.PrintWords
theorem dec_pos (s : ByteArray) (pos : Nat) (h : pos < s.size) : 1 ≤ (Utf8.decode s pos).2 := Lib.decode_width_pos s pos h
def buf_Count.f (a0 : ByteArray) : Option Int := if a0.size ≤ 140737488355328 then some (Lib.runeCount a0 : Int) else none
set_option maxHeartbeats 1000000 in
theorem buf_Count.calls (a0 : ByteArray) (r : Int) (w : World) (h : buf_Count.f a0 = some r) : Calls Tryd.prog 21 #[.string a0] w fun e w' => e = .returned (.int .i64 r) ∧ Below w.heap.size w w' := by
  unfold buf_Count.f at h
  split at h
  case isFalse => cases h
  rename_i hs
  obtain rfl := Option.some.inj h
  clear h
  go_enter Tryd.func21, Tryd.ntmps21
  go_wp2
  go_loopw [3] (fun n wr => ∃ (pos fuel c : Nat), n = .int .i64 (c : Int) ∧ wr.heap[w.heap.size]? = some (.stringIter a0 pos) ∧ Below w.heap.size w wr ∧ Hid (c + Lib.runeCountFrom a0 fuel pos = Lib.runeCount a0) ∧ a0.size ≤ pos + fuel ∧ c ≤ pos ∧ c ≤ a0.size) (fun _ wr => a0.size - wr.iterPos w.heap.size)
  case atStart =>
    refine ⟨0, a0.size, 0, rfl, ?_, (Below.refl _ w).alloc (Nat.le_refl _) _, Lib.hid (by unfold Lib.runeCount; omega), by omega, by omega, by omega⟩
    exact World.iter_heap w a0 0
  case round =>
    obtain ⟨pos, fuel, c, rfl, hit, hbw, hacc, hfu, hc, hc2⟩ := hrel
    by_cases hp : pos < a0.size
    · have hnx : ∀ ty, (Instr.next (.pointer (some ⟨w.heap.size, 0, none⟩)) true ty).run Tryd.prog wr = _ := fun ty => Lib.run_next_any_at wr w.heap.size a0 pos ty hit hp
      have hwd := dec_pos a0 pos hp
      have hit2 := Lib.iterAt_heap wr w.heap.size a0 pos (pos + (Utf8.decode a0 pos).2) hit
      have hbw2 := Lib.below_iterAt hbw (k := w.heap.size) (by omega) a0 (pos + (Utf8.decode a0 pos).2)
      obtain ⟨f, rfl⟩ : ∃ f, fuel = f + 1 := ⟨fuel - 1, by omega⟩
      have hle : c + 1 ≤ a0.size := by
        have := hacc.out
        unfold Lib.runeCountFrom at this
        rw [if_pos hp] at this
        have := Lib.runeCount_le a0
        omega
      go_wp2
      go_roundw
      case rel =>
        go_light
        refine ⟨pos + (Utf8.decode a0 pos).2, f, c + 1, by go_num, hit2, hbw2, Lib.hid ?_, by omega, by omega, hle⟩
        have := hacc.out
        unfold Lib.runeCountFrom at this
        rw [if_pos hp] at this
        omega
      case measure =>
        go_light
        simp only [World.iterPos, hit2, hit]
        omega
    · have hnx : ∀ ty, (Instr.next (.pointer (some ⟨w.heap.size, 0, none⟩)) true ty).run Tryd.prog wr = _ := fun ty => Lib.run_next_end_at wr w.heap.size a0 pos ty hit hp
      go_wp2
      go_ret
      have := hacc.out
      rw [Lib.runeCountFrom_end a0 fuel pos hp] at this
      exact ⟨by rw [← this]; rfl, hbw⟩
def cutAt (s : ByteArray) : Nat → Nat → Nat → Nat
  | 0, _, _ => s.size
  | fuel + 1, pos, n => if pos < s.size then (if n = 0 then pos else cutAt s fuel (pos + (Utf8.decode s pos).2) (n - 1)) else s.size
theorem cutAt_end (s : ByteArray) (fuel pos n : Nat) (h : ¬ pos < s.size) : cutAt s fuel pos n = s.size := by
  cases fuel <;> simp [cutAt, h]
def cutB (s : ByteArray) (n : Int) : ByteArray := if n < 0 then s else s.extract 0 (cutAt s s.size 0 n.toNat)
theorem extract_all (s : ByteArray) : s.extract 0 s.size = s := bytes_ext (by rw [Lib.extract_to_end]; rfl)
def buf_Cut.f (a0 : ByteArray) (a1 : Int) : Option ByteArray := if a0.size ≤ 140737488355328 ∧ a1 ≤ 9223372036854775807 then some (cutB a0 a1) else none
set_option maxHeartbeats 1000000 in
theorem buf_Cut.calls (a0 : ByteArray) (a1 : Int) (r : ByteArray) (w : World) (h : buf_Cut.f a0 a1 = some r) : Calls Tryd.prog 35 #[.string a0, .int .i64 a1] w fun e w' => e = .returned (.string r) ∧ Below w.heap.size w w' := by
  unfold buf_Cut.f at h
  split at h
  case isFalse => cases h
  rename_i hs
  obtain ⟨hs, hs1⟩ := hs
  obtain rfl := Option.some.inj h
  clear h
  by_cases hn : a1 < 0
  · have e : cutB a0 a1 = a0 := by unfold cutB; rw [if_pos hn]
    rw [e]
    clear e
    go_enter Tryd.func35, Tryd.ntmps35
    go_wp2
    go_ret
    exact ⟨rfl, Below.refl _ _⟩
  · obtain ⟨n, rfl⟩ : ∃ n : Nat, a1 = n := ⟨a1.toNat, by omega⟩
    have e : cutB a0 (n : Int) = a0.extract 0 (cutAt a0 a0.size 0 n) := by unfold cutB; rw [if_neg hn, Int.toNat_natCast]
    rw [e]
    clear e
    obtain ⟨E, hE⟩ : ∃ E, E = cutAt a0 a0.size 0 n := ⟨_, rfl⟩
    have HE := Lib.hid hE
    rw [← hE]
    clear hE
    go_enter Tryd.func35, Tryd.ntmps35
    go_wp2
    go_loopw [1, 5] (fun v1 _ wr => ∃ (pos fuel m : Nat), v1 = .int .i64 (m : Int) ∧ wr.heap[w.heap.size]? = some (.stringIter a0 pos) ∧ Below w.heap.size w wr ∧ Hid (cutAt a0 fuel pos m = E) ∧ a0.size ≤ pos + fuel ∧ m ≤ n) (fun _ _ wr => a0.size - wr.iterPos w.heap.size)
    case atStart =>
      refine ⟨0, a0.size, n, rfl, ?_, (Below.refl _ w).alloc (Nat.le_refl _) _, Lib.hid (HE.out.symm), by omega, by omega⟩
      exact World.iter_heap w a0 0
    case round =>
      obtain ⟨pos, fuel, m, rfl, hit, hbw, hacc, hfu, hm⟩ := hrel
      by_cases hp : pos < a0.size
      · have hnx : ∀ ty, (Instr.next (.pointer (some ⟨w.heap.size, 0, none⟩)) true ty).run Tryd.prog wr = _ := fun ty => Lib.run_next_any_at wr w.heap.size a0 pos ty hit hp
        have hwd := dec_pos a0 pos hp
        have hit2 := Lib.iterAt_heap wr w.heap.size a0 pos (pos + (Utf8.decode a0 pos).2) hit
        have hbw2 := Lib.below_iterAt hbw (k := w.heap.size) (by omega) a0 (pos + (Utf8.decode a0 pos).2)
        obtain ⟨f, rfl⟩ : ∃ f, fuel = f + 1 := ⟨fuel - 1, by omega⟩
        by_cases h0 : m = 0
        · subst h0
          go_wp2
          go_ret
          have := hacc.out
          simp only [cutAt, if_pos hp, if_true] at this
          exact ⟨by rw [← this]; rfl, hbw2⟩
        · have hm1 : 1 ≤ m := by omega
          have hb0 : ((m : Int) == 0) = false := beq_eq_false_iff_ne.2 (by omega)
          clear h0
          go_wp2
          go_roundw
          case rel =>
            go_light
            refine ⟨pos + (Utf8.decode a0 pos).2, f, m - 1, by rw [Int.natCast_sub hm1]; rfl, hit2, hbw2, Lib.hid ?_, by omega, by omega⟩
            have := hacc.out
            simp only [cutAt, if_pos hp] at this
            rw [if_neg (by omega)] at this
            exact this
          case measure =>
            go_light
            simp only [World.iterPos, hit2, hit]
            omega
      · have hnx : ∀ ty, (Instr.next (.pointer (some ⟨w.heap.size, 0, none⟩)) true ty).run Tryd.prog wr = _ := fun ty => Lib.run_next_end_at wr w.heap.size a0 pos ty hit hp
        go_wp2
        go_ret
        have := hacc.out
        rw [cutAt_end a0 fuel pos m hp] at this
        exact ⟨by rw [← this, extract_all]; rfl, hbw⟩
end Go.Proofs.YtcoippikicikoaaDoor
namespace Go.Proofs.YtcoippikicikoaaDoor
open Go.RowKit Go.Proofs.YtcoippikicikoaaDoorW.PrintWords Go.Proofs.YtcoippikicikoaaDoor.PQRef
theorem point_f (c : Int) : platenref01_Point.f c = some (Utf8.valid c) := by
  unfold platenref01_Point.f Utf8.valid
  repeat' split
  all_goals (rw [Option.some.injEq, Bool.eq_iff_iff]; simp; try omega)
theorem rune_j0 (k : Nat) (n : Nat) (hn : n ≤ 0x10ffff) : platenref01_Rune.j0 (k + 1) (n : Int) = some ⟨(encN n).toArray⟩ := by
  have w0 : wrap64 (n : Int) = n := wrap64_id (by omega) (by omega)
  have w1 : Int.tdiv (n : Int) 64 = ((n / 64 : Nat) : Int) := by rw [Int.tdiv_eq_ediv_of_nonneg (by omega)]; omega
  have w2 : Int.tdiv (n : Int) 4096 = ((n / 4096 : Nat) : Int) := by rw [Int.tdiv_eq_ediv_of_nonneg (by omega)]; omega
  have w3 : Int.tdiv (n : Int) 262144 = ((n / 262144 : Nat) : Int) := by rw [Int.tdiv_eq_ediv_of_nonneg (by omega)]; omega
  have m : ∀ a : Nat, Int.tmod (a : Int) 64 = ((a % 64 : Nat) : Int) := fun a => by rw [Int.tmod_eq_emod_of_nonneg (by omega)]; omega
  have w : ∀ a : Nat, a ≤ 0x110000 → wrap64 (a : Int) = a := fun a ha => wrap64_id (by omega) (by omega)
  have e : ∀ (A : Int) (a b : Nat), A = (a : Int) → a < 256 → b ≤ 0x110000 → a + b < 256 → ((wrap64 (A + (b : Int))) % 256).toNat = a + b := fun A a b hA ha hb hab => by
    subst hA; rw [wrap64_id (by omega) (by omega)]; omega
  unfold platenref01_Rune.j0 encN
  simp only [w0, w1, w2, w3, m]
  rw [w (n / 64) (by omega), w (n / 4096) (by omega), w (n / 262144) (by omega)]
  simp only [m]
  by_cases h1 : n < 128
  · rw [if_pos (by omega), if_pos h1]
    simp only [strOfNums, List.map_cons, List.map_nil]
    rw [show (((n : Int) % 256).toNat) = n by omega]
  rw [if_neg (by omega), if_neg h1]
  by_cases h2 : n < 2048
  · rw [if_pos (by omega), if_pos h2]
    simp only [strOfNums, List.map_cons, List.map_nil]
    rw [e 192 192 (n / 64) rfl (by omega) (by omega) (by omega), e 128 128 (n % 64) rfl (by omega) (by omega) (by omega)]
  rw [if_neg (by omega), if_neg h2]
  by_cases h3 : n < 65536
  · rw [if_pos (by omega), if_pos h3]
    simp only [strOfNums, List.map_cons, List.map_nil]
    rw [e 224 224 (n / 4096) rfl (by omega) (by omega) (by omega), e 128 128 (n / 64 % 64) rfl (by omega) (by omega) (by omega), e 128 128 (n % 64) rfl (by omega) (by omega) (by omega)]
  rw [if_neg (by omega), if_neg h3]
  simp only [strOfNums, List.map_cons, List.map_nil]
  rw [e 240 240 (n / 262144) rfl (by omega) (by omega) (by omega), e 128 128 (n / 4096 % 64) rfl (by omega) (by omega) (by omega), e 128 128 (n / 64 % 64) rfl (by omega) (by omega) (by omega), e 128 128 (n % 64) rfl (by omega) (by omega) (by omega)]
theorem rune_f (k : Nat) (c : Int) : platenref01_Rune.f (k + 1) c = some ⟨(enc c).toArray⟩ := by
  unfold platenref01_Rune.f enc
  rw [point_f]
  simp only [Option.bind_some]
  by_cases h : Utf8.valid c = true
  · rw [if_pos h, if_pos h]
    obtain ⟨n, rfl⟩ : ∃ n : Nat, c = n := ⟨c.toNat, by simp [Utf8.valid] at h; omega⟩
    rw [rune_j0 k n (by simp [Utf8.valid] at h; omega)]
    simp
  · rw [if_neg h, if_neg h]
    exact rune_j0 k 65533 (by omega)
theorem ofNat_eq (x : Nat) (u : UInt8) : UInt8.ofNat x = u ↔ x % 256 = u.toNat := by
  constructor
  · rintro rfl; simp
  · intro h; exact UInt8.toNat_inj.1 (by simpa using h)
theorem valid_nat (c : Nat) : Utf8.valid (c : Int) = true ↔ (c < 55296 ∨ (57344 ≤ c ∧ c ≤ 1114111)) := by
  simp [Utf8.valid]; omega
section tries
variable (u0 u1 u2 u3 : UInt8)
theorem try1 : (Utf8.valid ((u0.toNat : Nat) : Int) = true ∧ encN u0.toNat = [u0]) ↔ u0.toNat < 128 := by
  have h0 := u0.toNat_lt
  rw [valid_nat]; unfold encN
  by_cases c : u0.toNat < 128
  · simp [c]; omega
  · simp [c]
    intro _
    repeat' split
    all_goals simp
theorem try2 : (Utf8.valid ((64 * (u0.toNat % 32) + u1.toNat % 64 : Nat) : Int) = true ∧ encN (64 * (u0.toNat % 32) + u1.toNat % 64) = [u0, u1]) ↔
    (u0.toNat / 32 = 6 ∧ u1.toNat / 64 = 2 ∧ 128 ≤ u0.toNat % 32 * 64 + u1.toNat % 64) := by
  have h0 := u0.toNat_lt; have h1 := u1.toNat_lt
  rw [valid_nat]; unfold encN
  by_cases c1 : 64 * (u0.toNat % 32) + u1.toNat % 64 < 128
  · simp [c1]; omega
  by_cases c2 : 64 * (u0.toNat % 32) + u1.toNat % 64 < 2048
  · simp only [if_neg c1, if_pos c2, List.cons.injEq, ofNat_eq, and_true]; omega
  · omega
theorem try3 : (Utf8.valid ((64 * (64 * (u0.toNat % 16) + u1.toNat % 64) + u2.toNat % 64 : Nat) : Int) = true ∧ encN (64 * (64 * (u0.toNat % 16) + u1.toNat % 64) + u2.toNat % 64) = [u0, u1, u2]) ↔
    (u0.toNat / 16 = 14 ∧ u1.toNat / 64 = 2 ∧ u2.toNat / 64 = 2 ∧ 2048 ≤ u0.toNat % 16 * 4096 + u1.toNat % 64 * 64 + u2.toNat % 64 ∧ (u0.toNat % 16 * 4096 + u1.toNat % 64 * 64 + u2.toNat % 64 < 55296 ∨ (57344 ≤ u0.toNat % 16 * 4096 + u1.toNat % 64 * 64 + u2.toNat % 64 ∧ u0.toNat % 16 * 4096 + u1.toNat % 64 * 64 + u2.toNat % 64 ≤ 1114111))) := by
  have h0 := u0.toNat_lt; have h1 := u1.toNat_lt; have h2 := u2.toNat_lt
  rw [valid_nat]; unfold encN
  generalize hc : 64 * (64 * (u0.toNat % 16) + u1.toNat % 64) + u2.toNat % 64 = c
  by_cases c1 : c < 128
  · simp [c1]; omega
  by_cases c2 : c < 2048
  · simp [c1, c2]; omega
  by_cases c3 : c < 65536
  · simp only [if_neg c1, if_neg c2, if_pos c3, List.cons.injEq, ofNat_eq, and_true]; omega
  · omega
set_option maxHeartbeats 1000000 in
theorem try4 : (Utf8.valid ((64 * (64 * (64 * (u0.toNat % 8) + u1.toNat % 64) + u2.toNat % 64) + u3.toNat % 64 : Nat) : Int) = true ∧ encN (64 * (64 * (64 * (u0.toNat % 8) + u1.toNat % 64) + u2.toNat % 64) + u3.toNat % 64) = [u0, u1, u2, u3]) ↔
    (u0.toNat / 8 = 30 ∧ u1.toNat / 64 = 2 ∧ u2.toNat / 64 = 2 ∧ u3.toNat / 64 = 2 ∧ 65536 ≤ u0.toNat % 8 * 262144 + u1.toNat % 64 * 4096 + u2.toNat % 64 * 64 + u3.toNat % 64 ∧ u0.toNat % 8 * 262144 + u1.toNat % 64 * 4096 + u2.toNat % 64 * 64 + u3.toNat % 64 ≤ 1114111) := by
  have h0 := u0.toNat_lt; have h1 := u1.toNat_lt; have h2 := u2.toNat_lt; have h3 := u3.toNat_lt
  rw [valid_nat]; unfold encN
  generalize hc : 64 * (64 * (64 * (u0.toNat % 8) + u1.toNat % 64) + u2.toNat % 64) + u3.toNat % 64 = c
  by_cases c1 : c < 128
  · simp [c1]; omega
  by_cases c2 : c < 2048
  · simp [c1, c2]; omega
  by_cases c3 : c < 65536
  · simp [c1, c2, c3]; omega
  · simp only [if_neg c1, if_neg c2, if_neg c3, List.cons.injEq, ofNat_eq, and_true]; omega
end tries
theorem bt_get (s : ByteArray) (i : Nat) : bt s (i : Int) = ((s.get! i).toNat : Int) := by
  rw [← Lib.getD_get!']
  unfold bt
  simp only [Int.toNat_natCast]
  split
  · rename_i h; simp [List.getD, h]; rfl
  · rename_i h; simp [List.getD, h]
set_option maxRecDepth 100000 in
theorem try_end (k : Nat) (s : ByteArray) (n c : Nat) (hn : n ≤ s.size) (hn4 : n ≤ 4) (hc : c < 2147483648) :
    platenref01_Decode.l1 (k + 2) s (n : Int) (c : Int) (n : Int) =
      if Utf8.valid (c : Int) = true ∧ encN c = s.data.toList.take n then some ((c : Int), (n : Int), false) else platenref01_Decode.l0 (k + 1) s ((n + 1 : Nat) : Int) := by
  simp only [platenref01_Decode.l1]
  rw [if_neg (by omega), wrap32_id (by omega) (by omega), point_f, rune_f]
  simp only [Option.bind_some]
  rw [wrap64_id (x := (n : Int) + 1) (by omega) (by omega)]
  by_cases v : Utf8.valid (c : Int) = true
  · rw [if_pos v, if_pos (show (0 : Int) ≤ n by omega), if_pos (show (n : Int) ≤ s.size by omega)]
    have e : (enc (c : Int)) = encN c := by simp [enc, v]
    simp only [v, true_and, e, Lib.toList_data, Lib.extract_data, Int.toNat_natCast, List.drop_zero, Nat.sub_zero]
    rfl
  · rw [if_neg v, if_neg (fun h => v h.1)]
    rfl
theorem bt_lt (s : ByteArray) (i : Nat) : (s.get! i).toNat < 256 := (s.get! i).toNat_lt
theorem try_step (k : Nat) (s : ByteArray) (n i c : Nat) (hn : n ≤ s.size) (hn4 : n ≤ 4) (hi : i < n) (hc : c < 20000000) :
    platenref01_Decode.l1 (k + 1) s (n : Int) (c : Int) (i : Int) = platenref01_Decode.l1 k s (n : Int) ((64 * c + (s.get! i).toNat % 64 : Nat) : Int) ((i + 1 : Nat) : Int) := by
  have hb := bt_lt s i
  simp only [platenref01_Decode.l1]
  rw [if_pos (by omega), if_pos (by omega), if_pos (by omega), bt_get, wrap64_id (x := ((s.get! i).toNat : Int)) (by omega) (by omega),
    wrap64_id (x := 64 * (c : Int)) (by omega) (by omega), Int.tmod_eq_emod_of_nonneg (by omega), wrap64_id (x := 64 * (c : Int) + _) (by omega) (by omega), wrap64_id (x := (i : Int) + 1) (by omega) (by omega)]
  congr 1
theorem take_1 (s : ByteArray) (h : 1 ≤ s.size) : s.data.toList.take 1 = [s.get! 0] := by
  rw [Lib.size_eq] at h
  simp only [← Lib.getD_get!']
  match s.data.toList, h with
  | a :: l, _ => rfl
theorem take_2 (s : ByteArray) (h : 2 ≤ s.size) : s.data.toList.take 2 = [s.get! 0, s.get! 1] := by
  rw [Lib.size_eq] at h
  simp only [← Lib.getD_get!']
  match s.data.toList, h with
  | a :: b :: l, _ => rfl
theorem take_3 (s : ByteArray) (h : 3 ≤ s.size) : s.data.toList.take 3 = [s.get! 0, s.get! 1, s.get! 2] := by
  rw [Lib.size_eq] at h
  simp only [← Lib.getD_get!']
  match s.data.toList, h with
  | a :: b :: c :: l, _ => rfl
theorem take_4 (s : ByteArray) (h : 4 ≤ s.size) : s.data.toList.take 4 = [s.get! 0, s.get! 1, s.get! 2, s.get! 3] := by
  rw [Lib.size_eq] at h
  simp only [← Lib.getD_get!']
  match s.data.toList, h with
  | a :: b :: c :: d :: l, _ => rfl
theorem dec_end (k : Nat) (s : ByteArray) (n : Nat) (hn : 4 < n ∨ s.size < n) : platenref01_Decode.l0 (k + 2) s (n : Int) = some (65533, 1, true) := by
  simp only [platenref01_Decode.l0, platenref01_Decode.j1]
  by_cases h : (n : Int) ≤ 4
  · rw [if_pos h, decide_eq_false (by omega)]; simp
  · rw [if_neg h]; simp
theorem dec_lead (s : ByteArray) (m : Nat) (hm : 0 < m): Int.tmod (wrap64 (bt s 0)) m = (((s.get! 0).toNat % m : Nat) : Int) := by
  have hb := bt_lt s 0
  have := bt_get s 0
  simp only [Int.natCast_zero] at this
  rw [this, wrap64_id (by omega) (by omega), Int.tmod_eq_emod_of_nonneg (by omega)]
  rfl
theorem dec_lead1 (s : ByteArray) : wrap64 (bt s 0) = (((s.get! 0).toNat : Nat) : Int) := by
  have hb := bt_lt s 0
  have := bt_get s 0
  simp only [Int.natCast_zero] at this
  rw [this, wrap64_id (by omega) (by omega)]
theorem dec_1 (k : Nat) (s : ByteArray) (h : 1 ≤ s.size) :
    platenref01_Decode.l0 (k + 5) s 1 = if (s.get! 0).toNat < 128 then some (((s.get! 0).toNat : Int), 1, false) else platenref01_Decode.l0 (k + 1) s 2 := by
  have e := try_end k s 1 (s.get! 0).toNat h (by omega) (by have := bt_lt s 0; omega)
  rw [take_1 s h] at e
  simp only [propext (try1 (s.get! 0))] at e
  rw [show platenref01_Decode.l0 (k + 5) s 1 = platenref01_Decode.l1 (k + 2) s 1 (wrap64 (bt s 0)) 1 by
    simp only [platenref01_Decode.l0, platenref01_Decode.j1, platenref01_Decode.j2]
    rw [if_pos (by omega), if_pos (by simp; omega), if_pos (by omega), if_neg (by omega), if_neg (by omega), if_neg (by omega)], dec_lead1]
  exact e
theorem dec_2 (k : Nat) (s : ByteArray) (h : 2 ≤ s.size) :
    platenref01_Decode.l0 (k + 6) s 2 = if (s.get! 0).toNat / 32 = 6 ∧ (s.get! 1).toNat / 64 = 2 ∧ 128 ≤ (s.get! 0).toNat % 32 * 64 + (s.get! 1).toNat % 64 then some (((64 * ((s.get! 0).toNat % 32) + (s.get! 1).toNat % 64 : Nat) : Int), 2, false) else platenref01_Decode.l0 (k + 1) s 3 := by
  have e := try_end k s 2 (64 * ((s.get! 0).toNat % 32) + (s.get! 1).toNat % 64) h (by omega) (by omega)
  rw [take_2 s h] at e
  simp only [propext (try2 (s.get! 0) (s.get! 1))] at e
  rw [show platenref01_Decode.l0 (k + 6) s 2 = platenref01_Decode.l1 (k + 3) s 2 (Int.tmod (wrap64 (bt s 0)) 32) 1 by
    simp only [platenref01_Decode.l0, platenref01_Decode.j1, platenref01_Decode.j2]
    rw [if_pos (by omega), if_pos (by simp; omega), if_pos (by omega), if_pos trivial], show Int.tmod (wrap64 (bt s 0)) 32 = _ from dec_lead s 32 (by omega)]
  rw [show platenref01_Decode.l1 (k + 3) s 2 (((s.get! 0).toNat % 32 : Nat) : Int) 1 = platenref01_Decode.l1 (k + 2) s ((2 : Nat) : Int) ((64 * ((s.get! 0).toNat % 32) + (s.get! 1).toNat % 64 : Nat) : Int) ((2 : Nat) : Int)
    from try_step (k + 2) s 2 1 _ h (by omega) (by omega) (by omega)]
  exact e
theorem dec_3 (k : Nat) (s : ByteArray) (h : 3 ≤ s.size) :
    platenref01_Decode.l0 (k + 7) s 3 = if (s.get! 0).toNat / 16 = 14 ∧ (s.get! 1).toNat / 64 = 2 ∧ (s.get! 2).toNat / 64 = 2 ∧ 2048 ≤ (s.get! 0).toNat % 16 * 4096 + (s.get! 1).toNat % 64 * 64 + (s.get! 2).toNat % 64 ∧ ((s.get! 0).toNat % 16 * 4096 + (s.get! 1).toNat % 64 * 64 + (s.get! 2).toNat % 64 < 55296 ∨ (57344 ≤ (s.get! 0).toNat % 16 * 4096 + (s.get! 1).toNat % 64 * 64 + (s.get! 2).toNat % 64 ∧ (s.get! 0).toNat % 16 * 4096 + (s.get! 1).toNat % 64 * 64 + (s.get! 2).toNat % 64 ≤ 1114111)) then some (((64 * (64 * ((s.get! 0).toNat % 16) + (s.get! 1).toNat % 64) + (s.get! 2).toNat % 64 : Nat) : Int), 3, false) else platenref01_Decode.l0 (k + 1) s 4 := by
  have e := try_end k s 3 (64 * (64 * ((s.get! 0).toNat % 16) + (s.get! 1).toNat % 64) + (s.get! 2).toNat % 64) h (by omega) (by omega)
  rw [take_3 s h] at e
  simp only [propext (try3 (s.get! 0) (s.get! 1) (s.get! 2))] at e
  rw [show platenref01_Decode.l0 (k + 7) s 3 = platenref01_Decode.l1 (k + 4) s 3 (Int.tmod (wrap64 (bt s 0)) 16) 1 by
    simp only [platenref01_Decode.l0, platenref01_Decode.j1, platenref01_Decode.j2]
    rw [if_pos (by omega), if_pos (by simp; omega), if_pos (by omega), if_neg (by omega), if_pos trivial], show Int.tmod (wrap64 (bt s 0)) 16 = _ from dec_lead s 16 (by omega)]
  rw [show platenref01_Decode.l1 (k + 4) s 3 (((s.get! 0).toNat % 16 : Nat) : Int) 1 = platenref01_Decode.l1 (k + 3) s ((3 : Nat) : Int) ((64 * ((s.get! 0).toNat % 16) + (s.get! 1).toNat % 64 : Nat) : Int) ((2 : Nat) : Int)
    from try_step (k + 3) s 3 1 _ h (by omega) (by omega) (by omega)]
  rw [try_step (k + 2) s 3 2 _ h (by omega) (by omega) (by omega)]
  exact e
theorem dec_4 (k : Nat) (s : ByteArray) (h : 4 ≤ s.size) :
    platenref01_Decode.l0 (k + 8) s 4 = if (s.get! 0).toNat / 8 = 30 ∧ (s.get! 1).toNat / 64 = 2 ∧ (s.get! 2).toNat / 64 = 2 ∧ (s.get! 3).toNat / 64 = 2 ∧ 65536 ≤ (s.get! 0).toNat % 8 * 262144 + (s.get! 1).toNat % 64 * 4096 + (s.get! 2).toNat % 64 * 64 + (s.get! 3).toNat % 64 ∧ (s.get! 0).toNat % 8 * 262144 + (s.get! 1).toNat % 64 * 4096 + (s.get! 2).toNat % 64 * 64 + (s.get! 3).toNat % 64 ≤ 1114111 then some (((64 * (64 * (64 * ((s.get! 0).toNat % 8) + (s.get! 1).toNat % 64) + (s.get! 2).toNat % 64) + (s.get! 3).toNat % 64 : Nat) : Int), 4, false) else platenref01_Decode.l0 (k + 1) s 5 := by
  have e := try_end k s 4 (64 * (64 * (64 * ((s.get! 0).toNat % 8) + (s.get! 1).toNat % 64) + (s.get! 2).toNat % 64) + (s.get! 3).toNat % 64) h (by omega) (by omega)
  rw [take_4 s h] at e
  simp only [propext (try4 (s.get! 0) (s.get! 1) (s.get! 2) (s.get! 3))] at e
  rw [show platenref01_Decode.l0 (k + 8) s 4 = platenref01_Decode.l1 (k + 5) s 4 (Int.tmod (wrap64 (bt s 0)) 8) 1 by
    simp only [platenref01_Decode.l0, platenref01_Decode.j1, platenref01_Decode.j2]
    rw [if_pos (by omega), if_pos (by simp; omega), if_pos (by omega), if_neg (by omega), if_neg (by omega), if_pos trivial], show Int.tmod (wrap64 (bt s 0)) 8 = _ from dec_lead s 8 (by omega)]
  rw [show platenref01_Decode.l1 (k + 5) s 4 (((s.get! 0).toNat % 8 : Nat) : Int) 1 = platenref01_Decode.l1 (k + 4) s ((4 : Nat) : Int) ((64 * ((s.get! 0).toNat % 8) + (s.get! 1).toNat % 64 : Nat) : Int) ((2 : Nat) : Int)
    from try_step (k + 4) s 4 1 _ h (by omega) (by omega) (by omega)]
  rw [try_step (k + 3) s 4 2 _ h (by omega) (by omega) (by omega), try_step (k + 2) s 4 3 _ h (by omega) (by omega) (by omega)]
  exact e
set_option maxRecDepth 100000 in
set_option maxHeartbeats 4000000 in
theorem decode_f (k : Nat) (s : ByteArray) (h : s.size ≠ 0) :
    platenref01_Decode.f (k + 30) s = some (((Utf8.decode s 0).1 : Int), ((Utf8.decode s 0).2 : Int), decide (Utf8.decode s 0 = (65533, 1))) := by
  unfold platenref01_Decode.f
  rw [if_neg (by rw [Lib.toList_data]; intro e; exact h (by rw [Lib.size_eq, e]; rfl))]
  rw [Lib.decode_at]
  simp only [Nat.zero_add, Nat.sub_zero]
  rw [dec_1 (k + 25) s (by omega)]
  have hb0 := bt_lt s 0; have hb1 := bt_lt s 1; have hb2 := bt_lt s 2; have hb3 := bt_lt s 3
  have E5 : platenref01_Decode.l0 (k + 8) s 5 = some (65533, 1, true) := dec_end (k + 6) s 5 (by omega)
  have E4 : s.size < 4 → platenref01_Decode.l0 (k + 15) s 4 = some (65533, 1, true) := fun h => dec_end (k + 13) s 4 (by omega)
  have E3 : s.size < 3 → platenref01_Decode.l0 (k + 21) s 3 = some (65533, 1, true) := fun h => dec_end (k + 19) s 3 (by omega)
  have E2 : s.size < 2 → platenref01_Decode.l0 (k + 26) s 2 = some (65533, 1, true) := fun h => dec_end (k + 24) s 2 (by omega)
  have D4 := fun h => dec_4 (k + 7) s h
  have D3 := fun h => dec_3 (k + 14) s h
  have D2 := fun h => dec_2 (k + 20) s h
  generalize (s.get! 0).toNat = b0 at *; generalize (s.get! 1).toNat = b1 at *; generalize (s.get! 2).toNat = b2 at *; generalize (s.get! 3).toNat = b3 at *
  rw [E5] at D4
  generalize hr : Lib.decodeN s.size b0 b1 b2 b3 = r
  have key : ∀ c n : Nat, Lib.decodeN s.size b0 b1 b2 b3 = (c, n) → (some ((c : Int), (n : Int), decide (c = 65533 ∧ n = 1)) : Option (Int × Int × Bool)) = some ((r.1 : Int), (r.2 : Int), decide (r = (65533, 1))) := by
    intro c n e
    rw [hr] at e
    subst e
    simp
  have keyF : ∀ c n : Nat, Lib.decodeN s.size b0 b1 b2 b3 = (c, n) → ¬ (c = 65533 ∧ n = 1) → (some ((c : Int), (n : Int), false) : Option (Int × Int × Bool)) = some ((r.1 : Int), (r.2 : Int), decide (r = (65533, 1))) := by
    intro c n e hne
    rw [← key c n e, decide_eq_false hne]
  have bad : Lib.decodeN s.size b0 b1 b2 b3 = (65533, 1) → (some (65533, 1, true) : Option (Int × Int × Bool)) = some ((r.1 : Int), (r.2 : Int), decide (r = (65533, 1))) := by
    intro e
    rw [← key 65533 1 e]; simp
  clear key hr
  by_cases a1 : b0 < 128
  · rw [if_pos a1]
    exact keyF b0 1 (by unfold Lib.decodeN; rw [if_pos a1]) (by omega)
  rw [if_neg a1]
  by_cases s2 : s.size < 2
  · rw [E2 s2]
    exact bad (by unfold Lib.decodeN; repeat' split
                  all_goals first | rfl | (exfalso; omega))
  rw [D2 (by omega)]
  by_cases a2 : b0 / 32 = 6 ∧ b1 / 64 = 2 ∧ 128 ≤ b0 % 32 * 64 + b1 % 64
  · rw [if_pos a2]
    exact keyF _ 2 (by unfold Lib.decodeN; repeat' split
                       all_goals first | (exfalso; omega) | (apply Prod.ext <;> simp only <;> omega)) (by omega)
  rw [if_neg a2]
  by_cases s3 : s.size < 3
  · rw [E3 s3]
    exact bad (by unfold Lib.decodeN; repeat' split
                  all_goals first | rfl | (exfalso; omega))
  rw [D3 (by omega)]
  by_cases a3 : b0 / 16 = 14 ∧ b1 / 64 = 2 ∧ b2 / 64 = 2 ∧ 2048 ≤ b0 % 16 * 4096 + b1 % 64 * 64 + b2 % 64 ∧ (b0 % 16 * 4096 + b1 % 64 * 64 + b2 % 64 < 55296 ∨ (57344 ≤ b0 % 16 * 4096 + b1 % 64 * 64 + b2 % 64 ∧ b0 % 16 * 4096 + b1 % 64 * 64 + b2 % 64 ≤ 1114111))
  · rw [if_pos a3]
    exact keyF _ 3 (by unfold Lib.decodeN; repeat' split
                       all_goals first | (exfalso; omega) | (apply Prod.ext <;> simp only <;> omega)) (by omega)
  rw [if_neg a3]
  by_cases s4 : s.size < 4
  · rw [E4 s4]
    exact bad (by unfold Lib.decodeN; repeat' split
                  all_goals first | rfl | (exfalso; omega))
  rw [D4 (by omega)]
  by_cases a4 : b0 / 8 = 30 ∧ b1 / 64 = 2 ∧ b2 / 64 = 2 ∧ b3 / 64 = 2 ∧ 65536 ≤ b0 % 8 * 262144 + b1 % 64 * 4096 + b2 % 64 * 64 + b3 % 64 ∧ b0 % 8 * 262144 + b1 % 64 * 4096 + b2 % 64 * 64 + b3 % 64 ≤ 1114111
  · rw [if_pos a4]
    exact keyF _ 4 (by unfold Lib.decodeN; repeat' split
                       all_goals first | (exfalso; omega) | (apply Prod.ext <;> simp only <;> omega)) (by omega)
  rw [if_neg a4]
  exact bad (by unfold Lib.decodeN; repeat' split
                all_goals first | rfl | (exfalso; omega))
end Go.Proofs.YtcoippikicikoaaDoor
namespace Go.Proofs.YtcoippikicikoaaDoor
open Go.RowKit Go.Proofs.YtcoippikicikoaaDoorW.PrintWords Go.Proofs.YtcoippikicikoaaDoorW.PrintLast Go.Proofs.YtcoippikicikoaaDoorW.PrintMore
open Go.Proofs.YtcoippikicikoaaDoor.PQPut (quote_put.f quote_escape.f quote_put.calls quote_escape.calls)
attribute [local go_sem] max2_int min2_int max_two min_two
theorem get_extract (s : ByteArray) (p i : Nat) : (s.extract p s.size).get! i = s.get! (p + i) := by
  have e : ∀ (t : ByteArray) (j : Nat), t.get! j = (t.data.toList[j]?).getD default := fun t j => by
    cases t with | mk a => simp [ByteArray.get!, Array.getElem!_eq_getD]
  rw [e, e]
  congr 1
  have : (s.extract p s.size).data.toList = s.data.toList.drop p := by
    rw [Lib.extract_to_end]
  rw [this, List.getElem?_drop]
theorem size_extract (s : ByteArray) (p : Nat) : (s.extract p s.size).size = s.size - p := by
  rw [Lib.size_eq, Lib.extract_to_end, List.length_drop, ← Lib.size_eq]
theorem dec_extract (s : ByteArray) (p : Nat) (h : p < s.size) : Lib.decodeGo (s.extract p s.size) = Utf8.decode s p := by
  unfold Lib.decodeGo
  rw [if_neg (by rw [size_extract]; omega), Lib.decode_at, Lib.decode_at, size_extract]
  simp only [get_extract, Nat.zero_add, Nat.add_zero, Nat.sub_zero]
def quoteGo (s : ByteArray) (asc : Bool) : Nat → Nat → List Int → Option (List Int)
  | 0, pos, l => if pos < s.size then none else some l
  | fuel + 1, pos, l => if pos < s.size then
      (if (Utf8.decode s pos).1 = 65533 ∧ (Utf8.decode s pos).2 = 1 then quote_escape.f 100 l 120 (bt s pos) 2 else quote_put.f 100 l (Utf8.decode s pos).1 34 asc).bind fun l' => quoteGo s asc fuel (pos + (Utf8.decode s pos).2) l'
    else some l
theorem quoteGo_end (s : ByteArray) (asc : Bool) (fuel pos : Nat) (l : List Int) (h : ¬ pos < s.size) : quoteGo s asc fuel pos l = some l := by
  cases fuel <;> simp [quoteGo, h]
def quote_Quote.f (a0 : ByteArray) (a1 : Bool) : Option ByteArray := if a0.size ≤ 140737488355328 then (quoteGo a0 a1 a0.size 0 [34]).bind fun t => if t.length < 140737488355328 then some (strOfNums (t ++ [34])) else none else none
theorem iter_ne (w : World) (k : Nat) (s : ByteArray) (pos i : Nat) (h : i ≠ k) : (w.iterAt k s pos).heap[i]? = w.heap[i]? := by
  unfold World.iterAt
  simp only [Array.getElem?_setIfInBounds]
  rw [if_neg (fun e => h e.symm)]
set_option maxHeartbeats 2000000 in
theorem quote_Quote.calls (a0 : ByteArray) (a1 : Bool) (r : ByteArray) (w : World) (hOK : Ok w) (h : quote_Quote.f a0 a1 = some r) : Calls Tryd.prog 19 #[.string a0, .bool a1] w fun e w' => e = .returned (.string r) ∧ Below w.heap.size w w' := by
  unfold quote_Quote.f at h
  split at h
  case isFalse => cases h
  rename_i hs
  obtain ⟨t, ht, h⟩ := Option.bind_eq_some_iff.mp h
  split at h
  case isFalse => cases h
  rename_i hl
  obtain rfl := Option.some.inj h
  clear h
  have HT := Lib.hid ht
  have HL := Lib.hid hl
  have HQ := Lib.hid hOK
  clear ht hl hOK h
  go_enter Tryd.func19, Tryd.ntmps19
  go_wp2_with ((with_reducible refine gate_dst (N := 10) rfl ?_); refine Kd.R_lit (Kd.int .u8) w.heap.size 5 ?hg (N := 10) ?hd (xs := ([34] : List Int)) (inner := [.int .u8 34]) (ok := fun _ => True) (okp := fun _ => True) ?hr ?hp (fun _ hk => hk) trivial (Below.refl _ _) (Nat.le_refl _) (by simp) ?_; (case hd => rfl); (case hg => rfl); (case hr => first | (go_simp; done) | (go_simp; rfl)); (case hp => exact (Reps.one (show Kd.M (Kd.int .u8) _ _ _ 34 [.int .u8 34] from rfl) (Reps.none _ _))); intro v1 w1 ho1 hb1 hg_ hnew_; clear hg_ hnew_; obtain ⟨Ao, co, rfl⟩ := Kd.R_slice ho1)
  go_loopw [5] (fun v5 wr => ∃ (pos fuel : Nat) (l : List Int), wr.heap[w1.heap.size]? = some (.stringIter a0 pos) ∧ Below w.heap.size w wr ∧ Kd.R (Kd.int .u8) 5 wr w.heap.size (fun k => k ≠ w1.heap.size) v5 l ∧ Hid (quoteGo a0 a1 fuel pos l = some t) ∧ a0.size ≤ pos + fuel) (fun _ wr => a0.size - wr.iterPos w1.heap.size)
  case atStart =>
    refine ⟨0, a0.size, [34], ?_, hb1.alloc (Below.size hb1) _, ?_, HT, by omega⟩
    · exact World.iter_heap w1 a0 0
    · exact Kd.R_alloc (Kd.R_reok rfl ho1 (fun k hk => by have := Kd.R_lt ho1 k hk; omega)) _
  case round =>
    obtain ⟨pos, fuel, l, hit, hbw, hR, hacc, hfu⟩ := hrel
    by_cases hp : pos < a0.size
    · have hnx : ∀ ty, (Instr.next (.pointer (some ⟨w1.heap.size, 0, none⟩)) true ty).run Tryd.prog wr = _ := fun ty => Lib.run_next_any_at wr w1.heap.size a0 pos ty hit hp
      have hwd := dec_pos a0 pos hp
      have hit2 := Lib.iterAt_heap wr w1.heap.size a0 pos (pos + (Utf8.decode a0 pos).2) hit
      have hbw2 := Lib.below_iterAt hbw (k := w1.heap.size) (Below.size hb1) a0 (pos + (Utf8.decode a0 pos).2)
      have hR2 : Kd.R (Kd.int .u8) 5 (wr.iterAt w1.heap.size a0 (pos + (Utf8.decode a0 pos).2)) w.heap.size (fun k => k ≠ w1.heap.size) u5 l := Kd.R_step hR (fun k hk _ => iter_ne _ _ _ _ _ hk)
      obtain ⟨f, rfl⟩ : ∃ f, fuel = f + 1 := ⟨fuel - 1, by omega⟩
      obtain ⟨D, hD⟩ : ∃ D, D = Utf8.decode a0 pos := ⟨_, rfl⟩
      have hde := dec_extract a0 pos hp
      have hacc := hacc.out
      unfold quoteGo at hacc
      rw [if_pos hp] at hacc
      obtain ⟨l', hl', hrest⟩ := Option.bind_eq_some_iff.mp hacc
      clear hacc
      simp only [← hD] at hit2 hbw2 hR2 hde hl' hrest hwd
      obtain ⟨wi, hwi⟩ : ∃ wi, wi = wr.iterAt w1.heap.size a0 (pos + D.2) := ⟨_, rfl⟩
      simp only [← hwi] at hit2 hbw2 hR2
      obtain ⟨Al, cl, rfl⟩ := Kd.R_slice hR
      have hne : some w1.heap.size ≠ (Value.slice Al l.length cl).ownBlock := Kd.R_away hR (fun k hk => hk)
      have hdec := ((DecodeRuneInString (a0.extract pos a0.size)).made ((HQ.out).later hbw2))
      rw [hde] at hdec
      have hput : ∀ (wz : World), Below wi.heap.size wi wz → ¬(D.1 = 65533 ∧ D.2 = 1) → Calls Tryd.prog 41 #[.slice Al l.length cl, .int .i32 (D.1 : Int), .int .i32 34, .bool a1] wz fun e w' => ∃ v0_ : Value, e = .returned (v0_) ∧ Kd.R (Kd.int .u8) 5 w' w.heap.size (fun k => k ≠ w1.heap.size) v0_ l' ∧ Below w.heap.size w w' ∧ w'.heap[w1.heap.size]? = some (.stringIter a0 (pos + D.2)) := by
        intro wz hz hn
        rw [if_neg hn] at hl'
        have hbz : Below w.heap.size w wz := hbw2.trans (hz.mono (Below.size hbw2))
        have hRz : Kd.R (Kd.int .u8) 5 wz w.heap.size (fun k => k ≠ w1.heap.size) (.slice Al l.length cl) l := Kd.R_below hR2 hz
        have hitz : wz.heap[w1.heap.size]? = some (.stringIter a0 (pos + D.2)) := (hz.block _ (blk_lt hit2)).trans hit2
        refine (quote_put.calls 100 (fun k_ => some k_ = (.slice Al l.length cl : Value).ownBlock) (.slice Al l.length cl) l D.1 34 a1 l' w wz hbz (Kd.R_tight rfl hRz) hl').mono ?_
        rintro e w3 ⟨v3, rfl, ho3, hb3, hk3⟩
        exact ⟨v3, rfl, Kd.R_mono ho3 (fun k hk => hk.elim (fun h he => hne (he ▸ h)) (fun h he => by have := blk_lt hitz; omega)), hb3, blk_kept hitz hk3 hne⟩
      have hesc : ∀ (wz : World), Below wi.heap.size wi wz → (D.1 = 65533 ∧ D.2 = 1) → Calls Tryd.prog 40 #[.slice Al l.length cl, .int .u8 120, .int .i32 (bt a0 pos), .int .i64 2] wz fun e w' => ∃ v0_ : Value, e = .returned (v0_) ∧ Kd.R (Kd.int .u8) 5 w' w.heap.size (fun k => k ≠ w1.heap.size) v0_ l' ∧ Below w.heap.size w w' ∧ w'.heap[w1.heap.size]? = some (.stringIter a0 (pos + D.2)) := by
        intro wz hz hn
        rw [if_pos hn] at hl'
        have hbz : Below w.heap.size w wz := hbw2.trans (hz.mono (Below.size hbw2))
        have hRz : Kd.R (Kd.int .u8) 5 wz w.heap.size (fun k => k ≠ w1.heap.size) (.slice Al l.length cl) l := Kd.R_below hR2 hz
        have hitz : wz.heap[w1.heap.size]? = some (.stringIter a0 (pos + D.2)) := (hz.block _ (blk_lt hit2)).trans hit2
        refine (quote_escape.calls 100 (fun k_ => some k_ = (.slice Al l.length cl : Value).ownBlock) (.slice Al l.length cl) l 120 (bt a0 pos) 2 l' w wz hbz (Kd.R_tight rfl hRz) hl').mono ?_
        rintro e w3 ⟨v3, rfl, ho3, hb3, hk3⟩
        exact ⟨v3, rfl, Kd.R_mono ho3 (fun k hk => hk.elim (fun h he => hne (he ▸ h)) (fun h he => by have := blk_lt hitz; omega)), hb3, blk_kept hitz hk3 hne⟩
      have HRest := Lib.hid hrest
      clear hl' hrest hnx
      have hnx : ∀ ty, (Instr.next (.pointer (some ⟨w1.heap.size, 0, none⟩)) true ty).run Tryd.prog wr = _ := fun ty => Lib.run_next_any_at wr w1.heap.size a0 pos ty hit hp
      simp only [← hD, ← hwi] at hnx
      have HD := Lib.hid hD
      have HWI := Lib.hid hwi
      clear hD hwi hde hne hR
      by_cases hc : D.1 = 65533
      · have hcb : (((D.1 : Nat) : Int) == 65533) = true := beq_iff_eq.2 (by omega)
        have p1 : (0 ≤ ((pos : Nat) : Int)) = True := eq_true (by omega)
        have q1 : (((pos : Nat) : Int) < (a0.size : Int)) = True := eq_true (by omega)
        have q2 : (((pos : Nat) : Int) ≤ (a0.size : Int)) = True := eq_true (by omega)
        have eb : bt a0 pos = wrap32 ((a0[pos]'hp).toNat : Int) := by
          rw [bt_get, wrap32_id (by omega) (by have := (a0[pos]'hp).toNat_lt; omega)]
          congr 2
          cases a0 with | mk a => exact getElem!_pos a pos hp
        rw [eb] at hesc
        clear eb
        rw [hc] at hput
        rw [show ((65533 : Nat) : Int) = 65533 from rfl] at hput
        by_cases hn : D.2 = 1
        · have hnb : (((D.2 : Nat) : Int) == 1) = true := beq_iff_eq.2 (by omega)
          go_wp2_with (first | (go_at_call 39; (with_reducible refine hdec.mono ?_); rintro e w2 ⟨rfl, hb2⟩) | (go_at_call 40; (with_reducible refine (hesc _ hb2 ⟨hc, hn⟩).mono ?_); rintro e w3 ⟨v3, rfl, hR3, hb3, hit3⟩))
          go_roundw
          case rel =>
            go_light
            exact ⟨pos + D.2, f, l', hit3, hb3, hR3, HRest, by omega⟩
          case measure =>
            go_light
            simp only [World.iterPos, hit3, hit]
            omega
        · have hnn : ¬((65533 : Nat) = 65533 ∧ D.2 = 1) := fun h => hn h.2
          have hnb : (((D.2 : Nat) : Int) == 1) = false := beq_eq_false_iff_ne.2 (by omega)
          go_wp2_with (first | (go_at_call 39; (with_reducible refine hdec.mono ?_); rintro e w2 ⟨rfl, hb2⟩) | (go_at_call 41; (with_reducible refine (hput _ hb2 hnn).mono ?_); rintro e w3 ⟨v3, rfl, hR3, hb3, hit3⟩))
          go_roundw
          case rel =>
            go_light
            exact ⟨pos + D.2, f, l', hit3, hb3, hR3, HRest, by omega⟩
          case measure =>
            go_light
            simp only [World.iterPos, hit3, hit]
            omega
      · have hcb : (((D.1 : Nat) : Int) == 65533) = false := beq_eq_false_iff_ne.2 (by omega)
        go_wp2_with (go_at_call 41; refine (hput _ (Below.refl _ _) (fun h => hc h.1)).mono ?_; rintro e w3 ⟨v3, rfl, hR3, hb3, hit3⟩)
        go_roundw
        case rel =>
          go_light
          exact ⟨pos + D.2, f, l', hit3, hb3, hR3, HRest, by omega⟩
        case measure =>
          go_light
          simp only [World.iterPos, hit3, hit]
          omega
    · have hnx : ∀ ty, (Instr.next (.pointer (some ⟨w1.heap.size, 0, none⟩)) true ty).run Tryd.prog wr = _ := fun ty => Lib.run_next_end_at wr w1.heap.size a0 pos ty hit hp
      have hacc := hacc.out
      rw [quoteGo_end a0 a1 fuel pos l hp] at hacc
      obtain rfl := Option.some.inj hacc
      clear hacc
      obtain ⟨Al, cl, rfl⟩ := Kd.R_slice hR
      go_wp2_with ((with_reducible refine gate_builtin (b := .append) (xs := #[.tmp 38, .tmp 39]) rfl ?_); at_builtin; (refine Kd.R_append (Kd.int .u8) (w0 := w) w.heap.size rfl (.tmp 38) (.tmp 39) 44 5 (.int .u8 0) 1 rfl Tryd.underlying44 PQPut.info5 rfl (by decide) (by omega) (.slice Al l.length cl) l 34 [.int .u8 34] (fun _ => True) (fun _ => False) rfl rfl ?aP (fun _ hk => hk.elim) ?aF ?aO ?aB ?aS ?aL ?_; (case aP => exact rfl); (case aB => exact hbw); (case aF => exact (fun _ _ => trivial)); (case aO => exact Kd.R_mono hR (fun _ _ => trivial)); (case aS => exact Below.size hbw); (case aL => have := HL.out; omega); intro v4 w4 ho4 hb4 hg4 hat4; have hcv := own_string (P := Tryd.prog) Tryd.underlying44 Tryd.underlying5 Tryd.underlying9 (Kd.own_of_R ho4)))
      go_ret
      exact ⟨rfl, hb4⟩
end Go.Proofs.YtcoippikicikoaaDoor
namespace Go.Proofs.YtcoippikicikoaaDoor
open Go.RowKit
theorem upd_u8 {P : Program} {t kt et : TypeId} (hT : P.underlying t = some (.map kt et)) (hK : P.underlying kt = some (.int .u8)) (w : World) (b : Nat) (es : Array MapEntry) (clock : Nat)
    (hb : w.heap[b]? = some (.map es clock)) (k : Int) (v : Value) (hf : Instr.findNow (.int .u8) (.int .u8 k) es.toList 0 = some none) :
    (Instr.mapUpdate t (.map (some b)) (.int .u8 k) v).run P w = .ok () { w with heap := w.heap.setIfInBounds b (.map (es.push { key := .int .u8 k, val := v, born := clock }) (clock + 1)) } := by
  have hkey : MapKept.IsKey (.int .u8) (.int .u8 k) := by simp [MapKept.IsKey]
  simp [Instr.mapUpdate, run_underlying hT, MapKept.run_getObj_map hb, MapKept.run_checkKey hK hkey, MapKept.run_findKey hK hf, MapKept.run_setObj_map _ hb, Result.andThen]
theorem look_u8 {P : Program} {t kt et : TypeId} {z : Value} (hT : P.underlying t = some (.map kt et)) (hK : P.underlying kt = some (.int .u8)) (hz : ∀ w, (zeroValue et).run P w = .ok z w) (w : World) (b : Nat) (es : Array MapEntry) (clock : Nat)
    (hb : w.heap[b]? = some (.map es clock)) (k : Int) (o : Option (Nat × Value)) (hf : Instr.findNow (.int .u8) (.int .u8 k) es.toList 0 = some o) :
    (Instr.lookup t (.map (some b)) (.int .u8 k) false).run P w = .ok ((o.map (·.2)).getD z) w := by
  have hkey : MapKept.IsKey (.int .u8) (.int .u8 k) := by simp [MapKept.IsKey]
  cases o with
  | none => simp [Instr.lookup, run_underlying hT, MapKept.run_getObj_map hb, MapKept.run_checkKey hK hkey, MapKept.run_findKey hK hf, Result.andThen, hz]
  | some p => simp [Instr.lookup, run_underlying hT, MapKept.run_getObj_map hb, MapKept.run_checkKey hK hkey, MapKept.run_findKey hK hf, Result.andThen, hz]
theorem upd_new {P : Program} {t kt et : TypeId} (hT : P.underlying t = some (.map kt et)) (hK : P.underlying kt = some (.int .u8)) (w : World) (es : Array MapEntry) (clock : Nat)
    (k : Int) (v : Value) (hf : Instr.findNow (.int .u8) (.int .u8 k) es.toList 0 = some none) :
    (Instr.mapUpdate t (.map (some w.heap.size)) (.int .u8 k) v).run P (w.alloc (.map es clock)) = .ok () (w.alloc (.map (es.push { key := .int .u8 k, val := v, born := clock }) (clock + 1))) := by
  rw [upd_u8 hT hK (w.alloc (.map es clock)) w.heap.size es clock (by exact Array.getElem?_push_size) k v hf]
  congr 1
  unfold World.alloc
  simp only [World.mk.injEq, and_true, true_and]
  apply Array.ext_getElem?
  intro i
  rw [Array.getElem?_setIfInBounds, Array.getElem?_push, Array.getElem?_push, Array.size_push]
  by_cases h : w.heap.size = i
  · subst h; simp
  · rw [if_neg h, if_neg (fun e => h e.symm), if_neg (fun e => h e.symm)]
def widths : Array MapEntry := #[⟨.int .u8 120, .int .i64 2, 0⟩, ⟨.int .u8 117, .int .i64 4, 1⟩, ⟨.int .u8 85, .int .i64 8, 2⟩]
def widthOf (k : Int) : Int := if k = 120 then 2 else if k = 117 then 4 else if k = 85 then 8 else 0
theorem look_widths {P : Program} {t kt et : TypeId} (hT : P.underlying t = some (.map kt et)) (hK : P.underlying kt = some (.int .u8)) (hz : ∀ w, (zeroValue et).run P w = .ok (.int .i64 0) w) (w : World) (k : Int) :
    (Instr.lookup t (.map (some w.heap.size)) (.int .u8 k) false).run P (w.alloc (.map widths 3)) = .ok (.int .i64 (widthOf k)) (w.alloc (.map widths 3)) := by
  have hb : (w.alloc (.map widths 3)).heap[w.heap.size]? = some (.map widths 3) := Array.getElem?_push_size
  unfold widthOf
  by_cases h1 : k = 120
  · subst h1; exact look_u8 hT hK hz _ _ _ _ hb 120 (some (0, .int .i64 2)) rfl
  by_cases h2 : k = 117
  · subst h2; exact look_u8 hT hK hz _ _ _ _ hb 117 (some (1, .int .i64 4)) rfl
  by_cases h3 : k = 85
  · subst h3; exact look_u8 hT hK hz _ _ _ _ hb 85 (some (2, .int .i64 8)) rfl
  rw [if_neg h1, if_neg h2, if_neg h3]
  refine look_u8 hT hK hz _ _ _ _ hb k none ?_
  have b1 : (k == 120) = false := beq_eq_false_iff_ne.2 h1
  have b2 : (k == 117) = false := beq_eq_false_iff_ne.2 h2
  have b3 : (k == 85) = false := beq_eq_false_iff_ne.2 h3
  simp [widths, Instr.findNow, Instr.sameNow, b1, b2, b3]
end Go.Proofs.YtcoippikicikoaaDoor
namespace Go.Proofs.YtcoippikicikoaaDoor
open Go.RowKit Go.Proofs.YtcoippikicikoaaDoorW.PrintWords
def smallL : List UInt8 := [48, 49, 50, 51, 52, 53, 54, 55, 56, 57, 97, 98, 99, 100, 101, 102]
def lettersL : List UInt8 := [97, 98, 116, 110, 118, 102, 114]
theorem indexByte_lt (l : List UInt8) (c : UInt8) : Lib.indexByte l c < l.length := by
  induction l with
  | nil => simp [Lib.indexByte]
  | cons b l ih =>
    unfold Lib.indexByte
    split
    · simp only [List.length_cons]; omega
    · split
      · simp only [List.length_cons]; omega
      · simp only [List.length_cons]; omega
def digV (c : UInt8) : Int := Lib.indexByte smallL c
theorem digV_range (c : UInt8) : -1 ≤ digV c ∧ digV c < 16 := ⟨Lib.indexByte_ge _ _, indexByte_lt smallL c⟩
theorem quote_digit (c : UInt8) (w : World) : Calls Tryd.prog 46 #[.int .u8 (c.toNat : Int)] w fun e w' => e = .returned (.int .i32 (digV c)) ∧ w' = w := by
  obtain ⟨h0, h1⟩ := digV_range c
  have hw : wrap32 (digV c) = digV c := wrap32_id (by omega) (by omega)
  have hi := Tryd.strings_IndexByte ⟨#[48, 49, 50, 51, 52, 53, 54, 55, 56, 57, 97, 98, 99, 100, 101, 102]⟩ (c.toNat : Int) w
  have ec : ((c.toNat : Int).toNat).toUInt8 = c := by simp
  rw [ec] at hi
  have hi : Calls Tryd.prog 45 #[.string ⟨#[48, 49, 50, 51, 52, 53, 54, 55, 56, 57, 97, 98, 99, 100, 101, 102]⟩, .int .u8 (c.toNat : Int)] w fun e w' => e = .returned (.int .i64 (digV c)) ∧ w' = w := hi
  clear ec
  generalize digV c = D at hi hw h0 h1 ⊢
  go_enter Tryd.func46, Tryd.ntmps46
  go_wp2_with (go_at_call 45; (with_reducible refine hi.mono ?_); rintro e w' ⟨rfl, rfl⟩)
  go_ret
  exact ⟨rfl, rfl⟩
def hexGo (s : ByteArray) : Nat → Nat → Nat → Option Nat
  | 0, _, v => some v
  | n + 1, i, v => if digV (s.get! i) < 0 then none else hexGo s n (i + 1) (16 * v + (digV (s.get! i)).toNat)
def oneB (s : ByteArray) : ByteArray × Int :=
  if s.get! 0 ≠ 92 then
    (if ((Utf8.decode s 0).1 = 65533 ∧ (Utf8.decode s 0).2 = 1) ∨ (Utf8.decode s 0).1 = 34 then (T [], 0) else (s.extract 0 (Utf8.decode s 0).2, (Utf8.decode s 0).2))
  else if s.size < 2 then (T [], 0)
  else if s.get! 1 = 34 ∨ s.get! 1 = 92 then (s.extract 1 2, 2)
  else if 0 ≤ Lib.indexByte lettersL (s.get! 1) then (T [UInt8.ofNat (7 + (Lib.indexByte lettersL (s.get! 1)).toNat)], 2)
  else if widthOf ((s.get! 1).toNat) = 0 ∨ (s.size : Int) < 2 + widthOf ((s.get! 1).toNat) then (T [], 0)
  else match hexGo s (widthOf ((s.get! 1).toNat)).toNat 2 0 with
    | none => (T [], 0)
    | some v => if widthOf ((s.get! 1).toNat) = 2 then (T [UInt8.ofNat v], 4) else (T (enc (wrap32 v)), 2 + widthOf ((s.get! 1).toNat))
theorem or_dig (v : Nat) (D : Int) (h0 : 0 ≤ D) (h1 : D < 16) : bits .or .i32 (wrap32 (wrap32 (v : Int) * 16)) D = wrap32 ((16 * v + D.toNat : Nat) : Int) := by
  obtain ⟨d, rfl⟩ : ∃ d : Nat, D = d := ⟨D.toNat, by omega⟩
  show IntKind.i32.wrap ((BitVec.ofInt 32 (wrap32 (wrap32 (v : Int) * 16)) ||| BitVec.ofInt 32 (d : Int)).toNat : Int) = _
  have e1 : (BitVec.ofInt 32 (wrap32 (wrap32 (v : Int) * 16))).toNat = 2 ^ 4 * (v % 268435456) := by
    rw [BitVec.toNat_ofInt]
    unfold wrap32
    omega
  have e2 : (BitVec.ofInt 32 (d : Int)).toNat = d := by
    rw [BitVec.toNat_ofInt]
    omega
  rw [BitVec.toNat_or, e1, e2, ← Nat.two_pow_add_eq_or_of_lt (by omega : d < 2 ^ 4), IntKind.wrap_i32]
  unfold wrap32
  omega
theorem get_lt (s : ByteArray) (i : Nat) (h : i < s.size) : s[i]'h = s.get! i := by
  cases s with | mk a => exact (getElem!_pos a i h).symm
theorem conv_one (w : World) (x : Int) : (convert 44 9 (.slice (some ⟨w.heap.size, 0, none⟩) 1 1)).run Tryd.prog (w.alloc (.cells #[.int .u8 x] 5)) = .ok (.string (strOfNums [x])) (w.alloc (.cells #[.int .u8 x] 5)) := by
  refine run_convert_bytes_arg (P := Tryd.prog) (w.alloc (.cells #[.int .u8 x] 5)) 44 5 Tryd.underlying44 Tryd.underlying5 w.heap.size 0 1 1 [x] rfl (fun i hi => ?_) 9 Tryd.underlying9
  obtain rfl : i = 0 := by simpa using hi
  exact cell_new w #[.int .u8 x] 5 rfl
set_option maxHeartbeats 2000000 in
theorem quote_one (s : ByteArray) (w : World) (hOK : Ok w) (h0 : 0 < s.size) (hs : s.size ≤ 140737488355328) : Calls Tryd.prog 26 #[.string s] w fun e w' => e = .returned (.tuple #[.string (oneB s).1, .int .i64 (oneB s).2]) ∧ Below w.heap.size w w' := by
  have g0 := get_lt s 0 h0
  have p0 : ((0 : Int) < (s.size : Int)) = True := eq_true (by omega)
  by_cases hb : s.get! 0 = 92
  · have hb0 : ((((s[0]'h0).toNat : Nat) : Int) != 92) = false := by rw [g0, hb]; decide
    by_cases h2 : s.size < 2
    · have e : oneB s = (T [], 0) := by unfold oneB; rw [if_neg (by simp [hb]), if_pos h2]
      rw [e]
      clear g0 hb
      go_enter Tryd.func26, Tryd.ntmps26
      go_wp2
      go_ret2
      exact ⟨rfl, Below.refl _ _⟩
    have h2' : 2 ≤ s.size := by omega
    have h1 : 1 < s.size := h2'
    have g1 := get_lt s 1 h1
    have p1 : ((1 : Int) < (s.size : Int)) = True := eq_true (by omega)
    have p2 : (((s.size : Nat) : Int) < 2) = False := eq_false (by omega)
    have p3 : ((2 : Int) ≤ (s.size : Int)) = True := eq_true (by omega)
    obtain ⟨c, hc⟩ : ∃ c, c = s.get! 1 := ⟨_, rfl⟩
    rw [← hc] at g1
    have eN : ∀ n : UInt8, (((c.toNat : Nat) : Int) == ((n.toNat : Nat) : Int)) = (c == n) := fun n => by
      rw [Bool.eq_iff_iff, beq_iff_eq, beq_iff_eq, ← UInt8.toNat_inj]; omega
    by_cases hq : c = 34 ∨ c = 92
    · have e : oneB s = (s.extract 1 2, 2) := by unfold oneB; rw [if_neg (by simp [hb]), if_neg h2, ← hc, if_pos hq]
      rw [e]
      by_cases h34 : c = 34
      · have k1 : ((((s[1]'h1).toNat : Nat) : Int) == 34) = true := by rw [g1, h34]; decide
        clear g0 g1 hb hc eN hq e
        go_enter Tryd.func26, Tryd.ntmps26
        go_wp2
        go_ret2
        exact ⟨rfl, Below.refl _ _⟩
      · have h92 : c = 92 := hq.resolve_left h34
        have k1 : ((((s[1]'h1).toNat : Nat) : Int) == 34) = false := by rw [g1, h92]; decide
        have k2 : ((((s[1]'h1).toNat : Nat) : Int) == 92) = true := by rw [g1, h92]; decide
        clear g0 g1 hb hc eN hq e
        go_enter Tryd.func26, Tryd.ntmps26
        go_wp2
        go_ret2
        exact ⟨rfl, Below.refl _ _⟩
    have k1 : ((((s[1]'h1).toNat : Nat) : Int) == 34) = false := by rw [g1]; exact (eN 34).trans (beq_eq_false_iff_ne.2 (fun e => hq (.inl e)))
    have k2 : ((((s[1]'h1).toNat : Nat) : Int) == 92) = false := by rw [g1]; exact (eN 92).trans (beq_eq_false_iff_ne.2 (fun e => hq (.inr e)))
    have hi := Tryd.strings_IndexByte ⟨#[97, 98, 116, 110, 118, 102, 114]⟩ ((c.toNat : Nat) : Int)
    have ec : (((c.toNat : Nat) : Int).toNat).toUInt8 = c := by simp
    rw [ec] at hi
    have hi : ∀ w, Calls Tryd.prog 45 #[.string ⟨#[97, 98, 116, 110, 118, 102, 114]⟩, .int .u8 (((s[1]'h1).toNat : Nat) : Int)] w fun e w' => e = .returned (.int .i64 (Lib.indexByte lettersL c)) ∧ w' = w := by rw [g1]; exact hi
    have hir : -1 ≤ Lib.indexByte lettersL c ∧ Lib.indexByte lettersL c < 7 := ⟨Lib.indexByte_ge _ _, indexByte_lt lettersL c⟩
    obtain ⟨K, hK⟩ : ∃ K, K = Lib.indexByte lettersL c := ⟨_, rfl⟩
    rw [← hK] at hi hir
    obtain ⟨hir1, hir2⟩ := hir
    by_cases hk : 0 ≤ K
    · have e : oneB s = (T [UInt8.ofNat (7 + K.toNat)], 2) := by unfold oneB; rw [if_neg (by simp [hb]), if_neg h2, ← hc, if_neg hq, ← hK, if_pos hk]
      rw [e]
      obtain ⟨k, rfl⟩ : ∃ k : Nat, K = k := ⟨K.toNat, by omega⟩
      clear g0 g1 hb hc eN hq e hK ec hir1
      have hcv := fun w => conv_one w (7 + (k : Int))
      have e1 : strOfNums [7 + (k : Int)] = T [UInt8.ofNat (7 + (k : Int).toNat)] := by
        unfold strOfNums
        simp only [List.map_cons, List.map_nil]
        rw [show (7 + (k : Int)).toNat = 7 + (k : Int).toNat by omega]
      rw [e1] at hcv
      clear e1
      obtain ⟨R, hR⟩ : ∃ R, R = T [UInt8.ofNat (7 + (k : Int).toNat)] := ⟨_, rfl⟩
      rw [← hR] at hcv ⊢
      clear hR
      go_enter Tryd.func26, Tryd.ntmps26
      go_wp2_with (go_at_call 45; (with_reducible refine (hi _).mono ?_); rintro e w' ⟨rfl, rfl⟩)
      go_ret2
      exact ⟨rfl, (Below.refl _ _).alloc (Nat.le_refl _) _⟩
    obtain ⟨N, hN⟩ : ∃ N : Nat, widthOf ((c.toNat : Nat) : Int) = N := by
      unfold widthOf
      split
      · exact ⟨2, rfl⟩
      split
      · exact ⟨4, rfl⟩
      split
      · exact ⟨8, rfl⟩
      · exact ⟨0, rfl⟩
    have hN8 : N = 0 ∨ N = 2 ∨ N = 4 ∨ N = 8 := by
      unfold widthOf at hN
      split at hN
      · omega
      split at hN
      · omega
      split at hN <;> omega
    have hkb : (decide (K ≥ 0)) = false := decide_eq_false (by omega)
    have hmm := @run_makeMap Tryd.prog
    have hi1 := fun w : World => upd_new (P := Tryd.prog) Tryd.underlying63 Tryd.underlying5 w #[] 0 120 (.int .i64 2) rfl
    have hi2 := fun w : World => upd_new (P := Tryd.prog) Tryd.underlying63 Tryd.underlying5 w #[⟨.int .u8 120, .int .i64 2, 0⟩] 1 117 (.int .i64 4) rfl
    have hi3 := fun w : World => upd_new (P := Tryd.prog) Tryd.underlying63 Tryd.underlying5 w #[⟨.int .u8 120, .int .i64 2, 0⟩, ⟨.int .u8 117, .int .i64 4, 1⟩] 2 85 (.int .i64 8) rfl
    have hlk := fun w : World => look_widths (P := Tryd.prog) Tryd.underlying63 Tryd.underlying5 Tryd.zeroValue3 w (((s[1]'h1).toNat : Nat) : Int)
    rw [g1, hN] at hlk
    rw [← g1] at hlk
    have hlk : ∀ w : World, (Instr.lookup 63 (.map (some w.heap.size)) (.int .u8 (((s[1]'h1).toNat : Nat) : Int)) false).run Tryd.prog (w.alloc (.map #[⟨.int .u8 120, .int .i64 2, 0⟩, ⟨.int .u8 117, .int .i64 4, 1⟩, ⟨.int .u8 85, .int .i64 8, 2⟩] 3)) = .ok (.int .i64 N) (w.alloc (.map #[⟨.int .u8 120, .int .i64 2, 0⟩, ⟨.int .u8 117, .int .i64 4, 1⟩, ⟨.int .u8 85, .int .i64 8, 2⟩] 3)) := hlk
    have hi1 : ∀ w : World, (Instr.mapUpdate 63 (.map (some w.heap.size)) (.int .u8 120) (.int .i64 2)).run Tryd.prog (w.alloc (.map #[] 0)) = .ok () (w.alloc (.map #[⟨.int .u8 120, .int .i64 2, 0⟩] 1)) := hi1
    have hi2 : ∀ w : World, (Instr.mapUpdate 63 (.map (some w.heap.size)) (.int .u8 117) (.int .i64 4)).run Tryd.prog (w.alloc (.map #[⟨.int .u8 120, .int .i64 2, 0⟩] 1)) = .ok () (w.alloc (.map #[⟨.int .u8 120, .int .i64 2, 0⟩, ⟨.int .u8 117, .int .i64 4, 1⟩] 2)) := hi2
    have hi3 : ∀ w : World, (Instr.mapUpdate 63 (.map (some w.heap.size)) (.int .u8 85) (.int .i64 8)).run Tryd.prog (w.alloc (.map #[⟨.int .u8 120, .int .i64 2, 0⟩, ⟨.int .u8 117, .int .i64 4, 1⟩] 2)) = .ok () (w.alloc (.map #[⟨.int .u8 120, .int .i64 2, 0⟩, ⟨.int .u8 117, .int .i64 4, 1⟩, ⟨.int .u8 85, .int .i64 8, 2⟩] 3)) := hi3
    by_cases hz : N = 0 ∨ (s.size : Int) < 2 + N
    · have e : oneB s = (T [], 0) := by
        unfold oneB
        rw [if_neg (by simp [hb]), if_neg h2, ← hc, if_neg hq, ← hK, if_neg hk, hN, if_pos (by omega)]
      rw [e]
      by_cases hz0 : N = 0
      · subst hz0
        clear g0 g1 hb hc eN hq e hK ec hir1 hN hN8 hz hk
        go_enter Tryd.func26, Tryd.ntmps26
        go_wp2_with (go_at_call 45; (with_reducible refine (hi _).mono ?_); rintro e w' ⟨rfl, rfl⟩)
        go_ret2
        exact ⟨rfl, (Below.refl _ _).alloc (Nat.le_refl _) _⟩
      · have z1 : (((N : Nat) : Int) == 0) = false := beq_eq_false_iff_ne.2 (by omega)
        have z2 : ((s.size : Int) < 2 + (N : Int)) = True := eq_true (by omega)
        have z3 : wrap64 (2 + (N : Int)) = 2 + (N : Int) := wrap64_id (by omega) (by omega)
        clear g0 g1 hb hc eN hq e hK ec hir1 hN hN8 hz hk
        go_enter Tryd.func26, Tryd.ntmps26
        go_wp2_with (go_at_call 45; (with_reducible refine (hi _).mono ?_); rintro e w' ⟨rfl, rfl⟩)
        go_ret2
        exact ⟨rfl, (Below.refl _ _).alloc (Nat.le_refl _) _⟩
    have hN2 : N = 2 ∨ N = 4 ∨ N = 8 := by omega
    have hNs : 2 + N ≤ s.size := by omega
    have z1 : (((N : Nat) : Int) == 0) = false := beq_eq_false_iff_ne.2 (by omega)
    have z2 : ((s.size : Int) < 2 + (N : Int)) = False := eq_false (by omega)
    have z3 : wrap64 (2 + (N : Int)) = 2 + (N : Int) := wrap64_id (by omega) (by omega)
    have e : oneB s = match hexGo s N 2 0 with
        | none => (T [], 0)
        | some v => if N = 2 then (T [UInt8.ofNat v], 4) else (T (enc (wrap32 v)), 2 + (N : Int)) := by
      unfold oneB
      rw [if_neg (by simp [hb]), if_neg h2, ← hc, if_neg hq, ← hK, if_neg hk, hN, if_neg (by omega)]
      rw [Int.toNat_natCast]
      cases hexGo s N 2 0 with
      | none => rfl
      | some v =>
        by_cases h : N = 2
        · simp only [if_pos h]; rw [if_pos (by omega)]
        · simp only [if_neg h]; rw [if_neg (by omega)]
    obtain ⟨R, hR⟩ : ∃ R, R = oneB s := ⟨_, rfl⟩
    rw [← hR] at e ⊢
    have HE := Lib.hid e
    have HN := Lib.hid hN2
    clear g0 g1 hb hc eN hq e hK ec hir1 hN hN8 hz hk hR hN2
    go_enter Tryd.func26, Tryd.ntmps26
    go_wp2_with (go_at_call 45; (with_reducible refine (hi _).mono ?_); rintro e w' ⟨rfl, rfl⟩)
    go_loopw [8, 9] (fun v8 v9 wr => ∃ (m i v : Nat), v8 = .int .i32 (wrap32 (v : Int)) ∧ v9 = .int .i64 (i : Int) ∧ Below w'.heap.size w' wr ∧ i + m = 2 + N ∧ 2 ≤ i ∧ Hid (hexGo s N 2 0 = hexGo s m i v)) (fun _ v9 _ => 2 + N - (intOf v9).toNat)
    case atStart => exact ⟨N, 2, 0, by rw [wrap32_id (by decide) (by decide)]; rfl, rfl, (Below.refl _ _).alloc (Nat.le_refl _) _, by omega, by omega, Lib.hid rfl⟩
    case round =>
      obtain ⟨m, i, v, rfl, rfl, hbw, him, hi2, hacc⟩ := hrel
      by_cases hm : m = 0
      · subst hm
        have y1 : ((i : Int) < 2 + (N : Int)) = False := eq_false (by omega)
        have hh := hacc.out
        simp only [hexGo] at hh
        have e := HE.out
        rw [hh] at e
        simp only at e
        clear hh hacc
        by_cases hN2 : N = 2
        · subst hN2
          rw [if_pos rfl] at e
          have HE2 := Lib.hid e
          clear e
          have hcv := fun w => conv_one w ((wrap32 (v : Int)) % 256)
          go_wp2
          go_ret2
          have e := HE2.out
          have e3 : strOfNums [wrap32 (v : Int) % 256] = T [UInt8.ofNat v] := by
            unfold strOfNums
            simp only [List.map_cons, List.map_nil]
            have e4 : UInt8.ofNat (wrap32 (v : Int) % 256).toNat = UInt8.ofNat v := by
              apply UInt8.toNat_inj.1
              simp only [UInt8.toNat_ofNat']
              unfold wrap32
              omega
            rw [← e4]
          exact ⟨by rw [e, ← e3]; rfl, hbw.alloc (Below.size hbw) _⟩
        · rw [if_neg hN2] at e
          have y2 : (((N : Nat) : Int) == 2) = false := beq_eq_false_iff_ne.2 (by omega)
          have HE2 := Lib.hid e
          clear e
          go_wp2
          go_ret2
          have e := HE2.out
          have e5 : T (enc (wrap32 (v : Int))) = Utf8.encode (wrap32 (v : Int)) := (encode_enc _).symm
          exact ⟨by rw [e]; simp only []; rw [e5]; rfl, hbw⟩
      · obtain ⟨m, rfl⟩ : ∃ m', m = m' + 1 := ⟨m - 1, by omega⟩
        have y1 : ((i : Int) < 2 + (N : Int)) = True := eq_true (by omega)
        have y2 : ((i : Int) < (s.size : Int)) = True := eq_true (by omega)
        have y3 : (0 ≤ ((i : Nat) : Int)) = True := eq_true (by omega)
        have hlt : i < s.size := by omega
        have hdg := fun wz => quote_digit (s[i]'hlt) wz
        have gi := get_lt s i hlt
        obtain ⟨d0, d1⟩ := digV_range (s[i]'hlt)
        have hacc := hacc.out
        simp only [hexGo] at hacc
        rw [← gi] at hacc
        obtain ⟨D, hD⟩ : ∃ D, D = digV (s[i]'hlt) := ⟨_, rfl⟩
        rw [← hD] at hacc d0 d1
        simp only [← hD] at hdg
        have HD := Lib.hid hD
        clear hD gi
        by_cases hneg : D < 0
        · have y4 : (decide (D < 0)) = true := decide_eq_true hneg
          rw [if_pos hneg] at hacc
          have hh := Lib.hid hacc
          clear hacc
          go_wp2_with (go_at_call 46; (with_reducible refine (hdg _).mono ?_); rintro e w2 ⟨rfl, rfl⟩)
          go_ret2
          have e := HE.out
          rw [hh.out] at e
          simp only at e
          exact ⟨by rw [e]; rfl, hbw⟩
        · have y4 : (decide (D < 0)) = false := decide_eq_false hneg
          rw [if_neg hneg] at hacc
          have hh := Lib.hid hacc
          clear hacc
          go_wp2_with (go_at_call 46; (with_reducible refine (hdg _).mono ?_); rintro e w2 ⟨rfl, rfl⟩)
          refine ⟨⟨m, i + 1, 16 * v + D.toNat, by rw [or_dig v D (by omega) d1], by rw [Int.natCast_add]; rfl, hbw, by omega, by omega, hh⟩, ?_⟩
          simp only [intOf]
          omega
  · have hb0 : ((((s[0]'h0).toNat : Nat) : Int) != 92) = true := by
      rw [g0]; refine bne_iff_ne.2 (fun e => hb (UInt8.toNat_inj.1 (by have e92 : (92 : UInt8).toNat = 92 := rfl; omega)))
    obtain ⟨D, hD⟩ : ∃ D, D = Utf8.decode s 0 := ⟨_, rfl⟩
    have hdec := (DecodeRuneInString s).made hOK
    rw [show Lib.decodeGo s = D by rw [hD]; unfold Lib.decodeGo; rw [if_neg (by omega)]] at hdec
    have hle : D.2 ≤ s.size := by have := decB_le s; unfold decB at this; rw [if_neg (by omega)] at this; rw [hD]; exact this
    have q1 : ((D.2 : Int) ≤ (s.size : Int)) = True := eq_true (by omega)
    have q2 : (0 ≤ ((D.2 : Nat) : Int)) = True := eq_true (by omega)
    by_cases hc : (D.1 = 65533 ∧ D.2 = 1) ∨ D.1 = 34
    · have e : oneB s = (T [], 0) := by unfold oneB; rw [if_pos hb, ← hD, if_pos hc]
      rw [e]
      clear g0 hb hD e
      go_enter Tryd.func26, Tryd.ntmps26
      by_cases h3 : D.1 = 34
      · have k1 : (((D.1 : Nat) : Int) == 65533) = false := beq_eq_false_iff_ne.2 (by omega)
        have k2 : (((D.1 : Nat) : Int) == 34) = true := beq_iff_eq.2 (by omega)
        clear hc
        go_wp2_with (go_at_call 39; (with_reducible refine hdec.mono ?_); rintro e w' ⟨rfl, hb1⟩)
        go_ret2
        exact ⟨rfl, hb1⟩
      · have hc1 : D.1 = 65533 ∧ D.2 = 1 := hc.resolve_right h3
        have k1 : (((D.1 : Nat) : Int) == 65533) = true := beq_iff_eq.2 (by omega)
        have k2 : (((D.2 : Nat) : Int) == 1) = true := beq_iff_eq.2 (by omega)
        clear hc hc1
        go_wp2_with (go_at_call 39; (with_reducible refine hdec.mono ?_); rintro e w' ⟨rfl, hb1⟩)
        go_ret2
        exact ⟨rfl, hb1⟩
    · have e : oneB s = (s.extract 0 D.2, (D.2 : Int)) := by unfold oneB; rw [if_pos hb, ← hD, if_neg hc]
      rw [e]
      have k2 : (((D.1 : Nat) : Int) == 34) = false := beq_eq_false_iff_ne.2 (by omega)
      by_cases h3 : D.1 = 65533
      · have k1 : (((D.1 : Nat) : Int) == 65533) = true := beq_iff_eq.2 (by omega)
        have k3 : (((D.2 : Nat) : Int) == 1) = false := beq_eq_false_iff_ne.2 (by omega)
        clear g0 hb hD e hc h3
        go_enter Tryd.func26, Tryd.ntmps26
        go_wp2_with (go_at_call 39; (with_reducible refine hdec.mono ?_); rintro e w' ⟨rfl, hb1⟩)
        go_ret2
        exact ⟨rfl, hb1⟩
      · have k1 : (((D.1 : Nat) : Int) == 65533) = false := beq_eq_false_iff_ne.2 (by omega)
        clear g0 hb hD e hc h3
        go_enter Tryd.func26, Tryd.ntmps26
        go_wp2_with (go_at_call 39; (with_reducible refine hdec.mono ?_); rintro e w' ⟨rfl, hb1⟩)
        go_ret2
        exact ⟨rfl, hb1⟩
end Go.Proofs.YtcoippikicikoaaDoor
namespace Go.Proofs
open Go.Shelf
def Tryd.lays196_ren : Go.Shelf.Ren := ⟨fun | 196 => 54 | 259 => 61 | n => n, fun | 9 => 9 | 4 => 4 | 3 => 3 | 5 => 5 | 12 => 12 | 119 => 75 | 0 => 0 | 46 => 56 | 139 => 78 | 138 => 77 | 53 => 85 | n => n, fun | 3 => 0 | 4 => 1 | n => n⟩
theorem Tryd.lays196 : Go.Proofs.Lays.n196 Tryd.prog Tryd.lays196_ren := {
  mixed := by kernel_rfl
  f196 := Tryd.func54.trans (congrArg some (by kernel_rfl))
  f259 := Tryd.func61.trans (congrArg some (by kernel_rfl))
  t0 := Tryd.underlying0
  a0 := Tryd.isAgg0
  z0 := Tryd.sizeOf0
  v0 := Tryd.zeroValue0
  t3 := Tryd.underlying3
  a3 := Tryd.isAgg3
  z3 := Tryd.sizeOf3
  v3 := Tryd.zeroValue3
  t4 := Tryd.underlying4
  a4 := Tryd.isAgg4
  z4 := Tryd.sizeOf4
  v4 := Tryd.zeroValue4
  t5 := Tryd.underlying5
  a5 := Tryd.isAgg5
  z5 := Tryd.sizeOf5
  v5 := Tryd.zeroValue5
  t9 := Tryd.underlying9
  a9 := Tryd.isAgg9
  z9 := Tryd.sizeOf9
  v9 := Tryd.zeroValue9
  t12 := Tryd.underlying12
  a12 := Tryd.isAgg12
  z12 := Tryd.sizeOf12
  v12 := Tryd.zeroValue12
  t46 := Tryd.underlying56
  a46 := Tryd.isAgg56
  z46 := Tryd.sizeOf56
  v46 := Tryd.zeroValue56
  t53 := Tryd.underlying85
  a53 := Tryd.isAgg85
  z53 := Tryd.sizeOf85
  v53 := Tryd.zeroValue85
  t119 := Tryd.underlying75
  a119 := Tryd.isAgg75
  z119 := Tryd.sizeOf75
  t138 := Tryd.underlying77
  a138 := Tryd.isAgg77
  z138 := Tryd.sizeOf77
  v138 := Tryd.zeroValue77
  t139 := Tryd.underlying78
  a139 := Tryd.isAgg78
  z139 := Tryd.sizeOf78
  v139 := Tryd.zeroValue78
  g3 := by kernel_rfl
  g4 := by kernel_rfl }
def Tryd.lays166_ren : Go.Shelf.Ren := ⟨fun | 166 => 27 | 240 => 47 | 276 => 59 | n => n, fun | 0 => 0 | 3 => 3 | 4 => 4 | 9 => 9 | 20 => 20 | 5 => 5 | 37 => 44 | 70 => 43 | 72 => 46 | 75 => 50 | 80 => 53 | 164 => 72 | n => n, fun | n => n⟩
theorem Tryd.lays166 : Go.Proofs.Lays.n166 Tryd.prog Tryd.lays166_ren := {
  mixed := by kernel_rfl
  f166 := Tryd.func27.trans (congrArg some (by kernel_rfl))
  f240 := Tryd.func47.trans (congrArg some (by kernel_rfl))
  f276 := Tryd.func59.trans (congrArg some (by kernel_rfl))
  t0 := Tryd.underlying0
  a0 := Tryd.isAgg0
  z0 := Tryd.sizeOf0
  v0 := Tryd.zeroValue0
  t3 := Tryd.underlying3
  a3 := Tryd.isAgg3
  z3 := Tryd.sizeOf3
  v3 := Tryd.zeroValue3
  t4 := Tryd.underlying4
  a4 := Tryd.isAgg4
  z4 := Tryd.sizeOf4
  v4 := Tryd.zeroValue4
  t9 := Tryd.underlying9
  a9 := Tryd.isAgg9
  z9 := Tryd.sizeOf9
  v9 := Tryd.zeroValue9
  t20 := Tryd.underlying20
  a20 := Tryd.isAgg20
  z20 := Tryd.sizeOf20
  v20 := Tryd.zeroValue20
  t37 := Tryd.underlying44
  a37 := Tryd.isAgg44
  z37 := Tryd.sizeOf44
  v37 := Tryd.zeroValue44
  t70 := Tryd.underlying43
  a70 := Tryd.isAgg43
  z70 := Tryd.sizeOf43
  v70 := Tryd.zeroValue43
  t72 := Tryd.underlying46
  a72 := Tryd.isAgg46
  z72 := Tryd.sizeOf46
  v72 := Tryd.zeroValue46
  t75 := Tryd.underlying50
  a75 := Tryd.isAgg50
  z75 := Tryd.sizeOf50
  v75 := Tryd.zeroValue50
  t164 := Tryd.underlying72
  a164 := Tryd.isAgg72
  z164 := Tryd.sizeOf72
  v164 := Tryd.zeroValue72 }
theorem Tryd.Builder_Extra_166 : Builder.Extra Tryd.prog Tryd.lays166_ren := {
  sizeBuilder := by kernel_rfl
  liesBuilder := by kernel_rfl
  t5 := Tryd.underlying5
  a5 := Tryd.isAgg5
  z5 := Tryd.sizeOf5
  v5 := Tryd.zeroValue5
  infoByte := by kernel_rfl
  cellsByte := by kernel_rfl
  sizeByte := by kernel_rfl
  neB5 := by decide }
end Go.Proofs
namespace Go.Proofs.YtcoippikicikoaaDoor
open Go.RowKit Go.Proofs.YtcoippikicikoaaDoorW.PrintWords
theorem ValidString (s : ByteArray) (hs : s.size ≤ 140737488355328) (w : World) (hOK : Ok w) : Calls Tryd.prog 54 #[.string s] w fun e w' => e = .returned (.bool (Lib.validD s.data.toList)) ∧ Below w.heap.size w w' :=
  Any.utf8_ValidString Tryd.lays196 s w (by omega) hOK.tabs
def rawBad (c : Nat) : Prop := c = 96 ∨ (c < 32 ∧ c ≠ 9) ∨ c = 127 ∨ c = 65279
instance (c : Nat) : Decidable (rawBad c) := inferInstanceAs (Decidable (_ ∨ _))
def rawGo (s : ByteArray) : Nat → Nat → Bool
  | 0, pos => decide (¬ pos < s.size)
  | fuel + 1, pos => if pos < s.size then (if rawBad (Utf8.decode s pos).1 then false else rawGo s fuel (pos + (Utf8.decode s pos).2)) else true
theorem rawGo_end (s : ByteArray) (fuel pos : Nat) (h : ¬ pos < s.size) : rawGo s fuel pos = true := by
  cases fuel <;> simp [rawGo, h]
def rawB (s : ByteArray) : ByteArray × Bool := if Lib.validD s.data.toList = true ∧ rawGo s s.size 0 = true then ((T [96] ++ s) ++ T [96], true) else (T [], false)
def quote_Raw.f (a0 : ByteArray) : Option (ByteArray × Bool) := if a0.size ≤ 140737488355328 then some (rawB a0) else none
set_option maxHeartbeats 2000000 in
theorem quote_Raw.calls (a0 : ByteArray) (r1 : ByteArray) (r2 : Bool) (w : World) (hOK : Ok w) (h : quote_Raw.f a0 = some (r1, r2)) : Calls Tryd.prog 36 #[.string a0] w fun e w' => e = .returned (.tuple #[.string r1, .bool r2]) ∧ Below w.heap.size w w' := by
  unfold quote_Raw.f at h
  split at h
  case isFalse => cases h
  rename_i hs
  have h := Option.some.inj h
  have hv := ValidString a0 hs w hOK
  have h1 : r1 = (rawB a0).1 := by rw [h]
  have h2 : r2 = (rawB a0).2 := by rw [h]
  clear h
  have hsz : (1 + a0.size ≤ 9223372036854775807) = True := eq_true (by omega)
  have hsz2 : (1 + a0.size + 1 ≤ 9223372036854775807) = True := eq_true (by omega)
  cases hV : Lib.validD a0.data.toList with
  | false =>
    have e : rawB a0 = (T [], false) := by unfold rawB; rw [if_neg (by simp [hV])]
    rw [e] at h1 h2
    subst h1 h2
    rw [hV] at hv
    clear e hV
    go_enter Tryd.func36, Tryd.ntmps36
    go_wp2_with (go_at_call 54; (with_reducible refine hv.mono ?_); rintro e w' ⟨rfl, hb1⟩)
    go_ret2
    exact ⟨rfl, hb1⟩
  | true =>
    rw [hV] at hv
    have e : rawB a0 = if rawGo a0 a0.size 0 = true then ((T [96] ++ a0) ++ T [96], true) else (T [], false) := by
      unfold rawB
      by_cases hg : rawGo a0 a0.size 0 = true
      · rw [if_pos ⟨hV, hg⟩, if_pos hg]
      · rw [if_neg (fun h => hg h.2), if_neg hg]
    rw [e] at h1 h2
    have H1 := Lib.hid h1
    have H2 := Lib.hid h2
    clear e hV h1 h2
    go_enter Tryd.func36, Tryd.ntmps36
    go_wp2_with (go_at_call 54; (with_reducible refine hv.mono ?_); rintro e w1 ⟨rfl, hb1⟩)
    go_loopw [5] (fun _ wr => ∃ (pos fuel : Nat), wr.heap[w1.heap.size]? = some (.stringIter a0 pos) ∧ Below w.heap.size w wr ∧ Hid (rawGo a0 a0.size 0 = rawGo a0 fuel pos) ∧ a0.size ≤ pos + fuel) (fun _ wr => a0.size - wr.iterPos w1.heap.size)
    case atStart =>
      refine ⟨0, a0.size, ?_, hb1.alloc (Below.size hb1) _, Lib.hid rfl, by omega⟩
      exact World.iter_heap w1 a0 0
    case round =>
      obtain ⟨pos, fuel, hit, hbw, hacc, hfu⟩ := hrel
      by_cases hp : pos < a0.size
      · have hnx : ∀ ty, (Instr.next (.pointer (some ⟨w1.heap.size, 0, none⟩)) true ty).run Tryd.prog wr = _ := fun ty => Lib.run_next_any_at wr w1.heap.size a0 pos ty hit hp
        have hwd := dec_pos a0 pos hp
        have hit2 := Lib.iterAt_heap wr w1.heap.size a0 pos (pos + (Utf8.decode a0 pos).2) hit
        have hbw2 := Lib.below_iterAt hbw (k := w1.heap.size) (Below.size hb1) a0 (pos + (Utf8.decode a0 pos).2)
        obtain ⟨f, rfl⟩ : ∃ f, fuel = f + 1 := ⟨fuel - 1, by omega⟩
        have hh := hacc.out
        simp only [rawGo] at hh
        rw [if_pos hp] at hh
        obtain ⟨D, hD⟩ : ∃ D, D = Utf8.decode a0 pos := ⟨_, rfl⟩
        simp only [← hD] at hit2 hbw2 hnx hh hwd
        have HD := Lib.hid hD
        clear hD hacc
        by_cases hbad : rawBad D.1
        · rw [if_pos hbad] at hh
          have HH := Lib.hid hh
          clear hh
          unfold rawBad at hbad
          by_cases c1 : D.1 = 96
          · have k1 : (((D.1 : Nat) : Int) == 96) = true := beq_iff_eq.2 (by omega)
            clear hbad
            go_wp2
            go_ret2
            have e1 := H1.out; have e2 := H2.out
            rw [HH.out] at e1 e2
            exact ⟨by rw [e1, e2]; rfl, hbw2⟩
          have k1 : (((D.1 : Nat) : Int) == 96) = false := beq_eq_false_iff_ne.2 (by omega)
          by_cases c2 : D.1 < 32
          · have k2 : (((D.1 : Nat) : Int) < 32) = True := eq_true (by omega)
            have k3 : (((D.1 : Nat) : Int) != 9) = true := bne_iff_ne.2 (by omega)
            clear hbad c1 c2
            go_wp2
            go_ret2
            have e1 := H1.out; have e2 := H2.out
            rw [HH.out] at e1 e2
            exact ⟨by rw [e1, e2]; rfl, hbw2⟩
          have k2 : (((D.1 : Nat) : Int) < 32) = False := eq_false (by omega)
          by_cases c3 : D.1 = 127
          · have k3 : (((D.1 : Nat) : Int) == 127) = true := beq_iff_eq.2 (by omega)
            clear hbad c1 c2
            go_wp2
            go_ret2
            have e1 := H1.out; have e2 := H2.out
            rw [HH.out] at e1 e2
            exact ⟨by rw [e1, e2]; rfl, hbw2⟩
          have k3 : (((D.1 : Nat) : Int) == 127) = false := beq_eq_false_iff_ne.2 (by omega)
          have k4 : (((D.1 : Nat) : Int) == 65279) = true := beq_iff_eq.2 (by omega)
          clear hbad c1 c2 c3
          go_wp2
          go_ret2
          have e1 := H1.out; have e2 := H2.out
          rw [HH.out] at e1 e2
          exact ⟨by rw [e1, e2]; rfl, hbw2⟩
        · rw [if_neg hbad] at hh
          have HH := Lib.hid hh
          clear hh
          unfold rawBad at hbad
          have k1 : (((D.1 : Nat) : Int) == 96) = false := beq_eq_false_iff_ne.2 (by omega)
          have k3 : (((D.1 : Nat) : Int) == 127) = false := beq_eq_false_iff_ne.2 (by omega)
          have k4 : (((D.1 : Nat) : Int) == 65279) = false := beq_eq_false_iff_ne.2 (by omega)
          by_cases c2 : D.1 < 32
          · have k2 : (((D.1 : Nat) : Int) < 32) = True := eq_true (by omega)
            have k5 : (((D.1 : Nat) : Int) != 9) = false := bne_eq_false_iff_eq.2 (by omega)
            clear hbad c2
            go_wp2
            go_roundw
            case rel =>
              go_light
              exact ⟨pos + D.2, f, hit2, hbw2, HH, by omega⟩
            case measure =>
              go_light
              simp only [World.iterPos, hit2, hit]
              omega
          · have k2 : (((D.1 : Nat) : Int) < 32) = False := eq_false (by omega)
            clear hbad c2
            go_wp2
            go_roundw
            case rel =>
              go_light
              exact ⟨pos + D.2, f, hit2, hbw2, HH, by omega⟩
            case measure =>
              go_light
              simp only [World.iterPos, hit2, hit]
              omega
      · have hnx : ∀ ty, (Instr.next (.pointer (some ⟨w1.heap.size, 0, none⟩)) true ty).run Tryd.prog wr = _ := fun ty => Lib.run_next_end_at wr w1.heap.size a0 pos ty hit hp
        have hh := hacc.out
        rw [rawGo_end a0 fuel pos hp] at hh
        have HH := Lib.hid hh
        clear hh hacc
        go_wp2
        go_ret2
        have e1 := H1.out; have e2 := H2.out
        rw [HH.out] at e1 e2
        exact ⟨by rw [e1, e2]; rfl, hbw⟩
end Go.Proofs.YtcoippikicikoaaDoor
namespace Go.Proofs.YtcoippikicikoaaDoor
open Go.RowKit Go.Proofs.YtcoippikicikoaaDoorW.PrintWords
theorem builder_below {T e : TypeId} {B b : Nat} {bs : List Value} {W W' : World} (h : Lib.IsBuilder T e B b bs W) (hb : Below W.heap.size W W') : Lib.IsBuilder T e B b bs W' := by
  have key : ∀ p, Lib.BuilderAt T e B b p bs W → Lib.BuilderAt T e B b p bs W' := by
    intro p h
    obtain ⟨hB, v, hbk, hown, hne⟩ := h
    exact ⟨hB, v, (hb.block b (blk_lt hbk)).trans hbk, hown.kept (row := none) ⟨hb.os, hb.tape, hb.output, hb.size, fun k hk _ => hb.block k hk⟩ (Classical.em _), hne⟩
  exact h.elim (fun x => .inl (key _ x)) (fun x => .inr (key _ x))
theorem WriteString (B b : Nat) (l : List UInt8) (s : ByteArray) (w : World) (h : Lib.IsBuilder 46 5 B b (Lib.byteCells l) w) (hlen : l.length + s.size ≤ 140737488355328) (hBw : B ≤ w.heap.size) :
    Calls Tryd.prog 27 #[.pointer (some ⟨b, 0, none⟩), .string s] w fun e w' => e = .returned (.tuple #[.int .i64 s.size, .nilIface]) ∧ Lib.IsBuilder 46 5 B b (Lib.byteCells (l ++ s.data.toList)) w' ∧ Below B w w' := by
  refine (Any.Builder_WriteString Tryd.lays166 Tryd.Builder_Extra_166 B b (Lib.byteCells l) s w h (by simpa [Lib.byteCells] using hlen) hBw).mono ?_
  rintro e w' ⟨he, hb, hbel⟩
  refine ⟨he, .inr ?_, hbel⟩
  have e : Lib.byteCells (l ++ s.data.toList) = Lib.byteCells l ++ Lib.strCells s := by simp [Lib.byteCells, Lib.strCells]
  rw [e]
  exact hb
theorem size_sub (s : ByteArray) (i j : Nat) (hij : i ≤ j) (hj : j ≤ s.size) : (s.extract i j).size = j - i := by
  rw [ByteArray.size_extract]; omega
theorem encB_size (c : Int) : (T (enc c)).size ≤ 4 := encT_size c
theorem oneB_range (s : ByteArray) (h0 : 0 < s.size) : (oneB s).1.size ≤ 4 ∧ 0 ≤ (oneB s).2 ∧ (oneB s).2 ≤ s.size := by
  have hd : (Utf8.decode s 0).2 ≤ s.size ∧ (Utf8.decode s 0).2 ≤ 4 := by
    have := decB_le s
    unfold decB at this
    rw [if_neg (by omega)] at this
    refine ⟨this, ?_⟩
    rw [Lib.decode_at]
    unfold Lib.decodeN
    repeat' split
    all_goals simp only []
    all_goals omega
  have w8 : ∀ k, widthOf k = 0 ∨ widthOf k = 2 ∨ widthOf k = 4 ∨ widthOf k = 8 := fun k => by
    unfold widthOf
    repeat' split
    all_goals simp
  have z : (T ([] : List UInt8)).size = 0 := rfl
  have o : ∀ x, (T [x]).size = 1 := fun _ => rfl
  unfold oneB
  split
  · split
    · simp only [z]; omega
    · simp only []
      rw [size_sub _ _ _ (by omega) hd.1]
      omega
  split
  · simp only [z]; omega
  split
  · simp only []
    rw [size_sub _ _ _ (by omega) (by omega)]
    omega
  split
  · simp only [o]; omega
  have := w8 ((s.get! 1).toNat)
  split
  · simp only [z]; omega
  split
  · simp only [z]; omega
  split
  · simp only [o]; omega
  · have := encB_size (wrap32 (‹Nat› : Int))
    simp only []
    omega
def unqGo : Nat → ByteArray → List UInt8 → Option (List UInt8)
  | 0, r, l => if r.size = 0 then some l else none
  | f + 1, r, l => if r.size = 0 then some l else if (oneB r).2 = 0 then none else unqGo f (r.extract (oneB r).2.toNat r.size) (l ++ (oneB r).1.data.toList)
theorem unqGo_end (f : Nat) (r : ByteArray) (l : List UInt8) (h : r.size = 0) : unqGo f r l = some l := by
  cases f <;> simp [unqGo, h]
def quote_Unquote.f (a0 : ByteArray) : Option (ByteArray × Bool) :=
  if a0.size ≤ 1000000 then
    (if a0.size < 2 ∨ a0.get! 0 ≠ 34 ∨ a0.get! (a0.size - 1) ≠ 34 then some (T [], false)
    else match unqGo a0.size (a0.extract 1 (a0.size - 1)) [] with
      | none => some (T [], false)
      | some l => (quote_Quote.f (T l) false).bind fun q1 => (quote_Quote.f (T l) true).bind fun q2 => if q1 ≠ a0 ∧ q2 ≠ a0 then some (T [], false) else some (T l, true))
  else none
def strLen : Value → Nat
  | .string s => s.size
  | _ => 0
theorem beq_u8 (c n : UInt8) : (((c.toNat : Nat) : Int) != ((n.toNat : Nat) : Int)) = (c != n) := by
  rw [Bool.eq_iff_iff, bne_iff_ne, bne_iff_ne, ne_eq, ne_eq, ← UInt8.toNat_inj]; omega
set_option maxHeartbeats 2000000 in
theorem quote_Unquote.calls (a0 : ByteArray) (r1 : ByteArray) (r2 : Bool) (w : World) (hOK : Ok w) (h : quote_Unquote.f a0 = some (r1, r2)) : Calls Tryd.prog 12 #[.string a0] w fun e w' => e = .returned (.tuple #[.string r1, .bool r2]) ∧ Below w.heap.size w w' := by
  unfold quote_Unquote.f at h
  split at h
  case isFalse => cases h
  rename_i hs
  by_cases h2 : a0.size < 2
  · rw [if_pos (.inl h2)] at h
    cases h
    have k1 : ((a0.size : Int) < 2) = True := eq_true (by omega)
    go_enter Tryd.func12, Tryd.ntmps12
    go_wp2
    go_ret2
    exact ⟨rfl, Below.refl _ _⟩
  have k1 : ((a0.size : Int) < 2) = False := eq_false (by omega)
  have hp0 : 0 < a0.size := by omega
  have p0 : ((0 : Int) < (a0.size : Int)) = True := eq_true (by omega)
  have hp1 : a0.size - 1 < a0.size := by omega
  have g0 := get_lt a0 0 hp0
  have g1 := get_lt a0 (a0.size - 1) hp1
  have q1 : wrap64 ((a0.size : Int) - 1) = ((a0.size - 1 : Nat) : Int) := by rw [wrap64_id (by omega) (by omega)]; omega
  have q2 : ((a0.size : Int) - 1) = ((a0.size - 1 : Nat) : Int) := by omega
  by_cases h34 : a0.get! 0 = 34
  case neg =>
    rw [if_pos (.inr (.inl h34))] at h
    cases h
    have k2 : ((((a0[0]'hp0).toNat : Nat) : Int) != 34) = true := by rw [g0]; exact (beq_u8 _ 34).trans (bne_iff_ne.2 h34)
    clear g0 g1 h34
    go_enter Tryd.func12, Tryd.ntmps12
    go_wp2
    go_ret2
    exact ⟨rfl, Below.refl _ _⟩
  have k2 : ((((a0[0]'hp0).toNat : Nat) : Int) != 34) = false := by rw [g0, h34]; decide
  by_cases h35 : a0.get! (a0.size - 1) = 34
  case neg =>
    rw [if_pos (.inr (.inr h35))] at h
    cases h
    have k3 : ((((a0[a0.size - 1]'hp1).toNat : Nat) : Int) != 34) = true := by rw [g1]; exact (beq_u8 _ 34).trans (bne_iff_ne.2 h35)
    clear g0 g1 h34 h35
    go_enter Tryd.func12, Tryd.ntmps12
    go_wp2
    go_ret2
    exact ⟨rfl, Below.refl _ _⟩
  have k3 : ((((a0[a0.size - 1]'hp1).toNat : Nat) : Int) != 34) = false := by rw [g1, h35]; decide
  rw [if_neg (fun h => h.elim h2 (fun h => h.elim (fun h => h h34) (fun h => h h35)))] at h
  have s1 : ((1 : Int) ≤ ((a0.size - 1 : Nat) : Int)) = True := eq_true (by omega)
  have s2 : (((a0.size - 1 : Nat) : Int) ≤ (a0.size : Int)) = True := eq_true (by omega)
  obtain ⟨q, hq⟩ : ∃ q, q = a0.extract 1 (a0.size - 1) := ⟨_, rfl⟩
  have hqs : q.size + 2 = a0.size := by rw [hq, size_sub _ _ _ (by omega) (by omega)]; omega
  rw [← hq] at h
  have H := Lib.hid h
  have HOK := Lib.hid hOK
  clear h hOK g0 g1 h34 h35
  go_enter Tryd.func12, Tryd.ntmps12
  go_wp2
  rw [← hq]
  have HQ := Lib.hid hq
  clear hq
  go_loopw [5] (fun v5 wr => ∃ (f : Nat) (r : ByteArray) (l : List UInt8), v5 = .string r ∧ Lib.IsBuilder 46 5 w.heap.size w.heap.size (Lib.byteCells l) wr ∧ Below w.heap.size w wr ∧ Hid (unqGo a0.size q [] = unqGo f r l) ∧ r.size ≤ f ∧ l.length + 4 * r.size ≤ 4 * a0.size ∧ r.size ≤ a0.size) (fun v5 _ => strLen v5)
  case atStart => exact ⟨a0.size, q, [], rfl, Lib.fresh_isBuilder _ _ w, (Below.refl _ w).alloc (Nat.le_refl _) _, Lib.hid rfl, by omega, by simp; omega, by omega⟩
  case round =>
    obtain ⟨f, r, l, rfl, hbd, hbw, hacc, hrf, hl4, hra⟩ := hrel
    by_cases hr : r.size = 0
    · have e0 : r.data.toList = [] := List.eq_nil_of_length_eq_zero (by rw [← Lib.size_eq]; exact hr)
      obtain rfl : r = ⟨#[]⟩ := bytes_ext (by rw [e0])
      have hh := hacc.out
      rw [unqGo_end _ _ _ hr] at hh
      have H := H.out
      rw [hh] at H
      simp only at H
      clear hh hacc
      obtain ⟨q1, hq1, H⟩ := Option.bind_eq_some_iff.mp H
      obtain ⟨q2, hq2, H⟩ := Option.bind_eq_some_iff.mp H
      have HH := Lib.hid H
      clear H e0 hr
      by_cases b1 : q1 = a0
      · go_wp2_with (first | (go_at_call 28; (with_reducible refine (Tryd.Builder_String_any w.heap.size w.heap.size l wr hbd (Below.size hbw)).mono ?_); rintro e w2 ⟨rfl, hb2⟩) | (go_at_call 19; (with_reducible refine (quote_Quote.calls (T l) false q1 w2 ((HOK.out).later (Below.trans hbw hb2)) hq1).mono ?_); rintro e w3 ⟨rfl, hb3⟩))
        go_ret2
        have HH := HH.out
        rw [if_neg (fun h => h.1 b1)] at HH
        cases HH
        exact ⟨rfl, Below.trans (Below.trans hbw hb2) (hb3.mono (Below.size (Below.trans hbw hb2)))⟩
      · have tl : ∀ x : ByteArray, ¬ x = a0 → (x.toList = a0.toList) = False := fun x hx => eq_false (fun e => hx (bytes_ext (by rw [← Lib.toList_data, ← Lib.toList_data, e])))
        have t1 := tl q1 b1
        by_cases b2 : q2 = a0
        · clear tl b1
          go_wp2_with (first | (go_at_call 28; (with_reducible refine (Tryd.Builder_String_any w.heap.size w.heap.size l wr hbd (Below.size hbw)).mono ?_); rintro e w2 ⟨rfl, hb2⟩) | (go_at_call 19; (with_reducible refine (quote_Quote.calls (T l) false q1 w2 ((HOK.out).later (Below.trans hbw hb2)) hq1).mono ?_); rintro e w3 ⟨rfl, hb3⟩) | (go_at_call 19; (with_reducible refine (quote_Quote.calls (T l) true q2 w3 ((HOK.out).later (Below.trans (Below.trans hbw hb2) (hb3.mono (Below.size (Below.trans hbw hb2))))) hq2).mono ?_); rintro e w4 ⟨rfl, hb4⟩))
          go_ret2
          have HH := HH.out
          rw [if_neg (fun h => h.2 b2)] at HH
          cases HH
          have e2 := Below.trans hbw hb2
          have e3 := Below.trans e2 (hb3.mono (Below.size e2))
          exact ⟨rfl, Below.trans e3 (hb4.mono (Below.size e3))⟩
        · have t2 := tl q2 b2
          have t3 : (q1.toList == a0.toList) = false := beq_eq_false_iff_ne.2 (fun e => t1.mp e)
          have t4 : (q2.toList == a0.toList) = false := beq_eq_false_iff_ne.2 (fun e => t2.mp e)
          have HH := HH.out
          rw [if_pos ⟨b1, b2⟩] at HH
          cases HH
          clear tl b1 b2
          go_wp2_with (first | (go_at_call 28; (with_reducible refine (Tryd.Builder_String_any w.heap.size w.heap.size l wr hbd (Below.size hbw)).mono ?_); rintro e w2 ⟨rfl, hb2⟩) | (go_at_call 19; (with_reducible refine (quote_Quote.calls (T l) false q1 w2 ((HOK.out).later (Below.trans hbw hb2)) hq1).mono ?_); rintro e w3 ⟨rfl, hb3⟩) | (go_at_call 19; (with_reducible refine (quote_Quote.calls (T l) true q2 w3 ((HOK.out).later (Below.trans (Below.trans hbw hb2) (hb3.mono (Below.size (Below.trans hbw hb2))))) hq2).mono ?_); rintro e w4 ⟨rfl, hb4⟩))
          go_ret2
          have e2 := Below.trans hbw hb2
          have e3 := Below.trans e2 (hb3.mono (Below.size e2))
          exact ⟨rfl, Below.trans e3 (hb4.mono (Below.size e3))⟩
    · have hr0 : 0 < r.size := by omega
      have m1 : r.toList.isEmpty = false := by
        have : r.toList ≠ [] := fun e => hr (by rw [Lib.size_eq, ← Lib.toList_data, e]; rfl)
        simpa using this
      obtain ⟨f, rfl⟩ : ∃ f', f = f' + 1 := ⟨f - 1, by omega⟩
      have hh := hacc.out
      simp only [unqGo] at hh
      rw [if_neg hr] at hh
      have ho := quote_one r wr ((HOK.out).later hbw) hr0 (by omega)
      obtain ⟨o4, o0, o1⟩ := oneB_range r hr0
      obtain ⟨O, hO⟩ : ∃ O, O = oneB r := ⟨_, rfl⟩
      rw [← hO] at ho hh o4 o0 o1
      obtain ⟨t, n⟩ := O
      simp only at ho hh o4 o0 o1
      have HOO := Lib.hid hO
      clear hO hacc
      by_cases hn : n = 0
      · subst hn
        rw [if_pos rfl] at hh
        have H := H.out
        rw [hh] at H
        cases H
        go_wp2_with (go_at_call 26; (with_reducible refine ho.mono ?_); rintro e w2 ⟨rfl, hb2⟩)
        go_ret2
        exact ⟨rfl, Below.trans hbw (hb2.mono (Below.size hbw))⟩
      · rw [if_neg hn] at hh
        have HH := Lib.hid hh
        clear hh
        obtain ⟨n, rfl⟩ : ∃ n' : Nat, n = n' := ⟨n.toNat, by omega⟩
        rw [Int.toNat_natCast] at HH
        have n1 : (((n : Nat) : Int) == 0) = false := beq_eq_false_iff_ne.2 hn
        have n2 : (((n : Nat) : Int) ≤ (r.size : Int)) = True := eq_true (by omega)
        have n3 : (0 ≤ ((n : Nat) : Int)) = True := eq_true (by omega)
        go_wp2_with (first | (go_at_call 26; (with_reducible refine ho.mono ?_); rintro e w2 ⟨rfl, hb2⟩) | (go_at_call 27; (with_reducible refine (WriteString w.heap.size w.heap.size l t w2 (builder_below hbd hb2) (by omega) (by have := Below.size hbw; have := Below.size hb2; omega)).mono ?_); rintro e w3 ⟨rfl, hbd3, hb3⟩))
        go_roundw
        case rel =>
          go_light
          have es := size_sub r n r.size (by omega) (Nat.le_refl _)
          have et : t.data.toList.length = t.size := (Lib.size_eq t).symm
          refine ⟨f, r.extract n r.size, l ++ t.data.toList, rfl, hbd3, ?_, HH, by omega, by rw [List.length_append]; omega, by omega⟩
          exact Below.trans (Below.trans hbw (hb2.mono (Below.size hbw))) hb3
        case measure =>
          go_light
          have es := size_sub r n r.size (by omega) (Nat.le_refl _)
          simp only [strLen]
          omega
end Go.Proofs.YtcoippikicikoaaDoor
namespace Go.Proofs.YtcoippikicikoaaDoor
open Go.RowKit Go.Proofs.YtcoippikicikoaaDoorW.PrintWords
def repB (s : ByteArray) (n : Nat) : ByteArray := T (Lib.repeatL s.data.toList n)
def strings_Repeat.f (a0 : ByteArray) (a1 : Int) : Option ByteArray := if 0 ≤ a1 ∧ a1 ≤ 9223372036854775807 ∧ a0.size * a1.toNat ≤ 140737488355328 then some (repB a0 a1.toNat) else none
theorem strings_Repeat.calls (a0 : ByteArray) (a1 : Int) (r : ByteArray) (w : World) (h : strings_Repeat.f a0 a1 = some r) : Calls Tryd.prog 60 #[.string a0, .int .i64 a1] w fun e w' => e = .returned (.string r) ∧ Below w.heap.size w w' := by
  unfold strings_Repeat.f at h
  split at h
  case isFalse => cases h
  rename_i hs
  obtain rfl := Option.some.inj h
  obtain ⟨n, rfl⟩ : ∃ n : Nat, a1 = n := ⟨a1.toNat, by omega⟩
  rw [Int.toNat_natCast] at hs ⊢
  exact Tryd.strings_Repeat a0 n w (by omega) hs.2.2
end Go.Proofs.YtcoippikicikoaaDoor
namespace Go.Proofs.YtcoippikicikoaaDoor
open Go.RowKit Go.Proofs.YtcoippikicikoaaDoorW.PrintWords Go.Proofs.YtcoippikicikoaaDoorW.PrintLast Go.Proofs.YtcoippikicikoaaDoorW.PrintMore
open Go.Proofs.YtcoippikicikoaaDoor.PQPut (quote_put.f quote_put.calls)
attribute [local go_sem] max2_int min2_int max_two min_two
end Go.Proofs.YtcoippikicikoaaDoor
namespace Go.Proofs.YtcoippikicikoaaDoor
open Go.RowKit Go.Proofs.YtcoippikicikoaaDoorW.PrintWords Go.Proofs.YtcoippikicikoaaDoorW.PrintMore Go.Proofs.YtcoippikicikoaaDoor.PQRef
open Go.Proofs.YtcoippikicikoaaDoor.PQPut (quote_put.f quote_escape.f)
def hxd (d : Nat) : UInt8 := UInt8.ofNat (if d < 10 then 48 + d else 87 + d)
def hexL : Nat → Nat → List UInt8
  | 0, _ => []
  | n + 1, c => hxd (c / 16 ^ n % 16) :: hexL n c
theorem hexL_length (n c : Nat) : (hexL n c).length = n := by
  induction n with
  | zero => rfl
  | succ n ih => simp [hexL, ih]
def ints (l : List UInt8) : List Int := l.map fun x => (x.toNat : Int)
theorem strOfNums_ints (l : List UInt8) : strOfNums (ints l) = T l := by
  unfold strOfNums ints
  congr 2
  rw [List.map_map]
  refine (List.map_congr_left (fun x _ => ?_)).trans (List.map_id _)
  simp
theorem ints_append (a b : List UInt8) : ints (a ++ b) = ints a ++ ints b := List.map_append
theorem ints_length (a : List UInt8) : (ints a).length = a.length := by simp [ints]
theorem small_bt (d : Nat) (h : d < 16) : bt (⟨#[48, 49, 50, 51, 52, 53, 54, 55, 56, 57, 97, 98, 99, 100, 101, 102]⟩ : ByteArray) (d : Int) = ((hxd d).toNat : Int) := by
  have : ∀ d : Fin 16, bt (⟨#[48, 49, 50, 51, 52, 53, 54, 55, 56, 57, 97, 98, 99, 100, 101, 102]⟩ : ByteArray) ((d.val : Nat) : Int) = ((hxd d.val).toNat : Int) := by decide
  exact this ⟨d, h⟩
theorem nib (c n : Nat) (hc : c ≤ 1114111) (hn : n ≤ 8) : Go.bits .and .i32 (shr .i32 (c : Int) (wrap64 (4 * (n : Int)))) 15 = ((c / 16 ^ n % 16 : Nat) : Int) := by
  have e1 : wrap64 (4 * (n : Int)) = ((4 * n : Nat) : Int) := by rw [wrap64_id (by omega) (by omega)]; omega
  have e2 : shr .i32 (c : Int) ((4 * n : Nat) : Int) = ((c / 16 ^ n : Nat) : Int) := by
    unfold shr
    rw [Int.toNat_natCast]
    have e3 : min (4 * n) (IntKind.bits .i32) = 4 * n := by
      have : IntKind.bits .i32 = 32 := rfl
      omega
    rw [e3]
    have e4 : (2 : Int) ^ (4 * n) = ((16 ^ n : Nat) : Int) := by
      rw [Int.natCast_pow, Int.pow_mul]; rfl
    rw [e4]
    rfl
  rw [e1, e2]
  have hle : c / 16 ^ n ≤ c := Nat.div_le_self _ _
  generalize c / 16 ^ n = q at hle ⊢
  have := Go.bits_mask .i32 31 (by decide) Go.wraps_i32 4 (by decide) ((q : Nat) : Int) (by omega) (by omega)
  exact this.trans (by omega)
theorem esc_l0 (c : Nat) (hc : c ≤ 1114111) : ∀ (n k : Nat) (l : List Int), n ≤ 8 → n + 1 ≤ k → l.length + n ≤ 100000000000 → PQPut.quote_escape.l0 k l (c : Int) ((n : Int) - 1) = some (l ++ ints (hexL n c)) := by
  intro n
  induction n with
  | zero =>
    intro k l _ hk _
    obtain ⟨k, rfl⟩ : ∃ k', k = k' + 1 := ⟨k - 1, by omega⟩
    unfold PQPut.quote_escape.l0
    rw [if_neg (by omega)]
    simp [hexL, ints]
  | succ n ih =>
    intro k l h8 hk hl
    obtain ⟨k, rfl⟩ : ∃ k', k = k' + 1 := ⟨k - 1, by omega⟩
    unfold PQPut.quote_escape.l0
    have e : ((n + 1 : Nat) : Int) - 1 = (n : Int) := by omega
    rw [e, nib c n hc (by omega), if_pos (by omega), if_pos (by rw [wrap64_id (by omega) (by omega)]; omega), if_pos (by omega), if_pos (by omega), if_pos (by omega)]
    rw [small_bt _ (by omega), wrap64_id (by omega) (by omega), ih k _ (by omega) (by omega) (by simp; omega)]
    simp [hexL, ints]
theorem escape_f (k : Nat) (hk : 9 ≤ k) (c sign n : Nat) (hc : c ≤ 1114111) (l : List Int) (hn : n ≤ 8) (hn0 : 1 ≤ n) (hl : l.length ≤ 10000000000) : quote_escape.f k l (sign : Int) (c : Int) (n : Int) = some (l ++ ([92, (sign : Int)] ++ ints (hexL n c))) := by
  unfold quote_escape.f
  simp only [Option.bind_some, List.length_cons, List.length_nil]
  rw [if_pos (by omega), wrap64_id (by omega) (by omega), esc_l0 c hc n k _ hn (by omega) (by simp; omega), List.append_assoc]
end Go.Proofs.YtcoippikicikoaaDoor
namespace Go.Proofs.YtcoippikicikoaaDoor
open Go.RowKit Go.Proofs.YtcoippikicikoaaDoorW.PrintWords Go.Proofs.YtcoippikicikoaaDoorW.PrintMore Go.Proofs.YtcoippikicikoaaDoor.PQRef
open Go.Proofs.YtcoippikicikoaaDoor.PQPut (quote_put.f quote_escape.f)
def plainP (c : Nat) : Bool := decide ((32 ≤ c ∧ c ≤ 126) ∨ (161 ≤ c ∧ c ≤ 55295 ∧ c ≠ 173) ∨ (57344 ≤ c ∧ c ≤ 65532) ∨ (65536 ≤ c ∧ c ≤ 1114111))
theorem plain_f (k : Nat) (c : Nat) : quote_Plain.f (k + 2) (c : Int) = some (plainP c) := by
  unfold quote_Plain.f
  simp only [quote_Plain.j0, quote_Plain.j1, decide_eq_true_eq, Bool.false_eq_true, if_false]
  repeat' split
  all_goals (rw [Option.some.injEq, Bool.eq_iff_iff]; simp [plainP]; try omega)
theorem rplain_f (c : Nat) : platenref02_Plain.f (c : Int) = some (plainP c) := by
  unfold platenref02_Plain.f
  repeat' split
  all_goals (rw [Option.some.injEq, Bool.eq_iff_iff]; simp [plainP]; try omega)
def lettr (d : Nat) : UInt8 := lettersL.getD d 0
def putL (c q : Nat) (asc : Bool) : List UInt8 :=
  if c = q ∨ c = 92 then [92, UInt8.ofNat c]
  else if 7 ≤ c ∧ c ≤ 13 then [92, lettr (c - 7)]
  else if (32 ≤ c ∧ c ≤ 126) ∨ (asc = false ∧ plainP c = true) then enc c
  else if c < 128 then [92, 120] ++ hexL 2 c
  else if c ≤ 65535 then [92, 117] ++ hexL 4 c
  else [92, 85] ++ hexL 8 c
theorem letters_bt (d : Nat) (h : d < 7) : bt (⟨#[97, 98, 116, 110, 118, 102, 114]⟩ : ByteArray) (d : Int) = ((lettr d).toNat : Int) := by
  have : ∀ d : Fin 7, bt (⟨#[97, 98, 116, 110, 118, 102, 114]⟩ : ByteArray) ((d.val : Nat) : Int) = ((lettr d.val).toNat : Int) := by decide
  exact this ⟨d, h⟩
theorem plain_valid (c : Nat) (h : (32 ≤ c ∧ c ≤ 126) ∨ plainP c = true) : Utf8.valid (c : Int) = true := by
  rw [valid_nat]
  simp only [plainP, decide_eq_true_eq] at h
  omega
theorem or192 (x : Nat) (h : x < 32) : Go.bits .or .u8 192 (x : Int) = ((192 + x : Nat) : Int) := by
  rw [u8_or192 _ (by omega) (by omega)]; omega
theorem or224 (x : Nat) (h : x < 16) : Go.bits .or .u8 224 (x : Int) = ((224 + x : Nat) : Int) := by
  rw [u8_or224 _ (by omega) (by omega)]; omega
theorem or240 (x : Nat) (h : x < 8) : Go.bits .or .u8 240 (x : Int) = ((240 + x : Nat) : Int) := by
  rw [u8_or240 _ (by omega) (by omega)]; omega
theorem ofNat_toNat (x : Nat) (h : x < 256) : ((UInt8.ofNat x).toNat : Int) = (x : Int) := by
  rw [UInt8.toNat_ofNat']; omega
theorem nonascii_f (k : Nat) (c : Nat) (hc : 128 ≤ c) (hv : Utf8.valid (c : Int) = true) (l : List Int) (hl : l.length ≤ 10000000000) : PQPut.utf8_appendRuneNonASCII.f (k + 1) l (c : Int) = some (l ++ ints (encN c)) := by
  rw [valid_nat] at hv
  have em : ((c : Int)) % 4294967296 = (c : Int) := by omega
  have e6 : ∀ n : Nat, ((c : Int) / (n : Int)) = ((c / n : Nat) : Int) := fun n => rfl
  have ed : ∀ x n : Nat, x < 256 → ((x : Int)) % 256 = (x : Int) := fun x n h => by omega
  unfold PQPut.utf8_appendRuneNonASCII.f
  rw [em]
  unfold encN ints
  by_cases h2 : c < 2048
  · rw [if_pos (by omega), if_neg (by omega), if_pos h2]
    have a1 : Go.bits .or .u8 192 ((c : Int) / 64 % 256) = ((192 + c / 64 : Nat) : Int) := by
      rw [show (c : Int) / 64 % 256 = ((c / 64 : Nat) : Int) by omega]; exact or192 _ (by omega)
    rw [a1]
    simp only [Option.bind_some, List.length_cons, List.length_nil, List.map_cons, List.map_nil]
    rw [if_pos (by omega), ofNat_toNat _ (by omega), ofNat_toNat _ (by omega)]
    rfl
  rw [if_neg (show ¬ (c : Int) ≤ 2047 by omega), if_neg (show ¬ c < 128 by omega), if_neg h2]
  have J : ∀ b, b = decide (c < 65536) → PQPut.utf8_appendRuneNonASCII.j0 (k + 1) l (c : Int) (c : Int) b = some (l ++ List.map (fun x : UInt8 => (x.toNat : Int)) (if c < 65536 then [UInt8.ofNat (224 + c / 4096), UInt8.ofNat (128 + c / 64 % 64), UInt8.ofNat (128 + c % 64)] else [UInt8.ofNat (240 + c / 262144), UInt8.ofNat (128 + c / 4096 % 64), UInt8.ofNat (128 + c / 64 % 64), UInt8.ofNat (128 + c % 64)])) := by
    rintro b rfl
    simp only [PQPut.utf8_appendRuneNonASCII.j0]
    by_cases h3 : c < 65536
    · rw [if_pos (by simpa using h3), if_pos h3]
      have a1 : Go.bits .or .u8 224 ((c : Int) / 4096 % 256) = ((224 + c / 4096 : Nat) : Int) := by
        rw [show (c : Int) / 4096 % 256 = ((c / 4096 : Nat) : Int) by omega]; exact or224 _ (by omega)
      rw [a1]
      simp only [Option.bind_some, List.length_cons, List.length_nil, List.map_cons, List.map_nil]
      rw [if_pos (by omega), ofNat_toNat _ (by omega), ofNat_toNat _ (by omega), ofNat_toNat _ (by omega)]
      rfl
    · rw [if_neg (by simpa using h3), if_pos (by omega), if_pos (by omega), if_neg h3]
      have a1 : Go.bits .or .u8 240 ((c : Int) / 262144 % 256) = ((240 + c / 262144 : Nat) : Int) := by
        rw [show (c : Int) / 262144 % 256 = ((c / 262144 : Nat) : Int) by omega]; exact or240 _ (by omega)
      rw [a1]
      simp only [Option.bind_some, List.length_cons, List.length_nil, List.map_cons, List.map_nil]
      rw [if_pos (by omega), ofNat_toNat _ (by omega), ofNat_toNat _ (by omega), ofNat_toNat _ (by omega), ofNat_toNat _ (by omega)]
      rfl
  by_cases h4 : c < 55296
  · rw [if_pos (by omega)]; exact J _ (by rw [decide_eq_true (by omega), decide_eq_true (by omega)])
  · rw [if_neg (by omega), if_pos (by omega)]
    exact J _ (by by_cases h : c < 65536 <;> simp <;> omega)
theorem append_f (k : Nat) (c : Nat) (hv : Utf8.valid (c : Int) = true) (l : List Int) (hl : l.length ≤ 10000000000) : PQPut.utf8_AppendRune.f (k + 1) l (c : Int) = some (l ++ ints (enc (c : Int))) := by
  have ee : enc (c : Int) = encN c := by unfold enc; rw [if_pos hv, Int.toNat_natCast]
  rw [ee]
  unfold PQPut.utf8_AppendRune.f
  by_cases h : c < 128
  · have hv' := (valid_nat c).1 hv
    rw [if_pos (by omega), if_pos (by omega)]
    unfold encN ints
    rw [if_pos h]
    simp only [List.map_cons, List.map_nil]
    rw [ofNat_toNat _ (by omega), show (c : Int) % 256 = (c : Int) by omega]
  · have hv' := (valid_nat c).1 hv
    rw [if_neg (by omega), nonascii_f k c (by omega) hv l hl]
    rfl
theorem put_f (c q : Nat) (asc : Bool) (hc : c ≤ 1114111) (l : List Int) (hl : l.length ≤ 10000000) : quote_put.f 100 l (c : Int) (q : Int) asc = some (l ++ ints (putL c q asc)) := by
  have hput : ∀ k, 20 ≤ k → ∀ b, b = decide (c = q ∨ c = 92) → PQPut.quote_put.j0 k l (c : Int) asc b = some (l ++ ints (putL c q asc)) := by
    rintro k hk b rfl
    obtain ⟨k, rfl⟩ : ∃ k', k = k' + 4 := ⟨k - 4, by omega⟩
    unfold putL
    simp only [PQPut.quote_put.j0]
    by_cases h1 : c = q ∨ c = 92
    · rw [if_pos (decide_eq_true h1), if_pos h1]
      simp only [Option.bind_some, List.length_cons, List.length_nil]
      rw [if_pos (by omega)]
      simp only [ints, List.map_cons, List.map_nil]
      rw [show (((UInt8.ofNat c).toNat : Nat) : Int) = (c : Int) % 256 by rw [UInt8.toNat_ofNat']; omega]
      rfl
    rw [if_neg (by rw [decide_eq_false h1]; decide), if_neg h1]
    have hj1 : PQPut.quote_put.j1 (k + 3) l (c : Int) asc (decide (7 ≤ c ∧ c ≤ 13)) = some (l ++ ints (if 7 ≤ c ∧ c ≤ 13 then [92, lettr (c - 7)]
      else if (32 ≤ c ∧ c ≤ 126) ∨ (asc = false ∧ plainP c = true) then enc c
      else if c < 128 then [92, 120] ++ hexL 2 c
      else if c ≤ 65535 then [92, 117] ++ hexL 4 c
      else [92, 85] ++ hexL 8 c)) := by
      simp only [PQPut.quote_put.j1]
      by_cases h2 : 7 ≤ c ∧ c ≤ 13
      · rw [if_pos (decide_eq_true h2), if_pos h2, wrap32_id (by omega) (by omega), if_pos (by omega), if_pos (by omega)]
        rw [show (c : Int) - 7 = ((c - 7 : Nat) : Int) by omega, letters_bt _ (by omega)]
        simp only [Option.bind_some, List.length_cons, List.length_nil]
        rw [if_pos (by omega)]
        rfl
      rw [if_neg (by rw [decide_eq_false h2]; decide), if_neg h2]
      have hj3 : PQPut.quote_put.j3 (k + 1) l (c : Int) (decide ((32 ≤ c ∧ c ≤ 126) ∨ (asc = false ∧ plainP c = true))) = some (l ++ ints (if (32 ≤ c ∧ c ≤ 126) ∨ (asc = false ∧ plainP c = true) then enc c
        else if c < 128 then [92, 120] ++ hexL 2 c
        else if c ≤ 65535 then [92, 117] ++ hexL 4 c
        else [92, 85] ++ hexL 8 c)) := by
        simp only [PQPut.quote_put.j3]
        by_cases h3 : (32 ≤ c ∧ c ≤ 126) ∨ (asc = false ∧ plainP c = true)
        · rw [if_pos (decide_eq_true h3), if_pos h3]
          obtain ⟨k, rfl⟩ : ∃ k', k = k' + 1 := ⟨k - 1, by omega⟩
          rw [append_f k c (plain_valid c (h3.imp id (fun h => h.2))) l (by omega)]
          rfl
        rw [if_neg (by rw [decide_eq_false h3]; decide), if_neg h3]
        by_cases h4 : c < 128
        · rw [if_pos (by omega), if_pos h4, show (120 : Int) = ((120 : Nat) : Int) from rfl, show (2 : Int) = ((2 : Nat) : Int) from rfl, escape_f k (by omega) c 120 2 hc l (by omega) (by omega) (by omega)]
          rfl
        rw [if_neg (by omega), if_neg h4]
        by_cases h5 : c ≤ 65535
        · rw [if_pos (by omega), if_pos h5, show (117 : Int) = ((117 : Nat) : Int) from rfl, show (4 : Int) = ((4 : Nat) : Int) from rfl, escape_f k (by omega) c 117 4 hc l (by omega) (by omega) (by omega)]
          rfl
        · rw [if_neg (by omega), if_neg h5, show (85 : Int) = ((85 : Nat) : Int) from rfl, show (8 : Int) = ((8 : Nat) : Int) from rfl, escape_f k (by omega) c 85 8 hc l (by omega) (by omega) (by omega)]
          rfl
      rw [← hj3]
      have hj2 : ∀ b, b = decide (32 ≤ c ∧ c ≤ 126) → PQPut.quote_put.j2 (k + 2) l (c : Int) asc b = PQPut.quote_put.j3 (k + 1) l (c : Int) (decide ((32 ≤ c ∧ c ≤ 126) ∨ (asc = false ∧ plainP c = true))) := by
        rintro b rfl
        simp only [PQPut.quote_put.j2]
        by_cases h6 : 32 ≤ c ∧ c ≤ 126
        · rw [if_pos (decide_eq_true h6), decide_eq_true h6, decide_eq_true (.inl h6)]
        rw [if_neg (by rw [decide_eq_false h6]; decide)]
        cases asc with
        | true => rw [if_pos rfl, decide_eq_false (by rintro (h | h); exact h6 h; cases h.1)]
        | false =>
          rw [if_neg (by decide)]
          obtain ⟨k, rfl⟩ : ∃ k', k = k' + 1 := ⟨k - 1, by omega⟩
          rw [plain_f k c]
          simp only [Option.bind_some]
          congr 1
          rw [Bool.eq_iff_iff, decide_eq_true_eq]
          simp [h6]
      by_cases h7 : c < 127
      · rw [if_pos (by omega)]
        exact hj2 _ (by rw [Bool.eq_iff_iff, decide_eq_true_eq, decide_eq_true_eq]; omega)
      · rw [if_neg (by omega)]
        exact hj2 _ (by rw [eq_comm, decide_eq_false_iff_not]; omega)
    rw [← hj1]
    by_cases h8 : 7 ≤ c
    · rw [if_pos (by omega)]
      congr 1
      rw [Bool.eq_iff_iff, decide_eq_true_eq, decide_eq_true_eq]; omega
    · rw [if_neg (by omega)]
      congr 1
      rw [eq_comm, decide_eq_false_iff_not]; omega
  unfold quote_put.f
  by_cases h0 : c = q
  · rw [if_pos (by omega)]
    exact hput 100 (by omega) _ (by rw [decide_eq_true (.inl h0)])
  · rw [if_neg (by omega)]
    exact hput 100 (by omega) _ (by rw [Bool.eq_iff_iff, decide_eq_true_eq, beq_iff_eq]; omega)
end Go.Proofs.YtcoippikicikoaaDoor
namespace Go.Proofs.YtcoippikicikoaaDoor
open Go.RowKit Go.Proofs.YtcoippikicikoaaDoorW.PrintWords Go.Proofs.YtcoippikicikoaaDoorW.PrintMore Go.Proofs.YtcoippikicikoaaDoor.PQRef
theorem digit_f (d : Nat) (h : d < 16) : platenref02_Digit.f (d : Int) false = some (T [hxd d]) := by
  have e : ∀ d : Fin 16, (([48, 49, 50, 51, 52, 53, 54, 55, 56, 57, 97, 98, 99, 100, 101, 102] : List UInt8).drop d.val).take 1 = [hxd d.val] := by decide
  unfold platenref02_Digit.f
  rw [if_neg (by decide), if_pos (by omega), wrap64_id (by omega) (by omega), if_pos (by omega), if_pos (by omega)]
  congr 1
  refine bytes_ext ?_
  rw [ByteArray.data_extract, Array.toList_extract]
  simp only [List.extract_eq_take_drop]
  rw [show ((d : Int) + 1).toNat - (d : Int).toNat = 1 by omega, Int.toNat_natCast]
  exact e ⟨d, h⟩
theorem T_append (a b : List UInt8) : T a ++ T b = T (a ++ b) := bytes_ext (by rw [Joins.data_append])
theorem small1 (i : Nat) (h : i ≤ 8) : 1 + i ≤ 9223372036854775807 := by omega
theorem small2 (a b n : Nat) (ha : a = 2) (hb : b = n) (h : n ≤ 8) : a + b ≤ 9223372036854775807 := by omega
theorem str2 (a b : Int) : (strOfNums [a, b]).size = 2 := rfl
theorem digits_l0 (c w : Nat) (hc : c ≤ 1114111) (hw : w ≤ 8) : ∀ (m k i : Nat), i + m = w → m + 1 ≤ k → platenref02_Digits.l0 k ((c / 16 ^ i : Nat) : Int) (w : Int) (T (hexL i c)) (i : Int) = some (T (hexL w c)) := by
  intro m
  induction m with
  | zero =>
    intro k i him hk
    obtain ⟨k, rfl⟩ : ∃ k', k = k' + 1 := ⟨k - 1, by omega⟩
    simp only [platenref02_Digits.l0]
    rw [if_neg (by omega), show i = w by omega]
  | succ m ih =>
    intro k i him hk
    obtain ⟨k, rfl⟩ : ∃ k', k = k' + 1 := ⟨k - 1, by omega⟩
    have hle : c / 16 ^ i ≤ c := Nat.div_le_self _ _
    have e1 : Int.tmod ((c / 16 ^ i : Nat) : Int) 16 = ((c / 16 ^ i % 16 : Nat) : Int) := by
      generalize c / 16 ^ i = q at hle ⊢
      rw [Int.tmod_eq_emod_of_nonneg (by omega)]; omega
    have e2 : wrap64 (Int.tdiv ((c / 16 ^ i : Nat) : Int) 16) = ((c / 16 ^ (i + 1) : Nat) : Int) := by
      rw [Nat.pow_succ, ← Nat.div_div_eq_div_mul]
      generalize c / 16 ^ i = q at hle ⊢
      rw [Int.tdiv_eq_ediv_of_nonneg (by omega), wrap64_id (by omega) (by omega)]
      omega
    have e3 : wrap64 ((i : Int) + 1) = ((i + 1 : Nat) : Int) := by rw [wrap64_id (by omega) (by omega)]; omega
    have e4 : T [hxd (c / 16 ^ i % 16)] ++ T (hexL i c) = T (hexL (i + 1) c) := by rw [T_append]; rfl
    simp only [platenref02_Digits.l0]
    rw [if_pos (by omega), e1, digit_f _ (by omega)]
    simp only [Option.bind_some]
    have s1 : (T [hxd (c / 16 ^ i % 16)]).size = 1 := T_size _
    have s2 : (T (hexL i c)).size = i := by rw [T_size, hexL_length]
    have s3 : (T [hxd (c / 16 ^ i % 16)]).size + (T (hexL i c)).size ≤ 9223372036854775807 := by rw [s1, s2]; exact small1 i (by clear e1 e2 e3 e4 hle s1 s2 ih; omega)
    rw [if_pos s3, e2, e3, e4]
    exact ih k (i + 1) (by omega) (by omega)
theorem digits_f (k c w : Nat) (hk : 9 ≤ k) (hc : c ≤ 1114111) (hw : w ≤ 8) : platenref02_Digits.f k (c : Int) (w : Int) = some (T (hexL w c)) := by
  have := digits_l0 c w hc hw w k 0 (Nat.zero_add w) (by omega)
  have e0 : T (hexL 0 c) = (⟨#[]⟩ : ByteArray) := rfl
  rw [Nat.pow_zero, Nat.div_one, e0, show ((0 : Nat) : Int) = 0 from rfl] at this
  unfold platenref02_Digits.f
  exact this
theorem esc_T (a : Int) (b : UInt8) (l : List UInt8) (h : strOfNums [92, a] = T [92, b]) : strOfNums [92, a] ++ T l = T ([92, b] ++ l) := by
  rw [h, T_append]
theorem In_j2 (k c : Nat) (asc : Bool) (hc : c ≤ 1114111) (hk : 16 ≤ k) (b : Bool) (hb : b = decide ((32 ≤ c ∧ c ≤ 126) ∨ (asc = false ∧ plainP c = true))) : platenref02_In.j2 (k + 2) (c : Int) (c : Int) b = some (T (if (32 ≤ c ∧ c ≤ 126) ∨ (asc = false ∧ plainP c = true) then enc c
        else if c < 128 then [92, 120] ++ hexL 2 c
        else if c ≤ 65535 then [92, 117] ++ hexL 4 c
        else [92, 85] ++ hexL 8 c)) := by
  subst hb
  simp only [platenref02_In.j2]
  by_cases h3 : (32 ≤ c ∧ c ≤ 126) ∨ (asc = false ∧ plainP c = true)
  · rw [if_pos (decide_eq_true h3), if_pos h3, rune_f k c]
    rfl
  rw [if_neg (by rw [decide_eq_false h3]; decide), if_neg h3]
  have sz : ∀ a b n, n ≤ 8 → (strOfNums [a, b]).size + (T (hexL n c)).size ≤ 9223372036854775807 := fun a b n hn => by
    have h2 : (T (hexL n c)).size = n := by rw [T_size, hexL_length]
    exact small2 _ _ n (str2 a b) h2 hn
  by_cases h4 : c < 128
  · have := digits_f (k + 1) c 2 (by omega) hc (by omega)
    rw [if_pos (by omega), if_pos h4, show (2 : Int) = ((2 : Nat) : Int) from rfl, Option.bind_some, this, Option.bind_some, if_pos (sz _ _ 2 (by omega)), esc_T 120 120 _ (strOfNums_ints [92, 120])]
  rw [if_neg (by omega), if_neg h4]
  by_cases h5 : c ≤ 65535
  · have := digits_f (k + 1) c 4 (by omega) hc (by omega)
    rw [if_pos (by omega), if_pos h5, show (4 : Int) = ((4 : Nat) : Int) from rfl, Option.bind_some, this, Option.bind_some, if_pos (sz _ _ 4 (by omega)), esc_T 117 117 _ (strOfNums_ints [92, 117])]
  · have := digits_f (k + 1) c 8 (by omega) hc (by omega)
    rw [if_neg (by omega), if_neg h5, show (8 : Int) = ((8 : Nat) : Int) from rfl, Option.bind_some, this, Option.bind_some, if_pos (sz _ _ 8 (by omega)), esc_T 85 85 _ (strOfNums_ints [92, 85])]
theorem In_f (K c q : Nat) (asc : Bool) (hc : c ≤ 1114111) (hq : q ≤ 255) (hK : 20 ≤ K) : platenref02_In.f K (c : Int) (q : Int) asc = some (T (putL c q asc)) := by
  have wc : wrap64 (c : Int) = (c : Int) := wrap64_id (by omega) (by omega)
  have wq : wrap64 (q : Int) = (q : Int) := wrap64_id (by omega) (by omega)
  have hput : ∀ k, 20 ≤ k → ∀ b, b = decide (c = q ∨ c = 92) → platenref02_In.j0 k (c : Int) asc (c : Int) b = some (T (putL c q asc)) := by
    rintro k hk b rfl
    obtain ⟨k, rfl⟩ : ∃ k', k = k' + 4 := ⟨k - 4, by omega⟩
    unfold putL
    simp only [platenref02_In.j0]
    by_cases h1 : c = q ∨ c = 92
    · rw [if_pos (decide_eq_true h1), if_pos h1]
      have : ([92, (c : Int) % 256] : List Int) = ints [92, UInt8.ofNat c] := by
        simp only [ints, List.map_cons, List.map_nil]
        rw [show (((UInt8.ofNat c).toNat : Nat) : Int) = (c : Int) % 256 by rw [UInt8.toNat_ofNat']; omega]
        rfl
      rw [this, strOfNums_ints]
    rw [if_neg (by rw [decide_eq_false h1]; decide), if_neg h1]
    have hj1 : platenref02_In.j1 (k + 3) (c : Int) asc (c : Int) (decide (7 ≤ c ∧ c ≤ 13)) = some (T (if 7 ≤ c ∧ c ≤ 13 then [92, lettr (c - 7)]
      else if (32 ≤ c ∧ c ≤ 126) ∨ (asc = false ∧ plainP c = true) then enc c
      else if c < 128 then [92, 120] ++ hexL 2 c
      else if c ≤ 65535 then [92, 117] ++ hexL 4 c
      else [92, 85] ++ hexL 8 c)) := by
      simp only [platenref02_In.j1]
      by_cases h2 : 7 ≤ c ∧ c ≤ 13
      · rw [if_pos (decide_eq_true h2), if_pos h2, wrap64_id (by omega) (by omega), if_pos (by omega), if_pos (by omega)]
        rw [show (c : Int) - 7 = ((c - 7 : Nat) : Int) by omega, letters_bt _ (by omega)]
        have := strOfNums_ints [92, lettr (c - 7)]
        exact congrArg some this
      rw [if_neg (by rw [decide_eq_false h2]; decide), if_neg h2]
      have hj3 := In_j2 k c asc hc (by omega)
      rw [rplain_f c]
      simp only [Option.bind_some]
      by_cases h6 : plainP c = true
      · rw [if_pos h6]
        cases asc with
        | true =>
          rw [if_pos rfl]
          refine hj3 _ ?_
          rw [Bool.eq_iff_iff, decide_eq_true_eq, decide_eq_true_eq]
          simp only [plainP, decide_eq_true_eq] at h6
          simp
          omega
        | false =>
          rw [if_neg (by decide)]
          refine hj3 _ ?_
          rw [eq_comm, decide_eq_true_eq]
          exact .inr ⟨rfl, h6⟩
      · rw [if_neg h6]
        refine hj3 _ ?_
        rw [eq_comm, decide_eq_false_iff_not]
        simp only [plainP, decide_eq_true_eq] at h6 ⊢
        intro h
        omega
    rw [← hj1]
    by_cases h8 : 7 ≤ c
    · rw [if_pos (by omega)]
      congr 1
      rw [Bool.eq_iff_iff, decide_eq_true_eq, decide_eq_true_eq]; omega
    · rw [if_neg (by omega)]
      congr 1
      rw [eq_comm, decide_eq_false_iff_not]; omega
  unfold platenref02_In.f
  rw [wc, wq]
  by_cases h0 : c = q
  · rw [if_pos (by omega)]
    exact hput K hK _ (by rw [decide_eq_true (.inl h0)])
  · rw [if_neg (by omega)]
    exact hput K hK _ (by rw [Bool.eq_iff_iff, decide_eq_true_eq, beq_iff_eq]; omega)
end Go.Proofs.YtcoippikicikoaaDoor
namespace Go.Proofs.YtcoippikicikoaaDoor.PQGen
open Go.RowKit Go.Proofs.YtcoippikicikoaaDoorW.PrintWords Go.Proofs.YtcoippikicikoaaDoorW.PrintLast Go.Proofs.YtcoippikicikoaaDoorW.PrintMore
attribute [local go_sem] max2_int min2_int max_two min_two
set_option linter.unusedVariables false
set_option linter.unusedSimpArgs false
def errW : Option Int → Value
 | none => .nilIface
 | some c => .iface 0 (.int .i64 c)
theorem errW_none : errW none = .nilIface := rfl
theorem errW_some (c : Int) : errW (some c) = .iface 0 (.int .i64 c) := rfl
theorem info5 : (Tryd.prog.info? 5).map (fun i => (i.zero, i.size, i.bytes)) = some (some (.int .u8 0), 1, 1) := by kernel_rfl
end Go.Proofs.YtcoippikicikoaaDoor.PQGen
namespace Go.Proofs.YtcoippikicikoaaDoor.PQGen
open Go.RowKit Go.Proofs.YtcoippikicikoaaDoorW.PrintWords Go.Proofs.YtcoippikicikoaaDoorW.PrintLast Go.Proofs.YtcoippikicikoaaDoorW.PrintMore
attribute [local go_sem] max2_int min2_int max_two min_two
set_option linter.unusedVariables false
set_option linter.unusedSimpArgs false
def buf_Fill.f (a0 : Int) (a1 : Int) : Option (ByteArray) := (strings_Repeat.f (strOfNums (([a0] : List Int))) (mx 0 (mn a1 1000))).bind fun t104 => (some t104)
set_option maxHeartbeats 8000000 in
set_option maxRecDepth 100000 in
theorem buf_Fill.calls (a0 : Int) (a1 : Int) (r : ByteArray) (w : World) (h : buf_Fill.f a0 a1 = some r) :
 Calls Tryd.prog 50 #[.int .u8 a0, .int .i64 a1] w fun e w' => e = .returned (.string r) ∧ Below w.heap.size w w' := by
 have HB := Aside0.mk (Below.refl w.heap.size w)
 have H : ((strings_Repeat.f (strOfNums (([a0] : List Int))) (mx 0 (mn a1 1000))).bind fun t104 => (some t104)) = some r := h
 clear h
 obtain ⟨y101, hy101⟩ : ∃ y_ : List Int, y_ = (([a0] : List Int)) := ⟨_, rfl⟩
 replace H : ((strings_Repeat.f (strOfNums y101) (mx 0 (mn a1 1000))).bind fun t104 => (some t104)) = some r := by first | (rw [hy101]; with_reducible exact H) | (have H2_ := (Option.bind_some _ _).symm.trans H; rw [hy101]; with_reducible exact H2_) | (have H2_ := (Option.bind_some _ _).symm.trans H; with_reducible exact H2_) | with_reducible exact H | (rw [hy101]; exact H) | exact H
 have Ny101 := Aside0.mk hy101
 clear hy101
 obtain ⟨ji3, hji3⟩ : ∃ j_ : Int, (mn a1 1000) = j_ := ⟨_, rfl⟩
 replace H : ((strings_Repeat.f (strOfNums y101) (mx 0 (ji3))).bind fun t104 => (some t104)) = some r := by first | (rw [hji3] at H; exact H) | (simp only [hji3] at H ⊢; exact H)
 (try (have hji3h : ji3 ≤ 1000 := by (rw [← hji3]; unfold mn; (repeat' split) <;> omega)))
 (try (have hji3g : ji3 ≤ 64 := by omega))
 have hji3_ : (if 1000 < a1 then 1000 else a1) = ji3 := hji3
 obtain ⟨ji4, hji4⟩ : ∃ j_ : Int, (mx 0 (ji3)) = j_ := ⟨_, rfl⟩
 replace H : ((strings_Repeat.f (strOfNums y101) (ji4)).bind fun t104 => (some t104)) = some r := by first | (rw [hji4] at H; exact H) | (simp only [hji4] at H ⊢; exact H)
 have hji4_ : (if 0 < (ji3) then (ji3) else 0) = ji4 := hji4
 replace H := Option.bind_eq_some_iff.mp H
 obtain ⟨t104, A50, H⟩ := H
 replace H : (some t104) = some r := H
 have A5 := Aside0.mk A50
 clear A50
 obtain rfl := Option.some.inj H
 go_enter Tryd.func50, Tryd.ntmps50
 go_wp2_with (first | ((with_reducible refine gate_dst (N := 6) rfl ?_); refine Kd.R_lit (Kd.int .u8) _ 5 ?hg (N := 6) ?hd (xs := ([a0] : List Int)) (inner := [.int .u8 a0]) (ok := fun _ => True) (okp := fun _ => True) ?hr ?hp (fun _ hk => hk) trivial (Below.refl _ _) (Nat.le_refl _) (by simp) ?_; (case hd => rfl); (case hg => rfl); (case hr => first | (go_simp; done) | (go_simp; rfl)); (case hp => exact (Reps.one (show Kd.M (Kd.int .u8) _ _ _ a0 [.int .u8 a0] from rfl) (Reps.none _ _))); intro v102 w6 ho7 hb hg_ hnew_; clear hg_ hnew_; (first | rw [← Ny101.out] at ho7 | (simp only [Int.reduceToNat] at ho7; rw [← Ny101.out] at ho7)); have n0_ := Aside0.mk (Kd.R_lower ho7 (below_size (by repeat (first | (with_reducible first | exact HB.out | apply below_alloc | apply pw_below_drewN | apply below_drew1) | exact HB.out)))); have n1_ := Aside0.mk (below_step (by repeat (first | (with_reducible first | exact HB.out | apply below_alloc | apply pw_below_drewN | apply below_drew1) | exact HB.out)) hb); clear HB; have HO103 := n0_; have HB := n1_; clear n0_ n1_; clear hb ho7; have hcv8 := own_string (P := Tryd.prog) Tryd.underlying44 Tryd.underlying5 Tryd.underlying9 (Kd.own_of_R HO103.out)) | ((with_reducible refine gate_callee (f := 60) rfl ?_); refine goesL_ (some 11) rfl rfl Tryd.func60 (by kernel_rfl) rfl #[.string (strOfNums y101), .int .i64 ji4] rfl (by (try simp only [List.map_toArray, List.map_cons, List.map_nil]); first | done | (simp only [hji4]; rfl) | rfl | (simp only [List.length_drop, List.length_take]; rfl)) ?_; (with_reducible refine (strings_Repeat.calls (strOfNums y101) ji4 t104 _ A5.out).mono ?_); rintro e w9 ⟨rfl, hb⟩; refine ⟨_, rfl, ?_⟩; have n0_ := Aside0.mk (Kd.R_below (by (with_reducible repeat (first | apply Kd.R_alloc | apply Kd.R_drewN | apply Kd.R_drew)); exact HO103.out) hb); have n1_ := Aside0.mk (below_step (by repeat (first | (with_reducible first | exact HB.out | apply below_alloc | apply pw_below_drewN | apply below_drew1) | exact HB.out)) hb); clear HO103; clear HB; have HO103 := n0_; have HB := n1_; clear n0_ n1_; (try clear hb); (try clear hb2); (try clear hk); (try clear hi)))
 go_ret
 exact ⟨by first | rfl | (simp [errW_none, errW_some] <;> rfl) | (simp only [← hji3, ← hji4]; first | rfl | (simp [errW_none, errW_some] <;> rfl)) | (simp [*, errW_none, errW_some] <;> rfl), by repeat (first | (with_reducible first | exact HB.out | apply below_alloc | apply pw_below_drewN | apply below_drew1) | exact HB.out)⟩
def buf_Pad.f (a0 : ByteArray) (a1_0 : Bool) (a1_1 : Bool) (a1_2 : Bool) (a1_3 : Bool) (a1_4 : Bool) (a1_5 : Int) (a1_6 : Int) (a1_7 : Int) : Option (ByteArray) := (buf_Count.f a0).bind fun t106 => (if (wrap64 ((mx 0 (mn a1_5 1000)) - t106)) ≤ 0 then (some a0) else (if a1_1 = true then ((buf_Fill.f 32 (wrap64 ((mx 0 (mn a1_5 1000)) - t106))).bind fun t107 => (if a0.size + t107.size ≤ 9223372036854775807 then (some (a0 ++ t107)) else (none))) else (if a1_4 = true then ((buf_Fill.f 48 (wrap64 ((mx 0 (mn a1_5 1000)) - t106))).bind fun t108 => (if t108.size + a0.size ≤ 9223372036854775807 then (some (t108 ++ a0)) else (none))) else ((buf_Fill.f 32 (wrap64 ((mx 0 (mn a1_5 1000)) - t106))).bind fun t109 => (if t109.size + a0.size ≤ 9223372036854775807 then (some (t109 ++ a0)) else (none))))))
def buf_Pad.T1 : Bool × List (List Nat × List Nat) := (true, [([], []), ([0], [0]), ([1], [1]), ([2], [2]), ([], []), ([4], [4]), ([3, 5], [3, 5]), ([6, 5, 0, 1, 2, 3, 4, 5, 6], [6])])
def buf_Pad.B1 : List Nat := [0, 1, 3, 7, 0, 16, 63, 127]
theorem buf_Pad.tab1 : rtab .any (opsOf Tryd.f32 1) = buf_Pad.T1 := by kernel_rfl
theorem buf_Pad.bits1 : waitsOk buf_Pad.T1.2 buf_Pad.B1 = true := by kernel_rfl
set_option maxHeartbeats 8000000 in
set_option maxRecDepth 100000 in
theorem buf_Pad.calls (a0 : ByteArray) (a1_0 : Bool) (a1_1 : Bool) (a1_2 : Bool) (a1_3 : Bool) (a1_4 : Bool) (a1_5 : Int) (a1_6 : Int) (a1_7 : Int) (r : ByteArray) (w : World) (h : buf_Pad.f a0 a1_0 a1_1 a1_2 a1_3 a1_4 a1_5 a1_6 a1_7 = some r) :
 Calls Tryd.prog 32 #[.string a0, .agg #[.bool a1_0, .bool a1_1, .bool a1_2, .bool a1_3, .bool a1_4, .int .i64 a1_5, .int .i64 a1_6, .int .i32 a1_7]] w fun e w' => e = .returned (.string r) ∧ Below w.heap.size w w' := by
 have hu28 := Tryd.underlying28
 have HB := Aside0.mk (Below.refl w.heap.size w)
 have H : ((buf_Count.f a0).bind fun t106 => (if (wrap64 ((mx 0 (mn a1_5 1000)) - t106)) ≤ 0 then (some a0) else (if a1_1 = true then ((buf_Fill.f 32 (wrap64 ((mx 0 (mn a1_5 1000)) - t106))).bind fun t107 => (if a0.size + t107.size ≤ 9223372036854775807 then (some (a0 ++ t107)) else (none))) else (if a1_4 = true then ((buf_Fill.f 48 (wrap64 ((mx 0 (mn a1_5 1000)) - t106))).bind fun t108 => (if t108.size + a0.size ≤ 9223372036854775807 then (some (t108 ++ a0)) else (none))) else ((buf_Fill.f 32 (wrap64 ((mx 0 (mn a1_5 1000)) - t106))).bind fun t109 => (if t109.size + a0.size ≤ 9223372036854775807 then (some (t109 ++ a0)) else (none))))))) = some r := h
 clear h
 obtain ⟨ji3, hji3⟩ : ∃ j_ : Int, (mn a1_5 1000) = j_ := ⟨_, rfl⟩
 replace H : ((buf_Count.f a0).bind fun t106 => (if (wrap64 ((mx 0 (ji3)) - t106)) ≤ 0 then (some a0) else (if a1_1 = true then ((buf_Fill.f 32 (wrap64 ((mx 0 (ji3)) - t106))).bind fun t107 => (if a0.size + t107.size ≤ 9223372036854775807 then (some (a0 ++ t107)) else (none))) else (if a1_4 = true then ((buf_Fill.f 48 (wrap64 ((mx 0 (ji3)) - t106))).bind fun t108 => (if t108.size + a0.size ≤ 9223372036854775807 then (some (t108 ++ a0)) else (none))) else ((buf_Fill.f 32 (wrap64 ((mx 0 (ji3)) - t106))).bind fun t109 => (if t109.size + a0.size ≤ 9223372036854775807 then (some (t109 ++ a0)) else (none))))))) = some r := by first | (rw [hji3] at H; exact H) | (simp only [hji3] at H ⊢; exact H)
 (try (have hji3h : ji3 ≤ 1000 := by (rw [← hji3]; unfold mn; (repeat' split) <;> omega)))
 (try (have hji3g : ji3 ≤ 64 := by omega))
 have hji3_ : (if 1000 < a1_5 then 1000 else a1_5) = ji3 := hji3
 obtain ⟨ji4, hji4⟩ : ∃ j_ : Int, (mx 0 (ji3)) = j_ := ⟨_, rfl⟩
 replace H : ((buf_Count.f a0).bind fun t106 => (if (wrap64 ((ji4) - t106)) ≤ 0 then (some a0) else (if a1_1 = true then ((buf_Fill.f 32 (wrap64 ((ji4) - t106))).bind fun t107 => (if a0.size + t107.size ≤ 9223372036854775807 then (some (a0 ++ t107)) else (none))) else (if a1_4 = true then ((buf_Fill.f 48 (wrap64 ((ji4) - t106))).bind fun t108 => (if t108.size + a0.size ≤ 9223372036854775807 then (some (t108 ++ a0)) else (none))) else ((buf_Fill.f 32 (wrap64 ((ji4) - t106))).bind fun t109 => (if t109.size + a0.size ≤ 9223372036854775807 then (some (t109 ++ a0)) else (none))))))) = some r := by first | (rw [hji4] at H; exact H) | (simp only [hji4] at H ⊢; exact H)
 have hji4_ : (if 0 < (ji3) then (ji3) else 0) = ji4 := hji4
 replace H := Option.bind_eq_some_iff.mp H
 obtain ⟨t106, A50, H⟩ := H
 replace H : (if (wrap64 ((ji4) - t106)) ≤ 0 then (some a0) else (if a1_1 = true then ((buf_Fill.f 32 (wrap64 ((ji4) - t106))).bind fun t107 => (if a0.size + t107.size ≤ 9223372036854775807 then (some (a0 ++ t107)) else (none))) else (if a1_4 = true then ((buf_Fill.f 48 (wrap64 ((ji4) - t106))).bind fun t108 => (if t108.size + a0.size ≤ 9223372036854775807 then (some (t108 ++ a0)) else (none))) else ((buf_Fill.f 32 (wrap64 ((ji4) - t106))).bind fun t109 => (if t109.size + a0.size ≤ 9223372036854775807 then (some (t109 ++ a0)) else (none)))))) = some r := H
 have A5 := Aside0.mk A50
 clear A50
 by_cases c6 : (wrap64 ((ji4) - t106)) ≤ 0
 ·
  rw [if_pos c6] at H
  have c6b0 : decide ((wrap64 ((ji4) - t106)) ≤ 0) = true := decide_eq_true c6
  clear c6
  obtain rfl := Option.some.inj H
  go_enter Tryd.func32, Tryd.ntmps32
  try go_wp2_with (first | ((with_reducible refine gate_dst (N := 3) rfl ?_); refine box_event ?hg (N := 3) ?hd (cs := #[.bool a1_0, .bool a1_1, .bool a1_2, .bool a1_3, .bool a1_4, .int .i64 a1_5, .int .i64 a1_6, .int .i32 a1_7]) (t := 28) ?hr ?_; (case hd => rfl); (case hg => rfl); (case hr => first | (go_simp; done) | (go_simp; rfl)); intro gb105 hg w7 hbox hb; have n0_ := Aside0.mk (below_step (by repeat (first | (with_reducible first | exact HB.out | apply below_alloc | apply pw_below_drewN | apply below_drew1) | exact HB.out)) hb); have n1_ := Aside0.mk (hbox); have n2_ := Aside0.mk ((by rw [hg]; exact (below_size (by repeat (first | (with_reducible first | exact HB.out | apply below_alloc | apply pw_below_drewN | apply below_drew1) | exact HB.out))) : w.heap.size ≤ gb105)); have n3_ := Aside0.mk ((by rw [hg]; exact (below_size (by repeat (first | (with_reducible first | exact HB.out | apply below_alloc | apply pw_below_drewN | apply below_drew1) | exact HB.out))) : w.heap.size ≤ gb105)); clear HB; have HB := n0_; have BK105 := n1_; have GW105 := n2_; have GE105 := n3_; clear n0_ n1_ n2_ n3_; clear hb hbox hg))
  have n0_ := Aside0.mk (blk_drew BK105.out)
  have n1_ := Aside0.mk (below_drew1 HB.out)
  clear BK105
  clear HB
  have BK105 := n0_
  have HB := n1_
  clear n0_ n1_
  refine start_ (n := 8) (S := fun w' => w'.cell? ⟨gb105, 0, none⟩ = some (.bool a1_0) ∧ w'.cell? ⟨gb105, 1, none⟩ = some (.bool a1_1) ∧ w'.cell? ⟨gb105, 2, none⟩ = some (.bool a1_2) ∧ w'.cell? ⟨gb105, 3, none⟩ = some (.bool a1_3) ∧ w'.cell? ⟨gb105, 4, none⟩ = some (.bool a1_4) ∧ w'.cell? ⟨gb105, 5, none⟩ = some (.int .i64 a1_5) ∧ w'.cell? ⟨gb105, 6, none⟩ = some (.int .i64 a1_6) ∧ w'.cell? ⟨gb105, 7, none⟩ = some (.int .i32 a1_7)) (ds := []) #[false, false, false, false, false, false, false, false] (by kernel_rfl) rfl rfl ⟨(blk_cell BK105.out 0).trans rfl, (blk_cell BK105.out 1).trans rfl, (blk_cell BK105.out 2).trans rfl, (blk_cell BK105.out 3).trans rfl, (blk_cell BK105.out 4).trans rfl, (blk_cell BK105.out 5).trans rfl, (blk_cell BK105.out 6).trans rfl, (blk_cell BK105.out 7).trans rfl⟩ (fun hHeld => ?_); refine with_tabW buf_Pad.tab1 buf_Pad.bits1 (fun HT_ HW_ => ?_)
  generalize w7.drew = w8 at BK105 HB hHeld ⊢
  refine pure_ (i := 0) (N := some 6) (v := ?_) (a' := ?_) #[true, false, false, false, false, false, false, false] rfl rfl (any_of HT_.out (by kernel_rfl)) (fun _ _ _ h => h) (Or.inl ⟨by rfl, ?_⟩) ?_ ?_
  rotate_left
  ·
   intro w'
   go_simp
   with_reducible rfl
  rotate_left
  ·
   simp only [Act.put, List.setIfInBounds_toArray, List.set_cons_zero, List.set_cons_succ, i64_w, i32_w]
   rfl
  refine pure_ (i := 4) (N := some 10) (v := ?_) (a' := ?_) #[true, false, false, false, true, false, false, false] rfl rfl (any_of HT_.out (by kernel_rfl)) (fun _ _ _ h => h) (Or.inl ⟨by rfl, ?_⟩) ?_ ?_
  rotate_left
  ·
   intro w'
   go_simp
   with_reducible rfl
  rotate_left
  ·
   simp only [Act.put, List.setIfInBounds_toArray, List.set_cons_zero, List.set_cons_succ, i64_w, i32_w]
   rfl
  refine take_ (i := 1) (N := some 7) (v := ?_) (a' := ?_) #[true, true, false, false, true, false, false, false] rfl rfl (take_ofW HT_.out HW_.out (by kernel_rfl)) (fun _ _ _ h => h) (Or.inl ⟨by rfl, ?_⟩) hHeld ?_ ?_
  rotate_left
  ·
   rintro w' ⟨s0, s1, s2, s3, s4, s5, s6, s7⟩
   go_simp
   with_reducible rfl
  rotate_left
  ·
   simp only [Act.put, List.setIfInBounds_toArray, List.set_cons_zero, List.set_cons_succ, i64_w, i32_w]
   rfl
  refine pure_ (i := 2) (N := some 8) (v := ?_) (a' := ?_) #[true, true, true, false, true, false, false, false] rfl rfl (any_of HT_.out (by kernel_rfl)) (fun _ _ _ h => h) (Or.inl ⟨by rfl, ?_⟩) ?_ ?_
  rotate_left
  ·
   intro w'
   go_simp
   with_reducible rfl
  rotate_left
  ·
   simp only [Act.put, List.setIfInBounds_toArray, List.set_cons_zero, List.set_cons_succ, i64_w, i32_w]
   rfl
  refine pure_ (i := 3) (N := some 9) (v := ?_) (a' := ?_) #[true, true, true, true, true, false, false, false] rfl rfl (any_of HT_.out (by kernel_rfl)) (fun _ _ _ h => h) (Or.inl ⟨by rfl, ?_⟩) ?_ ?_
  rotate_left
  ·
   intro w'
   go_simp
   with_reducible rfl
  rotate_left
  ·
   simp only [Act.put, List.setIfInBounds_toArray, List.set_cons_zero, List.set_cons_succ, i64_w, i32_w]
   rfl
  refine one_ (i := 5) (N := some 11) #[true, true, true, true, true, true, false, false] rfl rfl (one_of HT_.out (by kernel_rfl)) (by decide) (fun K hK => ?_)
  refine goes_ Tryd.func21 (by kernel_rfl) rfl #[.string a0] (by rfl) rfl rfl (by (try simp only [List.map_toArray, List.map_cons, List.map_nil]); first | done | rfl | (simp only [List.length_drop, List.length_take]; rfl)) ?_
  with_reducible refine (buf_Count.calls a0 t106 _ A5.out).mono ?_
  rintro e w9 ⟨rfl, hb⟩
  refine ⟨_, rfl, ?_⟩
  have n0_ := Aside0.mk (blk_below (g := gb105) (o := .cells #[.bool a1_0, .bool a1_1, .bool a1_2, .bool a1_3, .bool a1_4, .int .i64 a1_5, .int .i64 a1_6, .int .i32 a1_7] 28 (0, 0)) (by (with_reducible repeat (first | refine blk_drewN ?_ _ | refine blk_drew ?_ | refine blk_alloc ?_ _)); exact BK105.out) hb)
  have n1_ := Aside0.mk (below_step (by repeat (first | (with_reducible first | exact HB.out | apply below_alloc | apply pw_below_drewN | apply below_drew1 | refine below_set ?_ GE105.out) | exact HB.out)) hb)
  clear BK105
  clear HB
  have BK105 := n0_
  have HB := n1_
  clear n0_ n1_
  (try clear hb)
  (try clear hb2)
  (try clear hk)
  (try clear hi)
  refine hK.out _ _ ⟨(blk_cell BK105.out 0).trans rfl, (blk_cell BK105.out 1).trans rfl, (blk_cell BK105.out 2).trans rfl, (blk_cell BK105.out 3).trans rfl, (blk_cell BK105.out 4).trans rfl, (blk_cell BK105.out 5).trans rfl, (blk_cell BK105.out 6).trans rfl, (blk_cell BK105.out 7).trans rfl⟩ (fun hHeld => ?_)
  clear hK K
  refine norm_ (a' := ?_) ?_ ?_
  rotate_left
  ·
   show Act.put _ (some 11) _ = _
   simp only [Act.put, List.setIfInBounds_toArray, List.set_cons_zero, List.set_cons_succ, i64_w, i32_w]
   rfl
  refine pure_ (i := 6) (N := some 12) (v := ?_) (a' := ?_) #[true, true, true, true, true, true, true, false] rfl rfl (any_of HT_.out (by kernel_rfl)) (fun _ _ _ h => h) (Or.inl ⟨by rfl, ?_⟩) ?_ ?_
  rotate_left
  ·
   intro w'
   go_simp
   with_reducible rfl
  rotate_left
  ·
   simp only [Act.put, List.setIfInBounds_toArray, List.set_cons_zero, List.set_cons_succ, i64_w, i32_w]
   rfl
  refine pure_ (i := 7) (N := some 5) (v := ?_) (a' := ?_) #[true, true, true, true, true, true, true, true] rfl rfl (any_of HT_.out (by kernel_rfl)) (fun _ _ _ h => h) (Or.inl ⟨by rfl, ?_⟩) ?_ ?_
  rotate_left
  ·
   intro w'
   go_simp
   with_reducible rfl
  rotate_left
  ·
   simp only [Act.put, List.setIfInBounds_toArray, List.set_cons_zero, List.set_cons_succ, i64_w, i32_w]
   rfl
  refine done_ (done_of HT_.out (by kernel_rfl)) ?_
  try go_wp2
  go_ret
  exact ⟨by first | rfl | (simp [errW_none, errW_some] <;> rfl) | (simp only [← hji3, ← hji4]; first | rfl | (simp [errW_none, errW_some] <;> rfl)) | (simp [*, errW_none, errW_some] <;> rfl), by repeat (first | (with_reducible first | exact HB.out | apply below_alloc | apply pw_below_drewN | apply below_drew1 | refine below_set ?_ GE105.out) | exact HB.out)⟩
 ·
  rw [if_neg c6] at H
  have c6b0 : decide ((wrap64 ((ji4) - t106)) ≤ 0) = false := decide_eq_false c6
  clear c6
  by_cases c10 : a1_1 = true
  ·
   subst c10
   have H1 : ((buf_Fill.f 32 (wrap64 ((ji4) - t106))).bind fun t107 => (if a0.size + t107.size ≤ 9223372036854775807 then (some (a0 ++ t107)) else (none))) = some r := by rw [if_pos rfl] at H; exact H
   clear H
   have H := H1
   clear H1
   replace H := Option.bind_eq_some_iff.mp H
   obtain ⟨t107, A110, H⟩ := H
   replace H : (if a0.size + t107.size ≤ 9223372036854775807 then (some (a0 ++ t107)) else (none)) = some r := H
   have A11 := Aside0.mk A110
   clear A110
   by_cases c12 : a0.size + t107.size ≤ 9223372036854775807
   ·
    rw [if_pos c12] at H
    have c12b0 := eq_true c12
    have c12b1 : decide (a0.size + t107.size ≤ 9223372036854775807) = true := decide_eq_true c12
    try have c12b2 : (9223372036854775807 < a0.size + t107.size) = False := eq_false (Nat.not_lt.2 c12)
    obtain rfl := Option.some.inj H
    go_enter Tryd.func32, Tryd.ntmps32
    try go_wp2_with (first | ((with_reducible refine gate_dst (N := 3) rfl ?_); refine box_event ?hg (N := 3) ?hd (cs := #[.bool a1_0, .bool true, .bool a1_2, .bool a1_3, .bool a1_4, .int .i64 a1_5, .int .i64 a1_6, .int .i32 a1_7]) (t := 28) ?hr ?_; (case hd => rfl); (case hg => rfl); (case hr => first | (go_simp; done) | (go_simp; rfl)); intro gb105 hg w13 hbox hb; have n0_ := Aside0.mk (below_step (by repeat (first | (with_reducible first | exact HB.out | apply below_alloc | apply pw_below_drewN | apply below_drew1) | exact HB.out)) hb); have n1_ := Aside0.mk (hbox); have n2_ := Aside0.mk ((by rw [hg]; exact (below_size (by repeat (first | (with_reducible first | exact HB.out | apply below_alloc | apply pw_below_drewN | apply below_drew1) | exact HB.out))) : w.heap.size ≤ gb105)); have n3_ := Aside0.mk ((by rw [hg]; exact (below_size (by repeat (first | (with_reducible first | exact HB.out | apply below_alloc | apply pw_below_drewN | apply below_drew1) | exact HB.out))) : w.heap.size ≤ gb105)); clear HB; have HB := n0_; have BK105 := n1_; have GW105 := n2_; have GE105 := n3_; clear n0_ n1_ n2_ n3_; clear hb hbox hg))
    have n0_ := Aside0.mk (blk_drew BK105.out)
    have n1_ := Aside0.mk (below_drew1 HB.out)
    clear BK105
    clear HB
    have BK105 := n0_
    have HB := n1_
    clear n0_ n1_
    refine start_ (n := 8) (S := fun w' => w'.cell? ⟨gb105, 0, none⟩ = some (.bool a1_0) ∧ w'.cell? ⟨gb105, 1, none⟩ = some (.bool true) ∧ w'.cell? ⟨gb105, 2, none⟩ = some (.bool a1_2) ∧ w'.cell? ⟨gb105, 3, none⟩ = some (.bool a1_3) ∧ w'.cell? ⟨gb105, 4, none⟩ = some (.bool a1_4) ∧ w'.cell? ⟨gb105, 5, none⟩ = some (.int .i64 a1_5) ∧ w'.cell? ⟨gb105, 6, none⟩ = some (.int .i64 a1_6) ∧ w'.cell? ⟨gb105, 7, none⟩ = some (.int .i32 a1_7)) (ds := []) #[false, false, false, false, false, false, false, false] (by kernel_rfl) rfl rfl ⟨(blk_cell BK105.out 0).trans rfl, (blk_cell BK105.out 1).trans rfl, (blk_cell BK105.out 2).trans rfl, (blk_cell BK105.out 3).trans rfl, (blk_cell BK105.out 4).trans rfl, (blk_cell BK105.out 5).trans rfl, (blk_cell BK105.out 6).trans rfl, (blk_cell BK105.out 7).trans rfl⟩ (fun hHeld => ?_); refine with_tabW buf_Pad.tab1 buf_Pad.bits1 (fun HT_ HW_ => ?_)
    generalize w13.drew = w14 at BK105 HB hHeld ⊢
    refine pure_ (i := 0) (N := some 6) (v := ?_) (a' := ?_) #[true, false, false, false, false, false, false, false] rfl rfl (any_of HT_.out (by kernel_rfl)) (fun _ _ _ h => h) (Or.inl ⟨by rfl, ?_⟩) ?_ ?_
    rotate_left
    ·
     intro w'
     go_simp
     with_reducible rfl
    rotate_left
    ·
     simp only [Act.put, List.setIfInBounds_toArray, List.set_cons_zero, List.set_cons_succ, i64_w, i32_w]
     rfl
    refine pure_ (i := 4) (N := some 10) (v := ?_) (a' := ?_) #[true, false, false, false, true, false, false, false] rfl rfl (any_of HT_.out (by kernel_rfl)) (fun _ _ _ h => h) (Or.inl ⟨by rfl, ?_⟩) ?_ ?_
    rotate_left
    ·
     intro w'
     go_simp
     with_reducible rfl
    rotate_left
    ·
     simp only [Act.put, List.setIfInBounds_toArray, List.set_cons_zero, List.set_cons_succ, i64_w, i32_w]
     rfl
    refine take_ (i := 1) (N := some 7) (v := ?_) (a' := ?_) #[true, true, false, false, true, false, false, false] rfl rfl (take_ofW HT_.out HW_.out (by kernel_rfl)) (fun _ _ _ h => h) (Or.inl ⟨by rfl, ?_⟩) hHeld ?_ ?_
    rotate_left
    ·
     rintro w' ⟨s0, s1, s2, s3, s4, s5, s6, s7⟩
     go_simp
     with_reducible rfl
    rotate_left
    ·
     simp only [Act.put, List.setIfInBounds_toArray, List.set_cons_zero, List.set_cons_succ, i64_w, i32_w]
     rfl
    refine pure_ (i := 2) (N := some 8) (v := ?_) (a' := ?_) #[true, true, true, false, true, false, false, false] rfl rfl (any_of HT_.out (by kernel_rfl)) (fun _ _ _ h => h) (Or.inl ⟨by rfl, ?_⟩) ?_ ?_
    rotate_left
    ·
     intro w'
     go_simp
     with_reducible rfl
    rotate_left
    ·
     simp only [Act.put, List.setIfInBounds_toArray, List.set_cons_zero, List.set_cons_succ, i64_w, i32_w]
     rfl
    refine pure_ (i := 3) (N := some 9) (v := ?_) (a' := ?_) #[true, true, true, true, true, false, false, false] rfl rfl (any_of HT_.out (by kernel_rfl)) (fun _ _ _ h => h) (Or.inl ⟨by rfl, ?_⟩) ?_ ?_
    rotate_left
    ·
     intro w'
     go_simp
     with_reducible rfl
    rotate_left
    ·
     simp only [Act.put, List.setIfInBounds_toArray, List.set_cons_zero, List.set_cons_succ, i64_w, i32_w]
     rfl
    refine one_ (i := 5) (N := some 11) #[true, true, true, true, true, true, false, false] rfl rfl (one_of HT_.out (by kernel_rfl)) (by decide) (fun K hK => ?_)
    refine goes_ Tryd.func21 (by kernel_rfl) rfl #[.string a0] (by rfl) rfl rfl (by (try simp only [List.map_toArray, List.map_cons, List.map_nil]); first | done | rfl | (simp only [List.length_drop, List.length_take]; rfl)) ?_
    with_reducible refine (buf_Count.calls a0 t106 _ A5.out).mono ?_
    rintro e w15 ⟨rfl, hb⟩
    refine ⟨_, rfl, ?_⟩
    have n0_ := Aside0.mk (blk_below (g := gb105) (o := .cells #[.bool a1_0, .bool true, .bool a1_2, .bool a1_3, .bool a1_4, .int .i64 a1_5, .int .i64 a1_6, .int .i32 a1_7] 28 (0, 0)) (by (with_reducible repeat (first | refine blk_drewN ?_ _ | refine blk_drew ?_ | refine blk_alloc ?_ _)); exact BK105.out) hb)
    have n1_ := Aside0.mk (below_step (by repeat (first | (with_reducible first | exact HB.out | apply below_alloc | apply pw_below_drewN | apply below_drew1 | refine below_set ?_ GE105.out) | exact HB.out)) hb)
    clear BK105
    clear HB
    have BK105 := n0_
    have HB := n1_
    clear n0_ n1_
    (try clear hb)
    (try clear hb2)
    (try clear hk)
    (try clear hi)
    refine hK.out _ _ ⟨(blk_cell BK105.out 0).trans rfl, (blk_cell BK105.out 1).trans rfl, (blk_cell BK105.out 2).trans rfl, (blk_cell BK105.out 3).trans rfl, (blk_cell BK105.out 4).trans rfl, (blk_cell BK105.out 5).trans rfl, (blk_cell BK105.out 6).trans rfl, (blk_cell BK105.out 7).trans rfl⟩ (fun hHeld => ?_)
    clear hK K
    refine norm_ (a' := ?_) ?_ ?_
    rotate_left
    ·
     show Act.put _ (some 11) _ = _
     simp only [Act.put, List.setIfInBounds_toArray, List.set_cons_zero, List.set_cons_succ, i64_w, i32_w]
     rfl
    refine pure_ (i := 6) (N := some 12) (v := ?_) (a' := ?_) #[true, true, true, true, true, true, true, false] rfl rfl (any_of HT_.out (by kernel_rfl)) (fun _ _ _ h => h) (Or.inl ⟨by rfl, ?_⟩) ?_ ?_
    rotate_left
    ·
     intro w'
     go_simp
     with_reducible rfl
    rotate_left
    ·
     simp only [Act.put, List.setIfInBounds_toArray, List.set_cons_zero, List.set_cons_succ, i64_w, i32_w]
     rfl
    refine pure_ (i := 7) (N := some 5) (v := ?_) (a' := ?_) #[true, true, true, true, true, true, true, true] rfl rfl (any_of HT_.out (by kernel_rfl)) (fun _ _ _ h => h) (Or.inl ⟨by rfl, ?_⟩) ?_ ?_
    rotate_left
    ·
     intro w'
     go_simp
     with_reducible rfl
    rotate_left
    ·
     simp only [Act.put, List.setIfInBounds_toArray, List.set_cons_zero, List.set_cons_succ, i64_w, i32_w]
     rfl
    refine done_ (done_of HT_.out (by kernel_rfl)) ?_
    have hcz16_0 : w15.cell? ⟨gb105, 0, none⟩ = some (.bool a1_0) := (blk_cell BK105.out 0).trans rfl
    have hcz16_1 : w15.cell? ⟨gb105, 1, none⟩ = some (.bool true) := (blk_cell BK105.out 1).trans rfl
    have hcz16_2 : w15.cell? ⟨gb105, 2, none⟩ = some (.bool a1_2) := (blk_cell BK105.out 2).trans rfl
    have hcz16_3 : w15.cell? ⟨gb105, 3, none⟩ = some (.bool a1_3) := (blk_cell BK105.out 3).trans rfl
    have hcz16_4 : w15.cell? ⟨gb105, 4, none⟩ = some (.bool a1_4) := (blk_cell BK105.out 4).trans rfl
    have hcz16_5 : w15.cell? ⟨gb105, 5, none⟩ = some (.int .i64 a1_5) := (blk_cell BK105.out 5).trans rfl
    have hcz16_6 : w15.cell? ⟨gb105, 6, none⟩ = some (.int .i64 a1_6) := (blk_cell BK105.out 6).trans rfl
    have hcz16_7 : w15.cell? ⟨gb105, 7, none⟩ = some (.int .i32 a1_7) := (blk_cell BK105.out 7).trans rfl
    have hfz16_0 := blk_frozen BK105.out 0
    have hfz16_1 := blk_frozen BK105.out 1
    have hfz16_2 := blk_frozen BK105.out 2
    have hfz16_3 := blk_frozen BK105.out 3
    have hfz16_4 := blk_frozen BK105.out 4
    have hfz16_5 := blk_frozen BK105.out 5
    have hfz16_6 := blk_frozen BK105.out 6
    have hfz16_7 := blk_frozen BK105.out 7
    try go_wp2_with (first | ((with_reducible refine gate_callee (f := 50) rfl ?_); refine goesL_ (some 22) rfl rfl Tryd.func50 (by kernel_rfl) rfl #[.int .u8 32, .int .i64 (wrap64 ((ji4) - t106))] rfl (by (try simp only [List.map_toArray, List.map_cons, List.map_nil]); first | done | (simp only [hji4]; rfl) | rfl | (simp only [List.length_drop, List.length_take]; rfl)) ?_; (first | (with_reducible refine (buf_Fill.calls 32 (wrap64 ((ji4) - t106)) t107 _ A11.out).mono ?_) | (simp only [i64_w]; (with_reducible refine (buf_Fill.calls 32 (wrap64 ((ji4) - t106)) t107 _ A11.out).mono ?_))); rintro e w17 ⟨rfl, hb⟩; refine ⟨_, rfl, ?_⟩; have n0_ := Aside0.mk (blk_below (g := gb105) (o := .cells #[.bool a1_0, .bool true, .bool a1_2, .bool a1_3, .bool a1_4, .int .i64 a1_5, .int .i64 a1_6, .int .i32 a1_7] 28 (0, 0)) (by (with_reducible repeat (first | refine blk_drewN ?_ _ | refine blk_drew ?_ | refine blk_alloc ?_ _)); exact BK105.out) hb); have n1_ := Aside0.mk (below_step (by repeat (first | (with_reducible first | exact HB.out | apply below_alloc | apply pw_below_drewN | apply below_drew1 | refine below_set ?_ GE105.out) | exact HB.out)) hb); clear BK105; clear HB; have BK105 := n0_; have HB := n1_; clear n0_ n1_; (try clear hb); (try clear hb2); (try clear hk); (try clear hi)))
    go_ret
    exact ⟨by first | rfl | (simp [errW_none, errW_some] <;> rfl) | (simp only [← hji3, ← hji4]; first | rfl | (simp [errW_none, errW_some] <;> rfl)) | (simp [*, errW_none, errW_some] <;> rfl), by repeat (first | (with_reducible first | exact HB.out | apply below_alloc | apply pw_below_drewN | apply below_drew1 | refine below_set ?_ GE105.out) | exact HB.out)⟩
   ·
    rw [if_neg c12] at H
    exact absurd H (by simp)
  ·
   replace c10 := Bool.eq_false_iff.mpr c10
   subst c10
   have H1 : (if a1_4 = true then ((buf_Fill.f 48 (wrap64 ((ji4) - t106))).bind fun t108 => (if t108.size + a0.size ≤ 9223372036854775807 then (some (t108 ++ a0)) else (none))) else ((buf_Fill.f 32 (wrap64 ((ji4) - t106))).bind fun t109 => (if t109.size + a0.size ≤ 9223372036854775807 then (some (t109 ++ a0)) else (none)))) = some r := by rw [if_neg (show ¬ (false = true) by decide)] at H; exact H
   clear H
   have H := H1
   clear H1
   by_cases c18 : a1_4 = true
   ·
    subst c18
    have H1 : ((buf_Fill.f 48 (wrap64 ((ji4) - t106))).bind fun t108 => (if t108.size + a0.size ≤ 9223372036854775807 then (some (t108 ++ a0)) else (none))) = some r := by rw [if_pos rfl] at H; exact H
    clear H
    have H := H1
    clear H1
    replace H := Option.bind_eq_some_iff.mp H
    obtain ⟨t108, A190, H⟩ := H
    replace H : (if t108.size + a0.size ≤ 9223372036854775807 then (some (t108 ++ a0)) else (none)) = some r := H
    have A19 := Aside0.mk A190
    clear A190
    by_cases c20 : t108.size + a0.size ≤ 9223372036854775807
    ·
     rw [if_pos c20] at H
     have c20b0 := eq_true c20
     have c20b1 : decide (t108.size + a0.size ≤ 9223372036854775807) = true := decide_eq_true c20
     try have c20b2 : (9223372036854775807 < t108.size + a0.size) = False := eq_false (Nat.not_lt.2 c20)
     obtain rfl := Option.some.inj H
     go_enter Tryd.func32, Tryd.ntmps32
     try go_wp2_with (first | ((with_reducible refine gate_dst (N := 3) rfl ?_); refine box_event ?hg (N := 3) ?hd (cs := #[.bool a1_0, .bool false, .bool a1_2, .bool a1_3, .bool true, .int .i64 a1_5, .int .i64 a1_6, .int .i32 a1_7]) (t := 28) ?hr ?_; (case hd => rfl); (case hg => rfl); (case hr => first | (go_simp; done) | (go_simp; rfl)); intro gb105 hg w21 hbox hb; have n0_ := Aside0.mk (below_step (by repeat (first | (with_reducible first | exact HB.out | apply below_alloc | apply pw_below_drewN | apply below_drew1) | exact HB.out)) hb); have n1_ := Aside0.mk (hbox); have n2_ := Aside0.mk ((by rw [hg]; exact (below_size (by repeat (first | (with_reducible first | exact HB.out | apply below_alloc | apply pw_below_drewN | apply below_drew1) | exact HB.out))) : w.heap.size ≤ gb105)); have n3_ := Aside0.mk ((by rw [hg]; exact (below_size (by repeat (first | (with_reducible first | exact HB.out | apply below_alloc | apply pw_below_drewN | apply below_drew1) | exact HB.out))) : w.heap.size ≤ gb105)); clear HB; have HB := n0_; have BK105 := n1_; have GW105 := n2_; have GE105 := n3_; clear n0_ n1_ n2_ n3_; clear hb hbox hg))
     have n0_ := Aside0.mk (blk_drew BK105.out)
     have n1_ := Aside0.mk (below_drew1 HB.out)
     clear BK105
     clear HB
     have BK105 := n0_
     have HB := n1_
     clear n0_ n1_
     refine start_ (n := 8) (S := fun w' => w'.cell? ⟨gb105, 0, none⟩ = some (.bool a1_0) ∧ w'.cell? ⟨gb105, 1, none⟩ = some (.bool false) ∧ w'.cell? ⟨gb105, 2, none⟩ = some (.bool a1_2) ∧ w'.cell? ⟨gb105, 3, none⟩ = some (.bool a1_3) ∧ w'.cell? ⟨gb105, 4, none⟩ = some (.bool true) ∧ w'.cell? ⟨gb105, 5, none⟩ = some (.int .i64 a1_5) ∧ w'.cell? ⟨gb105, 6, none⟩ = some (.int .i64 a1_6) ∧ w'.cell? ⟨gb105, 7, none⟩ = some (.int .i32 a1_7)) (ds := []) #[false, false, false, false, false, false, false, false] (by kernel_rfl) rfl rfl ⟨(blk_cell BK105.out 0).trans rfl, (blk_cell BK105.out 1).trans rfl, (blk_cell BK105.out 2).trans rfl, (blk_cell BK105.out 3).trans rfl, (blk_cell BK105.out 4).trans rfl, (blk_cell BK105.out 5).trans rfl, (blk_cell BK105.out 6).trans rfl, (blk_cell BK105.out 7).trans rfl⟩ (fun hHeld => ?_); refine with_tabW buf_Pad.tab1 buf_Pad.bits1 (fun HT_ HW_ => ?_)
     generalize w21.drew = w22 at BK105 HB hHeld ⊢
     refine pure_ (i := 0) (N := some 6) (v := ?_) (a' := ?_) #[true, false, false, false, false, false, false, false] rfl rfl (any_of HT_.out (by kernel_rfl)) (fun _ _ _ h => h) (Or.inl ⟨by rfl, ?_⟩) ?_ ?_
     rotate_left
     ·
      intro w'
      go_simp
      with_reducible rfl
     rotate_left
     ·
      simp only [Act.put, List.setIfInBounds_toArray, List.set_cons_zero, List.set_cons_succ, i64_w, i32_w]
      rfl
     refine pure_ (i := 4) (N := some 10) (v := ?_) (a' := ?_) #[true, false, false, false, true, false, false, false] rfl rfl (any_of HT_.out (by kernel_rfl)) (fun _ _ _ h => h) (Or.inl ⟨by rfl, ?_⟩) ?_ ?_
     rotate_left
     ·
      intro w'
      go_simp
      with_reducible rfl
     rotate_left
     ·
      simp only [Act.put, List.setIfInBounds_toArray, List.set_cons_zero, List.set_cons_succ, i64_w, i32_w]
      rfl
     refine take_ (i := 1) (N := some 7) (v := ?_) (a' := ?_) #[true, true, false, false, true, false, false, false] rfl rfl (take_ofW HT_.out HW_.out (by kernel_rfl)) (fun _ _ _ h => h) (Or.inl ⟨by rfl, ?_⟩) hHeld ?_ ?_
     rotate_left
     ·
      rintro w' ⟨s0, s1, s2, s3, s4, s5, s6, s7⟩
      go_simp
      with_reducible rfl
     rotate_left
     ·
      simp only [Act.put, List.setIfInBounds_toArray, List.set_cons_zero, List.set_cons_succ, i64_w, i32_w]
      rfl
     refine pure_ (i := 2) (N := some 8) (v := ?_) (a' := ?_) #[true, true, true, false, true, false, false, false] rfl rfl (any_of HT_.out (by kernel_rfl)) (fun _ _ _ h => h) (Or.inl ⟨by rfl, ?_⟩) ?_ ?_
     rotate_left
     ·
      intro w'
      go_simp
      with_reducible rfl
     rotate_left
     ·
      simp only [Act.put, List.setIfInBounds_toArray, List.set_cons_zero, List.set_cons_succ, i64_w, i32_w]
      rfl
     refine pure_ (i := 3) (N := some 9) (v := ?_) (a' := ?_) #[true, true, true, true, true, false, false, false] rfl rfl (any_of HT_.out (by kernel_rfl)) (fun _ _ _ h => h) (Or.inl ⟨by rfl, ?_⟩) ?_ ?_
     rotate_left
     ·
      intro w'
      go_simp
      with_reducible rfl
     rotate_left
     ·
      simp only [Act.put, List.setIfInBounds_toArray, List.set_cons_zero, List.set_cons_succ, i64_w, i32_w]
      rfl
     refine one_ (i := 5) (N := some 11) #[true, true, true, true, true, true, false, false] rfl rfl (one_of HT_.out (by kernel_rfl)) (by decide) (fun K hK => ?_)
     refine goes_ Tryd.func21 (by kernel_rfl) rfl #[.string a0] (by rfl) rfl rfl (by (try simp only [List.map_toArray, List.map_cons, List.map_nil]); first | done | rfl | (simp only [List.length_drop, List.length_take]; rfl)) ?_
     with_reducible refine (buf_Count.calls a0 t106 _ A5.out).mono ?_
     rintro e w23 ⟨rfl, hb⟩
     refine ⟨_, rfl, ?_⟩
     have n0_ := Aside0.mk (blk_below (g := gb105) (o := .cells #[.bool a1_0, .bool false, .bool a1_2, .bool a1_3, .bool true, .int .i64 a1_5, .int .i64 a1_6, .int .i32 a1_7] 28 (0, 0)) (by (with_reducible repeat (first | refine blk_drewN ?_ _ | refine blk_drew ?_ | refine blk_alloc ?_ _)); exact BK105.out) hb)
     have n1_ := Aside0.mk (below_step (by repeat (first | (with_reducible first | exact HB.out | apply below_alloc | apply pw_below_drewN | apply below_drew1 | refine below_set ?_ GE105.out) | exact HB.out)) hb)
     clear BK105
     clear HB
     have BK105 := n0_
     have HB := n1_
     clear n0_ n1_
     (try clear hb)
     (try clear hb2)
     (try clear hk)
     (try clear hi)
     refine hK.out _ _ ⟨(blk_cell BK105.out 0).trans rfl, (blk_cell BK105.out 1).trans rfl, (blk_cell BK105.out 2).trans rfl, (blk_cell BK105.out 3).trans rfl, (blk_cell BK105.out 4).trans rfl, (blk_cell BK105.out 5).trans rfl, (blk_cell BK105.out 6).trans rfl, (blk_cell BK105.out 7).trans rfl⟩ (fun hHeld => ?_)
     clear hK K
     refine norm_ (a' := ?_) ?_ ?_
     rotate_left
     ·
      show Act.put _ (some 11) _ = _
      simp only [Act.put, List.setIfInBounds_toArray, List.set_cons_zero, List.set_cons_succ, i64_w, i32_w]
      rfl
     refine pure_ (i := 6) (N := some 12) (v := ?_) (a' := ?_) #[true, true, true, true, true, true, true, false] rfl rfl (any_of HT_.out (by kernel_rfl)) (fun _ _ _ h => h) (Or.inl ⟨by rfl, ?_⟩) ?_ ?_
     rotate_left
     ·
      intro w'
      go_simp
      with_reducible rfl
     rotate_left
     ·
      simp only [Act.put, List.setIfInBounds_toArray, List.set_cons_zero, List.set_cons_succ, i64_w, i32_w]
      rfl
     refine pure_ (i := 7) (N := some 5) (v := ?_) (a' := ?_) #[true, true, true, true, true, true, true, true] rfl rfl (any_of HT_.out (by kernel_rfl)) (fun _ _ _ h => h) (Or.inl ⟨by rfl, ?_⟩) ?_ ?_
     rotate_left
     ·
      intro w'
      go_simp
      with_reducible rfl
     rotate_left
     ·
      simp only [Act.put, List.setIfInBounds_toArray, List.set_cons_zero, List.set_cons_succ, i64_w, i32_w]
      rfl
     refine done_ (done_of HT_.out (by kernel_rfl)) ?_
     have hcz24_0 : w23.cell? ⟨gb105, 0, none⟩ = some (.bool a1_0) := (blk_cell BK105.out 0).trans rfl
     have hcz24_1 : w23.cell? ⟨gb105, 1, none⟩ = some (.bool false) := (blk_cell BK105.out 1).trans rfl
     have hcz24_2 : w23.cell? ⟨gb105, 2, none⟩ = some (.bool a1_2) := (blk_cell BK105.out 2).trans rfl
     have hcz24_3 : w23.cell? ⟨gb105, 3, none⟩ = some (.bool a1_3) := (blk_cell BK105.out 3).trans rfl
     have hcz24_4 : w23.cell? ⟨gb105, 4, none⟩ = some (.bool true) := (blk_cell BK105.out 4).trans rfl
     have hcz24_5 : w23.cell? ⟨gb105, 5, none⟩ = some (.int .i64 a1_5) := (blk_cell BK105.out 5).trans rfl
     have hcz24_6 : w23.cell? ⟨gb105, 6, none⟩ = some (.int .i64 a1_6) := (blk_cell BK105.out 6).trans rfl
     have hcz24_7 : w23.cell? ⟨gb105, 7, none⟩ = some (.int .i32 a1_7) := (blk_cell BK105.out 7).trans rfl
     have hfz24_0 := blk_frozen BK105.out 0
     have hfz24_1 := blk_frozen BK105.out 1
     have hfz24_2 := blk_frozen BK105.out 2
     have hfz24_3 := blk_frozen BK105.out 3
     have hfz24_4 := blk_frozen BK105.out 4
     have hfz24_5 := blk_frozen BK105.out 5
     have hfz24_6 := blk_frozen BK105.out 6
     have hfz24_7 := blk_frozen BK105.out 7
     try go_wp2_with (first | ((with_reducible refine gate_callee (f := 50) rfl ?_); refine goesL_ (some 28) rfl rfl Tryd.func50 (by kernel_rfl) rfl #[.int .u8 48, .int .i64 (wrap64 ((ji4) - t106))] rfl (by (try simp only [List.map_toArray, List.map_cons, List.map_nil]); first | done | (simp only [hji4]; rfl) | rfl | (simp only [List.length_drop, List.length_take]; rfl)) ?_; (first | (with_reducible refine (buf_Fill.calls 48 (wrap64 ((ji4) - t106)) t108 _ A19.out).mono ?_) | (simp only [i64_w]; (with_reducible refine (buf_Fill.calls 48 (wrap64 ((ji4) - t106)) t108 _ A19.out).mono ?_))); rintro e w25 ⟨rfl, hb⟩; refine ⟨_, rfl, ?_⟩; have n0_ := Aside0.mk (blk_below (g := gb105) (o := .cells #[.bool a1_0, .bool false, .bool a1_2, .bool a1_3, .bool true, .int .i64 a1_5, .int .i64 a1_6, .int .i32 a1_7] 28 (0, 0)) (by (with_reducible repeat (first | refine blk_drewN ?_ _ | refine blk_drew ?_ | refine blk_alloc ?_ _)); exact BK105.out) hb); have n1_ := Aside0.mk (below_step (by repeat (first | (with_reducible first | exact HB.out | apply below_alloc | apply pw_below_drewN | apply below_drew1 | refine below_set ?_ GE105.out) | exact HB.out)) hb); clear BK105; clear HB; have BK105 := n0_; have HB := n1_; clear n0_ n1_; (try clear hb); (try clear hb2); (try clear hk); (try clear hi)))
     go_ret
     exact ⟨by first | rfl | (simp [errW_none, errW_some] <;> rfl) | (simp only [← hji3, ← hji4]; first | rfl | (simp [errW_none, errW_some] <;> rfl)) | (simp [*, errW_none, errW_some] <;> rfl), by repeat (first | (with_reducible first | exact HB.out | apply below_alloc | apply pw_below_drewN | apply below_drew1 | refine below_set ?_ GE105.out) | exact HB.out)⟩
    ·
     rw [if_neg c20] at H
     exact absurd H (by simp)
   ·
    replace c18 := Bool.eq_false_iff.mpr c18
    subst c18
    have H1 : ((buf_Fill.f 32 (wrap64 ((ji4) - t106))).bind fun t109 => (if t109.size + a0.size ≤ 9223372036854775807 then (some (t109 ++ a0)) else (none))) = some r := by rw [if_neg (show ¬ (false = true) by decide)] at H; exact H
    clear H
    have H := H1
    clear H1
    replace H := Option.bind_eq_some_iff.mp H
    obtain ⟨t109, A260, H⟩ := H
    replace H : (if t109.size + a0.size ≤ 9223372036854775807 then (some (t109 ++ a0)) else (none)) = some r := H
    have A26 := Aside0.mk A260
    clear A260
    by_cases c27 : t109.size + a0.size ≤ 9223372036854775807
    ·
     rw [if_pos c27] at H
     have c27b0 := eq_true c27
     have c27b1 : decide (t109.size + a0.size ≤ 9223372036854775807) = true := decide_eq_true c27
     try have c27b2 : (9223372036854775807 < t109.size + a0.size) = False := eq_false (Nat.not_lt.2 c27)
     obtain rfl := Option.some.inj H
     go_enter Tryd.func32, Tryd.ntmps32
     try go_wp2_with (first | ((with_reducible refine gate_dst (N := 3) rfl ?_); refine box_event ?hg (N := 3) ?hd (cs := #[.bool a1_0, .bool false, .bool a1_2, .bool a1_3, .bool false, .int .i64 a1_5, .int .i64 a1_6, .int .i32 a1_7]) (t := 28) ?hr ?_; (case hd => rfl); (case hg => rfl); (case hr => first | (go_simp; done) | (go_simp; rfl)); intro gb105 hg w28 hbox hb; have n0_ := Aside0.mk (below_step (by repeat (first | (with_reducible first | exact HB.out | apply below_alloc | apply pw_below_drewN | apply below_drew1) | exact HB.out)) hb); have n1_ := Aside0.mk (hbox); have n2_ := Aside0.mk ((by rw [hg]; exact (below_size (by repeat (first | (with_reducible first | exact HB.out | apply below_alloc | apply pw_below_drewN | apply below_drew1) | exact HB.out))) : w.heap.size ≤ gb105)); have n3_ := Aside0.mk ((by rw [hg]; exact (below_size (by repeat (first | (with_reducible first | exact HB.out | apply below_alloc | apply pw_below_drewN | apply below_drew1) | exact HB.out))) : w.heap.size ≤ gb105)); clear HB; have HB := n0_; have BK105 := n1_; have GW105 := n2_; have GE105 := n3_; clear n0_ n1_ n2_ n3_; clear hb hbox hg))
     have n0_ := Aside0.mk (blk_drew BK105.out)
     have n1_ := Aside0.mk (below_drew1 HB.out)
     clear BK105
     clear HB
     have BK105 := n0_
     have HB := n1_
     clear n0_ n1_
     refine start_ (n := 8) (S := fun w' => w'.cell? ⟨gb105, 0, none⟩ = some (.bool a1_0) ∧ w'.cell? ⟨gb105, 1, none⟩ = some (.bool false) ∧ w'.cell? ⟨gb105, 2, none⟩ = some (.bool a1_2) ∧ w'.cell? ⟨gb105, 3, none⟩ = some (.bool a1_3) ∧ w'.cell? ⟨gb105, 4, none⟩ = some (.bool false) ∧ w'.cell? ⟨gb105, 5, none⟩ = some (.int .i64 a1_5) ∧ w'.cell? ⟨gb105, 6, none⟩ = some (.int .i64 a1_6) ∧ w'.cell? ⟨gb105, 7, none⟩ = some (.int .i32 a1_7)) (ds := []) #[false, false, false, false, false, false, false, false] (by kernel_rfl) rfl rfl ⟨(blk_cell BK105.out 0).trans rfl, (blk_cell BK105.out 1).trans rfl, (blk_cell BK105.out 2).trans rfl, (blk_cell BK105.out 3).trans rfl, (blk_cell BK105.out 4).trans rfl, (blk_cell BK105.out 5).trans rfl, (blk_cell BK105.out 6).trans rfl, (blk_cell BK105.out 7).trans rfl⟩ (fun hHeld => ?_); refine with_tabW buf_Pad.tab1 buf_Pad.bits1 (fun HT_ HW_ => ?_)
     generalize w28.drew = w29 at BK105 HB hHeld ⊢
     refine pure_ (i := 0) (N := some 6) (v := ?_) (a' := ?_) #[true, false, false, false, false, false, false, false] rfl rfl (any_of HT_.out (by kernel_rfl)) (fun _ _ _ h => h) (Or.inl ⟨by rfl, ?_⟩) ?_ ?_
     rotate_left
     ·
      intro w'
      go_simp
      with_reducible rfl
     rotate_left
     ·
      simp only [Act.put, List.setIfInBounds_toArray, List.set_cons_zero, List.set_cons_succ, i64_w, i32_w]
      rfl
     refine pure_ (i := 4) (N := some 10) (v := ?_) (a' := ?_) #[true, false, false, false, true, false, false, false] rfl rfl (any_of HT_.out (by kernel_rfl)) (fun _ _ _ h => h) (Or.inl ⟨by rfl, ?_⟩) ?_ ?_
     rotate_left
     ·
      intro w'
      go_simp
      with_reducible rfl
     rotate_left
     ·
      simp only [Act.put, List.setIfInBounds_toArray, List.set_cons_zero, List.set_cons_succ, i64_w, i32_w]
      rfl
     refine take_ (i := 1) (N := some 7) (v := ?_) (a' := ?_) #[true, true, false, false, true, false, false, false] rfl rfl (take_ofW HT_.out HW_.out (by kernel_rfl)) (fun _ _ _ h => h) (Or.inl ⟨by rfl, ?_⟩) hHeld ?_ ?_
     rotate_left
     ·
      rintro w' ⟨s0, s1, s2, s3, s4, s5, s6, s7⟩
      go_simp
      with_reducible rfl
     rotate_left
     ·
      simp only [Act.put, List.setIfInBounds_toArray, List.set_cons_zero, List.set_cons_succ, i64_w, i32_w]
      rfl
     refine pure_ (i := 2) (N := some 8) (v := ?_) (a' := ?_) #[true, true, true, false, true, false, false, false] rfl rfl (any_of HT_.out (by kernel_rfl)) (fun _ _ _ h => h) (Or.inl ⟨by rfl, ?_⟩) ?_ ?_
     rotate_left
     ·
      intro w'
      go_simp
      with_reducible rfl
     rotate_left
     ·
      simp only [Act.put, List.setIfInBounds_toArray, List.set_cons_zero, List.set_cons_succ, i64_w, i32_w]
      rfl
     refine pure_ (i := 3) (N := some 9) (v := ?_) (a' := ?_) #[true, true, true, true, true, false, false, false] rfl rfl (any_of HT_.out (by kernel_rfl)) (fun _ _ _ h => h) (Or.inl ⟨by rfl, ?_⟩) ?_ ?_
     rotate_left
     ·
      intro w'
      go_simp
      with_reducible rfl
     rotate_left
     ·
      simp only [Act.put, List.setIfInBounds_toArray, List.set_cons_zero, List.set_cons_succ, i64_w, i32_w]
      rfl
     refine one_ (i := 5) (N := some 11) #[true, true, true, true, true, true, false, false] rfl rfl (one_of HT_.out (by kernel_rfl)) (by decide) (fun K hK => ?_)
     refine goes_ Tryd.func21 (by kernel_rfl) rfl #[.string a0] (by rfl) rfl rfl (by (try simp only [List.map_toArray, List.map_cons, List.map_nil]); first | done | rfl | (simp only [List.length_drop, List.length_take]; rfl)) ?_
     with_reducible refine (buf_Count.calls a0 t106 _ A5.out).mono ?_
     rintro e w30 ⟨rfl, hb⟩
     refine ⟨_, rfl, ?_⟩
     have n0_ := Aside0.mk (blk_below (g := gb105) (o := .cells #[.bool a1_0, .bool false, .bool a1_2, .bool a1_3, .bool false, .int .i64 a1_5, .int .i64 a1_6, .int .i32 a1_7] 28 (0, 0)) (by (with_reducible repeat (first | refine blk_drewN ?_ _ | refine blk_drew ?_ | refine blk_alloc ?_ _)); exact BK105.out) hb)
     have n1_ := Aside0.mk (below_step (by repeat (first | (with_reducible first | exact HB.out | apply below_alloc | apply pw_below_drewN | apply below_drew1 | refine below_set ?_ GE105.out) | exact HB.out)) hb)
     clear BK105
     clear HB
     have BK105 := n0_
     have HB := n1_
     clear n0_ n1_
     (try clear hb)
     (try clear hb2)
     (try clear hk)
     (try clear hi)
     refine hK.out _ _ ⟨(blk_cell BK105.out 0).trans rfl, (blk_cell BK105.out 1).trans rfl, (blk_cell BK105.out 2).trans rfl, (blk_cell BK105.out 3).trans rfl, (blk_cell BK105.out 4).trans rfl, (blk_cell BK105.out 5).trans rfl, (blk_cell BK105.out 6).trans rfl, (blk_cell BK105.out 7).trans rfl⟩ (fun hHeld => ?_)
     clear hK K
     refine norm_ (a' := ?_) ?_ ?_
     rotate_left
     ·
      show Act.put _ (some 11) _ = _
      simp only [Act.put, List.setIfInBounds_toArray, List.set_cons_zero, List.set_cons_succ, i64_w, i32_w]
      rfl
     refine pure_ (i := 6) (N := some 12) (v := ?_) (a' := ?_) #[true, true, true, true, true, true, true, false] rfl rfl (any_of HT_.out (by kernel_rfl)) (fun _ _ _ h => h) (Or.inl ⟨by rfl, ?_⟩) ?_ ?_
     rotate_left
     ·
      intro w'
      go_simp
      with_reducible rfl
     rotate_left
     ·
      simp only [Act.put, List.setIfInBounds_toArray, List.set_cons_zero, List.set_cons_succ, i64_w, i32_w]
      rfl
     refine pure_ (i := 7) (N := some 5) (v := ?_) (a' := ?_) #[true, true, true, true, true, true, true, true] rfl rfl (any_of HT_.out (by kernel_rfl)) (fun _ _ _ h => h) (Or.inl ⟨by rfl, ?_⟩) ?_ ?_
     rotate_left
     ·
      intro w'
      go_simp
      with_reducible rfl
     rotate_left
     ·
      simp only [Act.put, List.setIfInBounds_toArray, List.set_cons_zero, List.set_cons_succ, i64_w, i32_w]
      rfl
     refine done_ (done_of HT_.out (by kernel_rfl)) ?_
     have hcz31_0 : w30.cell? ⟨gb105, 0, none⟩ = some (.bool a1_0) := (blk_cell BK105.out 0).trans rfl
     have hcz31_1 : w30.cell? ⟨gb105, 1, none⟩ = some (.bool false) := (blk_cell BK105.out 1).trans rfl
     have hcz31_2 : w30.cell? ⟨gb105, 2, none⟩ = some (.bool a1_2) := (blk_cell BK105.out 2).trans rfl
     have hcz31_3 : w30.cell? ⟨gb105, 3, none⟩ = some (.bool a1_3) := (blk_cell BK105.out 3).trans rfl
     have hcz31_4 : w30.cell? ⟨gb105, 4, none⟩ = some (.bool false) := (blk_cell BK105.out 4).trans rfl
     have hcz31_5 : w30.cell? ⟨gb105, 5, none⟩ = some (.int .i64 a1_5) := (blk_cell BK105.out 5).trans rfl
     have hcz31_6 : w30.cell? ⟨gb105, 6, none⟩ = some (.int .i64 a1_6) := (blk_cell BK105.out 6).trans rfl
     have hcz31_7 : w30.cell? ⟨gb105, 7, none⟩ = some (.int .i32 a1_7) := (blk_cell BK105.out 7).trans rfl
     have hfz31_0 := blk_frozen BK105.out 0
     have hfz31_1 := blk_frozen BK105.out 1
     have hfz31_2 := blk_frozen BK105.out 2
     have hfz31_3 := blk_frozen BK105.out 3
     have hfz31_4 := blk_frozen BK105.out 4
     have hfz31_5 := blk_frozen BK105.out 5
     have hfz31_6 := blk_frozen BK105.out 6
     have hfz31_7 := blk_frozen BK105.out 7
     try go_wp2_with (first | ((with_reducible refine gate_callee (f := 50) rfl ?_); refine goesL_ (some 32) rfl rfl Tryd.func50 (by kernel_rfl) rfl #[.int .u8 32, .int .i64 (wrap64 ((ji4) - t106))] rfl (by (try simp only [List.map_toArray, List.map_cons, List.map_nil]); first | done | (simp only [hji4]; rfl) | rfl | (simp only [List.length_drop, List.length_take]; rfl)) ?_; (first | (with_reducible refine (buf_Fill.calls 32 (wrap64 ((ji4) - t106)) t109 _ A26.out).mono ?_) | (simp only [i64_w]; (with_reducible refine (buf_Fill.calls 32 (wrap64 ((ji4) - t106)) t109 _ A26.out).mono ?_))); rintro e w32 ⟨rfl, hb⟩; refine ⟨_, rfl, ?_⟩; have n0_ := Aside0.mk (blk_below (g := gb105) (o := .cells #[.bool a1_0, .bool false, .bool a1_2, .bool a1_3, .bool false, .int .i64 a1_5, .int .i64 a1_6, .int .i32 a1_7] 28 (0, 0)) (by (with_reducible repeat (first | refine blk_drewN ?_ _ | refine blk_drew ?_ | refine blk_alloc ?_ _)); exact BK105.out) hb); have n1_ := Aside0.mk (below_step (by repeat (first | (with_reducible first | exact HB.out | apply below_alloc | apply pw_below_drewN | apply below_drew1 | refine below_set ?_ GE105.out) | exact HB.out)) hb); clear BK105; clear HB; have BK105 := n0_; have HB := n1_; clear n0_ n1_; (try clear hb); (try clear hb2); (try clear hk); (try clear hi)))
     go_ret
     exact ⟨by first | rfl | (simp [errW_none, errW_some] <;> rfl) | (simp only [← hji3, ← hji4]; first | rfl | (simp [errW_none, errW_some] <;> rfl)) | (simp [*, errW_none, errW_some] <;> rfl), by repeat (first | (with_reducible first | exact HB.out | apply below_alloc | apply pw_below_drewN | apply below_drew1 | refine below_set ?_ GE105.out) | exact HB.out)⟩
    ·
     rw [if_neg c27] at H
     exact absurd H (by simp)
end Go.Proofs.YtcoippikicikoaaDoor.PQGen
