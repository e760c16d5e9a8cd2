/- BadExtras as printed answers true. -/
import Derived.Test.YtiaocdbgcjnceaaDoorPureReads
import Derived.Test.YtiaocdbgcjnceaaDoorPGExtrax
namespace Go.Proofs.YtiaocdbgcjnceaaDoor
open Go.RowKit Go.Proofs.YtiaocdbgcjnceaaDoorW.PrintWords

theorem join_snoc (xs : List (List UInt8)) (x sep : List UInt8) (h : xs ≠ []) : Lib.join (xs ++ [x]) sep = Lib.join xs sep ++ (sep ++ x) := by
  cases xs with
  | nil => exact absurd rfl h
  | cons a r => rw [List.cons_append, Lib.join_cons, Lib.join_cons]; simp [Lib.joinTail]
theorem join_len (xs : List (List UInt8)) (m : Nat) (hx : ∀ x ∈ xs, x.length ≤ m) : (Lib.join xs [44, 32]).length ≤ xs.length * (m + 2) := by
  cases xs with
  | nil => simp [Lib.join_nil]
  | cons a r =>
    rw [Lib.join_cons]
    have ha := hx a (by simp)
    have : (Lib.joinTail [44, 32] r).length ≤ r.length * (m + 2) := by
      clear ha
      induction r with
      | nil => simp [Lib.joinTail]
      | cons b r ih =>
        have hb := hx b (by simp)
        have := ih (fun x h => hx x (by simp at h ⊢; rcases h with h | h <;> simp [h]))
        simp only [Lib.joinTail, List.map_cons, List.flatten_cons, List.length_append, List.length_cons, List.length_nil] at this ⊢
        rw [Nat.add_mul]; omega
    simp only [List.length_append, List.length_cons]
    rw [Nat.add_mul]; omega

/-- The text of pair number i. -/
def pairB (l m : List ByteArray) (i : Nat) : ByteArray := T ((l.getD i ByteArray.empty).data.toList ++ (61 :: (m.getD i ByteArray.empty).data.toList))
theorem pairB_eq (l m : List ByteArray) (i : Nat) : (rdOf ByteArray.empty l (i : Int) ++ ⟨#[61]⟩) ++ rdOf ByteArray.empty m (i : Int) = pairB l m i :=
  bytes_ext (by simp [pairB, rdOf, Joins.data_append])
def Small (l : List ByteArray) : Prop := l.length ≤ 40 ∧ ∀ x ∈ l, x.size ≤ 1000
theorem Small.get {l : List ByteArray} (h : Small l) (i : Nat) : (rdOf ByteArray.empty l (i : Int)).size ≤ 1000 := by
  unfold rdOf
  rw [Int.toNat_natCast]
  by_cases hi : i < l.length
  · rw [List.getD_eq_getElem?_getD, List.getElem?_eq_getElem hi]; exact h.2 _ (List.getElem_mem hi)
  · rw [List.getD_eq_getElem?_getD, List.getElem?_eq_none (by omega)]; exact Nat.zero_le _
theorem pairB_size {l m : List ByteArray} (hl : Small l) (hm : Small m) (i : Nat) : (pairB l m i).data.toList.length ≤ 2001 := by
  have a := hl.get i; have b := hm.get i
  rw [Lib.size_eq] at a b
  unfold rdOf at a b
  rw [Int.toNat_natCast] at a b
  simp only [pairB, List.length_append, List.length_cons]
  omega
def pairsTo (l m : List ByteArray) (n : Nat) : List ByteArray := (List.range n).map (pairB l m)
theorem pairsTo_snoc (l m : List ByteArray) (n : Nat) : pairsTo l m (n + 1) = pairsTo l m n ++ [pairB l m n] := by simp [pairsTo, List.range_succ]
def joined (l m : List ByteArray) (n : Nat) : List UInt8 := Lib.join ((pairsTo l m n).map fun x => x.data.toList) [44, 32]
theorem joined_len {l m : List ByteArray} (hl : Small l) (hm : Small m) (n : Nat) (hn : n ≤ 40) : (joined l m n).length ≤ 100000 := by
  have := join_len ((pairsTo l m n).map fun x => x.data.toList) 2001 (by
    intro x hx
    simp only [pairsTo, List.mem_map, List.mem_range, List.map_map, Function.comp] at hx
    obtain ⟨i, _, rfl⟩ := hx
    exact pairB_size hl hm i)
  have e : ((pairsTo l m n).map fun x => x.data.toList).length = n := by simp [pairsTo]
  rw [e] at this
  unfold joined
  have : n * 2003 ≤ 40 * 2003 := Nat.mul_le_mul_right _ hn
  omega
/-- What both answer. -/
def extraB (l m : List ByteArray) : ByteArray := wrapB [] ([69, 88, 84, 82, 65, 32] ++ joined l m (min l.length m.length))

theorem extra_l0 {l m : List ByteArray} (hl : Small l) (hm : Small m) (N : Nat) (hN : N = min l.length m.length) : ∀ (d k i : Nat), i + d = N → d < k →
    PGBad.bad_Extra.l0 k l m (pairsTo l m i) (N : Int) (i : Int) = some (extraB l m)
  | 0, k, i, hi, hk => by
    obtain ⟨k, rfl⟩ : ∃ j, k = j + 1 := ⟨k - 1, by omega⟩
    have hi' : i = N := by omega
    subst hi'
    have h40 : i ≤ 40 := by have := hl.1; omega
    have hj := joined_len hl hm i h40
    simp only [PGBad.bad_Extra.l0]
    rw [if_neg (by omega)]
    unfold strings_Join.f
    have hlen : (pairsTo l m i).length = i := by simp [pairsTo]
    have e : Lib.join ((pairsTo l m i).map fun x => x.data.toList) (ByteArray.mk #[44, 32]).data.toList = joined l m i := rfl
    rw [e, if_pos ⟨by omega, by omega⟩]
    simp only [Option.bind_some]
    unfold bad_inside.f
    have e2 : Lib.join (([⟨#[69, 88, 84, 82, 65, 32]⟩, T (joined l m i)] : List ByteArray).map fun x => x.data.toList) [] = [69, 88, 84, 82, 65, 32] ++ joined l m i := by
      simp [Lib.join, List.intercalate]
    rw [e2, if_pos ⟨by decide, by simp, by simp; omega, by simp⟩]
    simp only [Option.bind_some, extraB, hN]
  | d + 1, k, i, hi, hk => by
    obtain ⟨k, rfl⟩ : ∃ j, k = j + 1 := ⟨k - 1, by omega⟩
    have ih := extra_l0 hl hm N hN d k (i + 1) (by omega) (by omega)
    have a := hl.get i; have b := hm.get i
    have hlen : (pairsTo l m i).length = i := by simp [pairsTo]
    have h40 := hl.1
    simp only [PGBad.bad_Extra.l0]
    rw [if_pos (by omega), if_pos (by omega), if_pos (by omega), if_pos (by omega), if_pos (by omega),
      if_pos (by simp only [ByteArray.size_append]; have : (ByteArray.mk #[61]).size = 1 := rfl; omega), if_pos (by omega), pairB_eq, wrap64_id (by omega) (by omega), ← pairsTo_snoc]
    exact ih

theorem refExtra_l0 {l m : List ByteArray} (hl : Small l) (hm : Small m) (N : Nat) (hN : N = min l.length m.length) : ∀ (d k i : Nat), i + d = N → 2 * d + 1 < k →
    PGBad.platenref10_Extra.l0 k l m (T ([37, 33, 40, 69, 88, 84, 82, 65, 32] ++ joined l m i)) (i : Int) = some (extraB l m)
  | 0, k, i, hi, hk => by
    obtain ⟨k, rfl⟩ : ∃ j, k = j + 2 := ⟨k - 2, by omega⟩
    have hi' : i = N := by omega
    subst hi'
    have h40 : i ≤ 40 := by have := hl.1; omega
    have hj := joined_len hl hm i h40
    have fin : PGBad.platenref10_Extra.j1 (k + 1) l m (T ([37, 33, 40, 69, 88, 84, 82, 65, 32] ++ joined l m i)) (i : Int) false = some (extraB l m) := by
      simp only [PGBad.platenref10_Extra.j1]
      rw [if_neg (by simp), if_pos (by rw [T_size]; simp; omega)]
      congr 1
      exact bytes_ext (by simp [extraB, wrapB, Joins.data_append, hN])
    simp only [PGBad.platenref10_Extra.l0]
    by_cases hc : (i : Int) < (l.length : Int)
    · rw [if_pos hc, decide_eq_false (by omega)]; exact fin
    · rw [if_neg hc]; exact fin
  | d + 1, k, i, hi, hk => by
    obtain ⟨k, rfl⟩ : ∃ j, k = j + 2 := ⟨k - 2, by omega⟩
    have ih := refExtra_l0 hl hm N hN d k (i + 1) (by omega) (by omega)
    have a := hl.get i; have b := hm.get i
    have h40 := hl.1
    have hj := joined_len hl hm i (by omega)
    have hp := pairB_size hl hm i
    simp only [PGBad.platenref10_Extra.l0]
    rw [if_pos (by omega), decide_eq_true (by omega)]
    simp only [PGBad.platenref10_Extra.j1]
    have h1 : (ByteArray.mk #[61]).size = 1 := rfl
    have h2 : (ByteArray.mk #[44, 32]).size = 2 := rfl
    have hps : (pairB l m i).size ≤ 2001 := by rw [Lib.size_eq]; exact hp
    have hs : (T ([37, 33, 40, 69, 88, 84, 82, 65, 32] ++ joined l m i)).size ≤ 200000 := by rw [T_size]; simp; omega
    rw [if_pos trivial, pairB_eq, wrap64_id (by omega) (by omega)]
    by_cases h0 : (i : Int) > 0
    · rw [if_pos h0, if_pos (by omega), if_pos (by omega), if_pos (by omega), if_pos (by omega), if_pos (by omega), if_pos (by simp only [ByteArray.size_append]; omega), if_pos (by simp only [ByteArray.size_append]; omega)]
      rw [← ih]
      congr 1
      refine bytes_ext ?_
      have hne : ((pairsTo l m i).map fun x => x.data.toList) ≠ [] := by
        obtain ⟨j, rfl⟩ : ∃ j, i = j + 1 := ⟨i - 1, by omega⟩
        rw [pairsTo_snoc]; simp
      have : joined l m (i + 1) = joined l m i ++ ([44, 32] ++ (pairB l m i).data.toList) := by
        unfold joined; rw [pairsTo_snoc, List.map_append]; exact join_snoc _ _ _ hne
      rw [this]
      simp [Joins.data_append]
    · rw [if_neg h0, if_pos (by omega), if_pos (by omega), if_pos (by omega), if_pos (by omega), if_pos (by simp only [ByteArray.size_append]; omega), if_pos (by omega)]
      obtain rfl : i = 0 := by omega
      rw [← ih]
      congr 1
      refine bytes_ext ?_
      have : joined l m 1 = (pairB l m 0).data.toList := by simp [joined, pairsTo, Lib.join]
      rw [this]
      simp [Joins.data_append, joined, pairsTo, Lib.join]

theorem few_l0 (l : List ByteArray) : ∀ (d k i : Nat) (acc : List ByteArray), i + d = 40 → d < k → acc.length = i → (∀ x ∈ acc, x.size ≤ 1000) →
    ∃ r, PGBad.platenlaw10_few.l0 k l acc (i : Int) = some r ∧ Small r
  | 0, k, i, acc, hi, hk, ha, hx => by
    obtain ⟨k, rfl⟩ : ∃ j, k = j + 1 := ⟨k - 1, by omega⟩
    refine ⟨acc, ?_, by omega, hx⟩
    simp only [PGBad.platenlaw10_few.l0]
    by_cases hc : (i : Int) < (l.length : Int)
    · rw [if_pos hc, if_neg (by omega)]
    · rw [if_neg hc]
  | d + 1, k, i, acc, hi, hk, ha, hx => by
    obtain ⟨k, rfl⟩ : ∃ j, k = j + 1 := ⟨k - 1, by omega⟩
    simp only [PGBad.platenlaw10_few.l0]
    by_cases hc : (i : Int) < (l.length : Int)
    · obtain ⟨b, hb, hbs⟩ := cut_f (rdOf ByteArray.empty l (i : Int))
      obtain ⟨r, hr, hs⟩ := few_l0 l d k (i + 1) (acc ++ [b]) (by omega) (by omega) (by simp [ha]) (fun x h => by
        simp only [List.mem_append, List.mem_singleton] at h
        rcases h with h | rfl
        · exact hx x h
        · exact hbs)
      refine ⟨r, ?_, hs⟩
      rw [if_pos hc, if_pos (by omega), if_pos (by omega), hb]
      simp only [Option.bind_some]
      rw [if_pos (by omega), wrap64_id (by omega) (by omega)]
      exact hr
    · refine ⟨acc, ?_, by omega, hx⟩
      rw [if_neg hc]
theorem few_f (k : Nat) (l : List ByteArray) : ∃ r, PGBad.platenlaw10_few.f (k + 41) l = some r ∧ Small r :=
  few_l0 l 40 (k + 41) 0 [] (by omega) (by omega) rfl (by simp)

theorem extras_pure (l m : List ByteArray) : PGExtra.platenlaw10_BadExtras.f 200 l m = some true := by
  obtain ⟨a, ha, hsa⟩ := few_f 159 l
  obtain ⟨b, hb, hsb⟩ := few_f 159 m
  unfold PGExtra.platenlaw10_BadExtras.f
  rw [ha, hb]
  simp only [Option.bind_some]
  have hN : mn (a.length : Int) (b.length : Int) = ((min a.length b.length : Nat) : Int) := by unfold mn; split <;> omega
  have e1 : PGBad.bad_Extra.f 200 a b = some (extraB a b) := by
    unfold PGBad.bad_Extra.f
    rw [hN]
    exact extra_l0 hsa hsb _ rfl (min a.length b.length) 200 0 (by omega) (by have := hsa.1; omega)
  have e2 : PGBad.platenref10_Extra.f 200 a b = some (extraB a b) := by
    have := refExtra_l0 hsa hsb _ rfl (min a.length b.length) 200 0 (by omega) (by have := hsa.1; omega)
    exact this
  rw [e1, e2]
  simp only [Option.bind_some, if_true]
  exact congrArg (fun o : Option Bool => o.bind fun t => some t) (lives_f 190)

theorem lawBadExtras.lawC (A0 : Option Addr) (c0 : Nat) (l0 : List ByteArray) (A1 : Option Addr) (c1 : Nat) (l1 : List ByteArray) (W : World) (hok : Ok W)
    (hr0 : Kd.C Kd.string W A0 l0.length l0) (hc0 : l0.length ≤ c0) (hr1 : Kd.C Kd.string W A1 l1.length l1) (hc1 : l1.length ≤ c1) :
    Calls Tryd.prog 3 #[.slice A0 l0.length c0, .slice A1 l1.length c1] W fun e w' => e = .returned (.bool true) ∧ Below W.heap.size W w' :=
  PGExtra.platenlaw10_BadExtras.calls 200 A0 c0 l0 A1 c1 l1 true W ⟨hok⟩ hr0 hc0 hr1 hc1 (extras_pure l0 l1)
end Go.Proofs.YtiaocdbgcjnceaaDoor
