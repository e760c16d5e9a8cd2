/- Package bad: what its functions write. -/
import Derived.Test.YtiaocdbgcjnceaaDoorOk
import Derived.Test.YtiaocdbgcjnceaaDoorEnc
import Derived.Test.YtiaocdbgcjnceaaDoorWWords
import Derived.Lib.SmallJoins
namespace Go.Proofs.YtiaocdbgcjnceaaDoor
open Go.RowKit Go.Proofs.YtiaocdbgcjnceaaDoorW.PrintWords

theorem bytes_ext {a b : ByteArray} (h : a.data.toList = b.data.toList) : a = b := by
  cases a; cases b
  simp only at h
  exact congrArg ByteArray.mk (Array.toList_inj.1 h)
theorem append_mk (a : ByteArray) (l : List UInt8) : a ++ ⟨l.toArray⟩ = ⟨(a.data.toList ++ l).toArray⟩ := bytes_ext (by rw [Joins.data_append])

theorem cell_new (w : World) (cs : Array Value) (t : TypeId) {i : Nat} {v : Value} (h : cs[i]? = some v) : (w.alloc (.cells cs t)).cell? ⟨w.heap.size, i, none⟩ = some v := by
  have e : (w.alloc (.cells cs t)).heap[w.heap.size]? = some (.cells cs t) := Array.getElem?_push_size
  unfold World.cell?
  simp only []
  rw [e]
  exact h

/-- '%!' VERB '(' INSIDE ')'. -/
def wrapB (verb inn : List UInt8) : ByteArray := ⟨([37, 33] ++ verb ++ [40] ++ inn ++ [41]).toArray⟩

/-- bad.inside: a text of parts. -/
theorem inside (w0 w : World) (hok : Ok w0) (hb : Bel w0 w) (verb : ByteArray) (bk o c : Nat) (xs : List ByteArray)
    (hcells : ∀ (j : Nat) x, xs[j]? = some x → w.cell? ⟨bk, o + j, none⟩ = some (.string x))
    (hbk : bk < w.heap.size) (hN : xs.length ≤ 1000) (hcap : xs.length ≤ c) (hv : verb.size ≤ 100)
    (hlen : (Lib.join (xs.map fun x => x.data.toList) []).length ≤ 1000000) :
    Calls Tryd.prog 30 #[.string verb, .slice (some ⟨bk, o, none⟩) xs.length c] w fun e w' =>
      e = .returned (.string (wrapB verb.data.toList (Lib.join (xs.map fun x => x.data.toList) []))) ∧ Bel w0 w' := by
  have J : Calls Tryd.prog 31 #[.slice (some ⟨bk, o, none⟩) xs.length c, .string ⟨#[]⟩] w fun e w' => e = .returned (.string ⟨(Lib.join (xs.map fun x => x.data.toList) []).toArray⟩) ∧ Bel w0 w' :=
    (Tryd.strings_Join bk o c xs ⟨#[]⟩ w hcells hbk (by omega) hcap (by simp only []; omega)).mono fun e w' ⟨he, hw⟩ => ⟨he, hb.step hw⟩
  generalize hj : Lib.join (xs.map fun x => x.data.toList) [] = jl at *
  have hs : (⟨jl.toArray⟩ : ByteArray).size ≤ 1000000 := by rw [Lib.size_eq]; simpa using hlen
  have HJ := Lib.hid J
  clear J hj hcells
  obtain ⟨js, hjs⟩ : ∃ js : ByteArray, js = ⟨jl.toArray⟩ := ⟨_, rfl⟩
  rw [← hjs] at HJ hs
  have hfin : (⟨#[37, 33]⟩ ++ verb ++ ⟨#[40]⟩ ++ js ++ ⟨#[41]⟩ : ByteArray) = wrapB verb.data.toList jl := by
    rw [hjs]; exact bytes_ext (by simp [wrapB, Joins.data_append])
  have HF := Lib.hid hfin
  clear hfin hjs hlen
  go_enter Tryd.func30, Tryd.ntmps30
  go_wp2_with (go_at_call 31; refine (HJ.out).mono ?_; rintro e w1 ⟨rfl, hb1⟩)
  go_ret
  exact ⟨by rw [← HF.out]; rfl, hb1⟩

theorem inside0 (verb : ByteArray) (hv : verb.size ≤ 100) (w0 w : World) (hok : Ok w0) (hb : Bel w0 w) (t : ByteArray) (bk : Nat) (hc : w.cell? ⟨bk, 0, none⟩ = some (.string t)) (ht : t.size ≤ 100000) :
    Calls Tryd.prog 30 #[.string verb, .slice (some ⟨bk, 0, none⟩) 1 1] w fun e w' => e = .returned (.string (wrapB verb.data.toList t.data.toList)) ∧ Bel w0 w' := by
  have := inside w0 w hok hb verb bk 0 1 [t] (fun j x h => by
    match j, h with
    | 0, h => simp at h; subst h; exact hc) (lt_of_cell hc) (by simp) (by simp) hv (by simp [Lib.join]; omega)
  simpa [Lib.join] using this
theorem inside2 (verb : ByteArray) (hv : verb.size ≤ 100) (w0 w : World) (hok : Ok w0) (hb : Bel w0 w) (a b : ByteArray) (bk : Nat) (h0 : w.cell? ⟨bk, 0, none⟩ = some (.string a)) (h1 : w.cell? ⟨bk, 1, none⟩ = some (.string b)) (ha : a.size ≤ 100000) (hbb : b.size ≤ 200000) :
    Calls Tryd.prog 30 #[.string verb, .slice (some ⟨bk, 0, none⟩) 2 2] w fun e w' => e = .returned (.string (wrapB verb.data.toList (a.data.toList ++ b.data.toList))) ∧ Bel w0 w' := by
  have := inside w0 w hok hb verb bk 0 2 [a, b] (fun j x h => by
    match j, h with
    | 0, h => simp at h; subst h; exact h0
    | 1, h => simp at h; subst h; exact h1) (lt_of_cell h0) (by simp) (by simp) hv (by simp [Lib.join, List.intercalate]; omega)
  simpa [Lib.join, List.intercalate] using this
theorem inside3 (verb : ByteArray) (hv : verb.size ≤ 100) (w0 w : World) (hok : Ok w0) (hb : Bel w0 w) (a b c : ByteArray) (bk : Nat) (h0 : w.cell? ⟨bk, 0, none⟩ = some (.string a)) (h1 : w.cell? ⟨bk, 1, none⟩ = some (.string b)) (h2 : w.cell? ⟨bk, 2, none⟩ = some (.string c))
    (ha : a.size ≤ 100000) (hbb : b.size ≤ 100000) (hcc : c.size ≤ 100000) :
    Calls Tryd.prog 30 #[.string verb, .slice (some ⟨bk, 0, none⟩) 3 3] w fun e w' => e = .returned (.string (wrapB verb.data.toList (a.data.toList ++ (b.data.toList ++ c.data.toList)))) ∧ Bel w0 w' := by
  have := inside w0 w hok hb verb bk 0 3 [a, b, c] (fun j x h => by
    match j, h with
    | 0, h => simp at h; subst h; exact h0
    | 1, h => simp at h; subst h; exact h1
    | 2, h => simp at h; subst h; exact h2) (lt_of_cell h0) (by simp) (by simp) hv (by simp [Lib.join, List.intercalate]; omega)
  simpa [Lib.join, List.intercalate] using this
theorem inside4 (verb : ByteArray) (hv : verb.size ≤ 100) (w0 w : World) (hok : Ok w0) (hb : Bel w0 w) (a b c d : ByteArray) (bk : Nat) (h0 : w.cell? ⟨bk, 0, none⟩ = some (.string a)) (h1 : w.cell? ⟨bk, 1, none⟩ = some (.string b)) (h2 : w.cell? ⟨bk, 2, none⟩ = some (.string c)) (h3 : w.cell? ⟨bk, 3, none⟩ = some (.string d))
    (ha : a.size ≤ 100000) (hbb : b.size ≤ 100000) (hcc : c.size ≤ 100000) (hdd : d.size ≤ 100000) :
    Calls Tryd.prog 30 #[.string verb, .slice (some ⟨bk, 0, none⟩) 4 4] w fun e w' => e = .returned (.string (wrapB verb.data.toList (a.data.toList ++ (b.data.toList ++ (c.data.toList ++ d.data.toList))))) ∧ Bel w0 w' := by
  have := inside w0 w hok hb verb bk 0 4 [a, b, c, d] (fun j x h => by
    match j, h with
    | 0, h => simp at h; subst h; exact h0
    | 1, h => simp at h; subst h; exact h1
    | 2, h => simp at h; subst h; exact h2
    | 3, h => simp at h; subst h; exact h3) (lt_of_cell h0) (by simp) (by simp) hv (by simp [Lib.join, List.intercalate]; omega)
  simpa [Lib.join, List.intercalate] using this

theorem encN_length (n : Nat) : 1 ≤ (encN n).length ∧ (encN n).length ≤ 4 := by
  unfold encN
  repeat' split
  all_goals simp
theorem enc_length (c : Int) : 1 ≤ (enc c).length ∧ (enc c).length ≤ 4 := encN_length _
theorem Rune (c : Int) : Gives 41 #[.int .i32 c] (.string ⟨(enc c).toArray⟩) := by
  have := buf_Rune c
  rwa [encode_enc] at this

theorem Verb (c : Int) (a b : ByteArray) (ha : a.size ≤ 100000) (hbs : b.size ≤ 100000) :
    Gives 16 #[.int .i32 c, .string a, .string b] (.string (wrapB (enc c) (a.data.toList ++ (61 :: b.data.toList)))) := by
  intro w0 w hok hb
  obtain ⟨r, hr⟩ : ∃ r : ByteArray, r = ⟨(enc c).toArray⟩ := ⟨_, rfl⟩
  have hrs : r.size ≤ 100 := by rw [hr, Lib.size_eq]; have := enc_length c; simp; omega
  have HR := Lib.hid (Rune c)
  have hrl : r.data.toList = enc c := by rw [hr]
  rw [← hr] at HR; rw [← hrl]
  clear hr hrl
  go_enter Tryd.func16, Tryd.ntmps16
  go_wp2_with (first | (go_at_call 41; refine (HR.out w0 _ hok hb).mono ?_; rintro e w1 ⟨rfl, hb1⟩) | (go_at_call 30; refine (inside3 r hrs w0 _ hok (hb1.alloc _) a ⟨#[61]⟩ b _ (cell_new _ _ _ rfl) (cell_new _ _ _ rfl) (cell_new _ _ _ rfl) ha (by decide) hbs).mono ?_; rintro e w2 ⟨rfl, hb2⟩))
  go_ret
  exact ⟨rfl, hb2⟩

theorem Nil (c : Int) : Gives 22 #[.int .i32 c] (.string (wrapB (enc c) [60, 110, 105, 108, 62])) := by
  intro w0 w hok hb
  obtain ⟨r, hr⟩ : ∃ r : ByteArray, r = ⟨(enc c).toArray⟩ := ⟨_, rfl⟩
  have hrs : r.size ≤ 100 := by rw [hr, Lib.size_eq]; have := enc_length c; simp; omega
  have HR := Lib.hid (Rune c)
  have hrl : r.data.toList = enc c := by rw [hr]
  rw [← hr] at HR; rw [← hrl]
  clear hr hrl
  go_enter Tryd.func22, Tryd.ntmps22
  go_wp2_with (first | (go_at_call 41; refine (HR.out w0 _ hok hb).mono ?_; rintro e w1 ⟨rfl, hb1⟩) | (go_at_call 30; refine (inside0 r hrs w0 _ hok (hb1.alloc _) ⟨#[60, 110, 105, 108, 62]⟩ _ (cell_new _ _ _ rfl) (by decide)).mono ?_; rintro e w2 ⟨rfl, hb2⟩))
  go_ret
  exact ⟨rfl, hb2⟩

theorem Missing (c : Int) : Gives 24 #[.int .i32 c] (.string (wrapB (enc c) [77, 73, 83, 83, 73, 78, 71])) := by
  intro w0 w hok hb
  obtain ⟨r, hr⟩ : ∃ r : ByteArray, r = ⟨(enc c).toArray⟩ := ⟨_, rfl⟩
  have hrs : r.size ≤ 100 := by rw [hr, Lib.size_eq]; have := enc_length c; simp; omega
  have HR := Lib.hid (Rune c)
  have hrl : r.data.toList = enc c := by rw [hr]
  rw [← hr] at HR; rw [← hrl]
  clear hr hrl
  go_enter Tryd.func24, Tryd.ntmps24
  go_wp2_with (first | (go_at_call 41; refine (HR.out w0 _ hok hb).mono ?_; rintro e w1 ⟨rfl, hb1⟩) | (go_at_call 30; refine (inside0 r hrs w0 _ hok (hb1.alloc _) ⟨#[77, 73, 83, 83, 73, 78, 71]⟩ _ (cell_new _ _ _ rfl) (by decide)).mono ?_; rintro e w2 ⟨rfl, hb2⟩))
  go_ret
  exact ⟨rfl, hb2⟩

theorem Index (c : Int) : Gives 26 #[.int .i32 c] (.string (wrapB (enc c) [66, 65, 68, 73, 78, 68, 69, 88])) := by
  intro w0 w hok hb
  obtain ⟨r, hr⟩ : ∃ r : ByteArray, r = ⟨(enc c).toArray⟩ := ⟨_, rfl⟩
  have hrs : r.size ≤ 100 := by rw [hr, Lib.size_eq]; have := enc_length c; simp; omega
  have HR := Lib.hid (Rune c)
  have hrl : r.data.toList = enc c := by rw [hr]
  rw [← hr] at HR; rw [← hrl]
  clear hr hrl
  go_enter Tryd.func26, Tryd.ntmps26
  go_wp2_with (first | (go_at_call 41; refine (HR.out w0 _ hok hb).mono ?_; rintro e w1 ⟨rfl, hb1⟩) | (go_at_call 30; refine (inside0 r hrs w0 _ hok (hb1.alloc _) ⟨#[66, 65, 68, 73, 78, 68, 69, 88]⟩ _ (cell_new _ _ _ rfl) (by decide)).mono ?_; rintro e w2 ⟨rfl, hb2⟩))
  go_ret
  exact ⟨rfl, hb2⟩

theorem Panic (c : Int) (a b : ByteArray) (ha : a.size ≤ 100000) (hbs : b.size ≤ 100000) :
    Gives 28 #[.int .i32 c, .string a, .string b] (.string (wrapB (enc c) ([80, 65, 78, 73, 67, 61] ++ (a.data.toList ++ ([32, 109, 101, 116, 104, 111, 100, 58, 32] ++ b.data.toList))))) := by
  intro w0 w hok hb
  obtain ⟨r, hr⟩ : ∃ r : ByteArray, r = ⟨(enc c).toArray⟩ := ⟨_, rfl⟩
  have hrs : r.size ≤ 100 := by rw [hr, Lib.size_eq]; have := enc_length c; simp; omega
  have HR := Lib.hid (Rune c)
  have hrl : r.data.toList = enc c := by rw [hr]
  rw [← hr] at HR; rw [← hrl]
  clear hr hrl
  go_enter Tryd.func28, Tryd.ntmps28
  go_wp2_with (first | (go_at_call 41; refine (HR.out w0 _ hok hb).mono ?_; rintro e w1 ⟨rfl, hb1⟩) | (go_at_call 30; refine (inside4 r hrs w0 _ hok (hb1.alloc _) ⟨#[80, 65, 78, 73, 67, 61]⟩ a ⟨#[32, 109, 101, 116, 104, 111, 100, 58, 32]⟩ b _ (cell_new _ _ _ rfl) (cell_new _ _ _ rfl) (cell_new _ _ _ rfl) (cell_new _ _ _ rfl) (by decide) ha (by decide) hbs).mono ?_; rintro e w2 ⟨rfl, hb2⟩))
  go_ret
  exact ⟨rfl, hb2⟩

theorem Open : Gives 17 #[] (.string (wrapB [] [78, 79, 86, 69, 82, 66])) := by
  intro w0 w hok hb
  go_enter Tryd.func17, Tryd.ntmps17
  go_wp2_with (first | (go_at_call 30; refine (inside0 ⟨#[]⟩ (by decide) w0 _ hok (hb.alloc _) ⟨#[78, 79, 86, 69, 82, 66]⟩ _ (cell_new _ _ _ rfl) (by decide)).mono ?_; rintro e w2 ⟨rfl, hb2⟩))
  go_ret
  exact ⟨rfl, hb2⟩

theorem Width : Gives 18 #[] (.string (wrapB [] [66, 65, 68, 87, 73, 68, 84, 72])) := by
  intro w0 w hok hb
  go_enter Tryd.func18, Tryd.ntmps18
  go_wp2_with (first | (go_at_call 30; refine (inside0 ⟨#[]⟩ (by decide) w0 _ hok (hb.alloc _) ⟨#[66, 65, 68, 87, 73, 68, 84, 72]⟩ _ (cell_new _ _ _ rfl) (by decide)).mono ?_; rintro e w2 ⟨rfl, hb2⟩))
  go_ret
  exact ⟨rfl, hb2⟩

theorem Prec : Gives 19 #[] (.string (wrapB [] [66, 65, 68, 80, 82, 69, 67])) := by
  intro w0 w hok hb
  go_enter Tryd.func19, Tryd.ntmps19
  go_wp2_with (first | (go_at_call 30; refine (inside0 ⟨#[]⟩ (by decide) w0 _ hok (hb.alloc _) ⟨#[66, 65, 68, 80, 82, 69, 67]⟩ _ (cell_new _ _ _ rfl) (by decide)).mono ?_; rintro e w2 ⟨rfl, hb2⟩))
  go_ret
  exact ⟨rfl, hb2⟩

theorem Depth : Gives 20 #[] (.string (wrapB [] [68, 69, 80, 84, 72])) := by
  intro w0 w hok hb
  go_enter Tryd.func20, Tryd.ntmps20
  go_wp2_with (first | (go_at_call 30; refine (inside0 ⟨#[]⟩ (by decide) w0 _ hok (hb.alloc _) ⟨#[68, 69, 80, 84, 72]⟩ _ (cell_new _ _ _ rfl) (by decide)).mono ?_; rintro e w2 ⟨rfl, hb2⟩))
  go_ret
  exact ⟨rfl, hb2⟩
end Go.Proofs.YtiaocdbgcjnceaaDoor
