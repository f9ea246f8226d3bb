/- What the law on where sounds begin leaves to show beside its walk: the two loops are one, and they end. No condition. -/
import Derived.Test.YtejnhhjldddbdaaPureLib
import Derived.Test.YtejnhhjldddbdaaPGxf5
import Derived.OpenShut
namespace Go.Proofs.Ytejnhhjldddbdaa.Pure
open Go.RowKit Go.ChangeShapes Go.Proofs.Ytejnhhjldddbdaa.PG Go.Proofs.YtejnhhjldddbdaaW.PrintWords Go.Proofs.YtejnhhjldddbdaaW.PrintLast Go.Proofs.YtejnhhjldddbdaaW.PrintMore
def Wf (l : List Int) : Prop := ∀ n ∈ l, (Lit.int .i64 n).wf = true
theorem rd_range {l : List Int} (h : Wf l) (i : Int) : -9223372036854775808 ≤ rd l i ∧ rd l i ≤ 9223372036854775807 := by
  have := range_i64 h i.toNat
  unfold rd
  rwa [List.getD_eq_getElem?_getD]
theorem abs_eq {x : Int} (h : -9223372036854775808 ≤ x ∧ x ≤ 9223372036854775807) : orchestrionref25_abs.f x = tune_distance.f x 0 := by
  unfold orchestrionref25_abs.f tune_distance.f
  rw [Int.sub_zero, Int.zero_sub, w64 h.1 h.2]
theorem wf_win {l : List Int} (h : Wf l) (a b : Nat) : Wf ((l.take a).drop b) := fun n hn => h n (List.mem_of_mem_take (List.mem_of_mem_drop hn))
theorem slices_same : ∀ k : Nat, (∀ (x1 x2 : Int) (x8 : List Int) (x9 x10 : Int) (nm : ByteArray) (l : List Int) (a2 a3 a4 a5 a6 a7 a8 a9 a10 a11 a12 : Int), Wf l → tune_Slices.l0 k x1 x2 x8 x9 x10 nm l a2 a3 a4 a5 a6 a7 a8 a9 a10 a11 a12 = orchestrionref25_Slices.l0 k x1 x2 x8 x9 x10 nm l a2 a3 a4 a5 a6 a7 a8 a9 a10 a11 a12) ∧ (∀ (x1 x2 : Int) (x8 : List Int) (x9 x10 x11 : Int) (win : List Int) (x44 x45 : Int) (nm : ByteArray) (l : List Int) (a2 a3 a4 a5 a6 a7 a8 a9 a10 a11 a12 : Int), Wf l → Wf win → tune_Slices.l1 k x1 x2 x8 x9 x10 x11 win x44 x45 nm l a2 a3 a4 a5 a6 a7 a8 a9 a10 a11 a12 = orchestrionref25_Slices.l1 k x1 x2 x8 x9 x10 x11 win x44 x45 nm l a2 a3 a4 a5 a6 a7 a8 a9 a10 a11 a12)
  | 0 => ⟨fun _ _ _ _ _ _ _ _ _ _ _ _ _ _ _ _ _ _ _ => by unfold tune_Slices.l0 orchestrionref25_Slices.l0; rfl, fun _ _ _ _ _ _ _ _ _ _ _ _ _ _ _ _ _ _ _ _ _ _ _ _ => by unfold tune_Slices.l1 orchestrionref25_Slices.l1; rfl⟩
  | k + 1 => by
    obtain ⟨i0, i1⟩ := slices_same k
    refine ⟨?_, ?_⟩
    · intro x1 x2 x8 x9 x10 nm l a2 a3 a4 a5 a6 a7 a8 a9 a10 a11 a12 hw
      unfold tune_Slices.l0 orchestrionref25_Slices.l0
      simp only [i1 _ _ _ _ _ _ _ _ _ nm l a2 a3 a4 a5 a6 a7 a8 a9 a10 a11 a12 hw (wf_win hw _ _)]
    · intro x1 x2 x8 x9 x10 x11 win x44 x45 nm l a2 a3 a4 a5 a6 a7 a8 a9 a10 a11 a12 hw hn
      unfold tune_Slices.l1 orchestrionref25_Slices.l1
      simp only [i1 _ _ _ _ _ _ _ _ _ nm l a2 a3 a4 a5 a6 a7 a8 a9 a10 a11 a12 hw hn, i0 _ _ _ _ _ nm l a2 a3 a4 a5 a6 a7 a8 a9 a10 a11 a12 hw, abs_eq (rd_range hn x45)]
      by_cases c0 : x45 < x44
      · rw [if_pos c0, if_pos c0]
      · rw [if_neg c0, if_neg c0]
        by_cases c1 : x11 > 0
        · simp only [if_pos c1]
        · simp only [if_neg c1]
          split <;> rfl
theorem ex1 (x1 x2 : Int) (x8 : List Int) (x9 x10 : Int) (p : Nat) (hp : x8.length ≤ p) (hp6 : p ≤ 6000) (win : List Int) (hwl : win.length ≤ 5000) (kc : Nat) (nm : ByteArray) (l : List Int) (a2 a3 a4 a5 a6 a7 a8 a9 a10 a11 a12 : Int)
    (cont : ∀ (k : Nat) (y8 : List Int) (y9 : Int), y8.length ≤ p + 1 → kc ≤ k → ∃ r : List Int, tune_Slices.l0 k x1 x2 y8 y9 (wrap64 (x10 + x1)) nm l a2 a3 a4 a5 a6 a7 a8 a9 a10 a11 a12 = some (r, 0) ∧ r.length ≤ 6000) :
    ∀ (m i k : Nat) (x11 : Int), i + m = win.length → m + 1 + kc ≤ k → ∃ r : List Int, tune_Slices.l1 k x1 x2 x8 x9 x10 x11 win win.length i nm l a2 a3 a4 a5 a6 a7 a8 a9 a10 a11 a12 = some (r, 0) ∧ r.length ≤ 6000 := by
  intro m
  induction m with
  | zero =>
    intro i k x11 hq hk
    obtain ⟨k, rfl⟩ : ∃ q, k = q + 1 := ⟨k - 1, by omega⟩
    unfold tune_Slices.l1
    rw [if_neg (by omega)]
    have h1 := cont k (x8 ++ [x10]) x11 (by simp; omega) (by omega)
    have h2 := cont k x8 x11 (by omega) (by omega)
    rw [if_pos (show x8.length < 17592186044416 by omega)]
    split
    · split
      · exact h1
      · exact h2
    · exact h2
  | succ m ih =>
    intro i k x11 hq hk
    obtain ⟨k, rfl⟩ : ∃ q, k = q + 1 := ⟨k - 1, by omega⟩
    unfold tune_Slices.l1
    rw [if_pos (by omega), if_pos (by omega), if_pos (by omega), w64 (x := (i : Int) + 1) (by omega) (by omega)]
    unfold tune_distance.f
    rw [Option.bind_some]
    exact ih (i + 1) k _ (by omega) (by omega)
theorem mn_eq (a b : Int) : mn a b = if a < b then a else b := by
  unfold mn
  repeat' split
  all_goals omega
theorem ex0 (x1 x2 : Int) (h1 : 1 ≤ x1) (h2 : x1 ≤ 256) (nm : ByteArray) (l : List Int) (a2 a3 a4 a5 a6 a7 a8 a9 a10 a11 a12 : Int) (hl : l.length ≤ 5000) : ∀ (d p k : Nat) (x8 : List Int) (x9 : Int), l.length ≤ p + d → p ≤ 5256 → x8.length ≤ p → 3 * d + 2 ≤ k → ∃ r : List Int, tune_Slices.l0 k x1 x2 x8 x9 p nm l a2 a3 a4 a5 a6 a7 a8 a9 a10 a11 a12 = some (r, 0) ∧ r.length ≤ 6000 := by
  intro d
  induction d using Nat.strongRecOn with
  | ind d ih =>
    intro p k x8 x9 hd hp hx hk
    obtain ⟨k, rfl⟩ : ∃ q, k = q + 1 := ⟨k - 1, by omega⟩
    unfold tune_Slices.l0
    by_cases c : (p : Int) < (l.length : Int)
    · obtain ⟨e, he, he1, he2, he3, he4⟩ : ∃ e : Nat, mn (wrap64 ((p : Int) + x1)) (l.length : Int) = e ∧ p < e ∧ e ≤ l.length ∧ (e < l.length → (e : Int) = p + x1) ∧ (e : Int) ≤ p + x1 := by
        rw [mn_eq, w64 (by omega) (by omega)]
        by_cases c2 : (p : Int) + x1 < l.length
        · rw [if_pos c2]; exact ⟨((p : Int) + x1).toNat, by omega, by omega, by omega, by omega, by omega⟩
        · rw [if_neg c2]; exact ⟨l.length, rfl, by omega, by omega, by omega, by omega⟩
      rw [if_pos c, if_pos (by omega), he, if_pos (by omega), if_pos (by omega)]
      have hwin : ((l.take (e : Int).toNat).drop ((p : Int)).toNat).length = e - p := by rw [List.length_drop, List.length_take]; omega
      have hx1 : x1.toNat = x1 := by omega
      refine ex1 x1 x2 x8 x9 p p hx (by omega) _ (by omega) (3 * (d - (e - p)) + 2) nm l a2 a3 a4 a5 a6 a7 a8 a9 a10 a11 a12 (fun k y8 y9 hy hk => ?_) (e - p) 0 k 0 (by omega) (by omega)
      rw [w64 (by omega) (by omega)]
      have := ih (d - (e - p)) (by omega) (p + x1.toNat) k y8 y9 (by omega) (by omega) (by omega) (by omega)
      rw [show ((p + x1.toNat : Nat) : Int) = p + x1 by omega] at this
      exact this
    · rw [if_neg c]
      exact ⟨x8, rfl, by omega⟩
theorem equal_loop (l : List Int) (hl : l.length ≤ 6000) : ∀ (d i k : Nat), i + d = l.length → d < k → slices_Equal_int_int.l0 k l l (l.length : Int) i = some true := by
  intro d
  induction d with
  | zero =>
    intro i k hi hk
    obtain ⟨k, rfl⟩ : ∃ q, k = q + 1 := ⟨k - 1, by omega⟩
    unfold slices_Equal_int_int.l0
    rw [if_neg (by omega)]
  | succ d ih =>
    intro i k hi hk
    obtain ⟨k, rfl⟩ : ∃ q, k = q + 1 := ⟨k - 1, by omega⟩
    unfold slices_Equal_int_int.l0
    rw [if_pos (by omega), if_pos (by omega), if_pos (by omega), if_pos (by omega), if_pos rfl, w64 (by omega) (by omega)]
    exact ih (i + 1) k (by omega) (by omega)
theorem equal_same (l : List Int) (hl : l.length ≤ 6000) {k : Nat} (hk : 6001 ≤ k) : slices_Equal_int_int.f k l l = some true := by
  unfold slices_Equal_int_int.f
  rw [if_pos rfl]
  exact equal_loop l hl l.length 0 k (by omega) (by omega)
theorem s0 (k : Nat) (x1 x2 : Int) (b : Bool) (nm : ByteArray) (l : List Int) (a2 a3 a4 a5 a6 a7 a8 a9 a10 a11 a12 : Int) : tune_Slices.j0 (k + 1) x1 x2 b nm l a2 a3 a4 a5 a6 a7 a8 a9 a10 a11 a12 = if b = true then (some (([] : List Int), 5)) else (tune_Slices.l0 k x1 x2 ([] : List Int) 0 0 nm l a2 a3 a4 a5 a6 a7 a8 a9 a10 a11 a12) := by rw [tune_Slices.j0]
theorem r0 (k : Nat) (x1 x2 : Int) (b : Bool) (nm : ByteArray) (l : List Int) (a2 a3 a4 a5 a6 a7 a8 a9 a10 a11 a12 : Int) : orchestrionref25_Slices.j0 (k + 1) x1 x2 b nm l a2 a3 a4 a5 a6 a7 a8 a9 a10 a11 a12 = if b = true then (some (([] : List Int), 5)) else (orchestrionref25_Slices.l0 k x1 x2 ([] : List Int) 0 0 nm l a2 a3 a4 a5 a6 a7 a8 a9 a10 a11 a12) := by rw [orchestrionref25_Slices.j0]
theorem in_eq (a b c : Int) : tune_in.f a b c = some (decide (b ≤ a ∧ a ≤ c)) := by
  unfold tune_in.f
  by_cases h : b ≤ a
  · rw [if_pos h]; simp [h]
  · rw [if_neg h]; simp [h]
theorem ref_in_eq (a b c : Int) : orchestrionref25_in.f a b c = some (decide (b ≤ a ∧ a ≤ c)) := by
  unfold orchestrionref25_in.f
  by_cases h : b ≤ a
  · rw [if_pos h]; simp [h]
  · rw [if_neg h]; simp [h]
theorem slices_eq (nm : ByteArray) (l : List Int) (a2 a3 a4 a5 a6 a7 a8 a9 a10 a11 a12 : Int) (x1 x2 : Int) (hl : l.length ≤ 5000) (hw : Wf l) : ∃ (r : List Int) (e : Int), r.length ≤ 6000 ∧ tune_Slices.f (19999 + 1) nm l a2 a3 a4 a5 a6 a7 a8 a9 a10 a11 a12 x1 x2 = some (r, e) ∧ orchestrionref25_Slices.f (19999 + 1) nm l a2 a3 a4 a5 a6 a7 a8 a9 a10 a11 a12 x1 x2 = some (r, e) := by
  unfold tune_Slices.f orchestrionref25_Slices.f
  rw [valid_k (by omega), rvalid_k (by omega), Option.bind_some, Option.bind_some, in_eq, ref_in_eq, Option.bind_some, Option.bind_some, in_eq, ref_in_eq, Option.bind_some, Option.bind_some]
  cases validB nm l a2 a3 a4 a5 a6 a7 a8 a9 a10 a11 a12
  · exact ⟨[], 1, by decide, rfl, rfl⟩
  · rw [if_pos rfl, if_pos rfl]
    by_cases c1 : 1 ≤ x1 ∧ x1 ≤ 256
    · by_cases c2 : 0 ≤ x2 ∧ x2 ≤ 10000
      · rw [decide_eq_true c1, decide_eq_true c2, if_pos rfl, if_pos rfl, s0, r0, if_neg (by decide), if_neg (by decide), ← (slices_same 19999).1 _ _ _ _ _ nm l a2 a3 a4 a5 a6 a7 a8 a9 a10 a11 a12 hw]
        obtain ⟨r, h1, h2⟩ := ex0 x1 x2 c1.1 c1.2 nm l a2 a3 a4 a5 a6 a7 a8 a9 a10 a11 a12 hl l.length 0 19999 [] 0 (by omega) (by omega) (by decide) (by omega)
        exact ⟨r, 0, h2, h1, h1⟩
      · rw [decide_eq_true c1, decide_eq_false c2, if_pos rfl, if_neg (by decide), s0, r0]
        exact ⟨[], 5, by decide, rfl, rfl⟩
    · rw [decide_eq_false c1, if_neg (by decide), s0, if_pos rfl]
      refine ⟨[], 5, by decide, rfl, ?_⟩
      split <;> (rw [r0]; rfl)
theorem TuneSlices : ∀ (nm : ByteArray) (l : List Int) (a2 a3 a4 a5 a6 a7 a8 a9 a10 a11 a12 : Int) (x1 x2 : Int), nm.size ≤ maxLen → l.length ≤ maxLen → (∀ n ∈ l, (Lit.int .i64 n).wf = true) → (Lit.int .i64 a2).wf = true → (Lit.int .i64 a3).wf = true → (Lit.int .i64 a4).wf = true → (Lit.int .i64 a5).wf = true → (Lit.int .i64 a6).wf = true → (Lit.int .i64 a7).wf = true → (Lit.int .i64 a8).wf = true → (Lit.int .i64 a9).wf = true → (Lit.int .i64 a10).wf = true → (Lit.int .i64 a11).wf = true → (Lit.int .i64 a12).wf = true → (Lit.int .i64 x1).wf = true → (Lit.int .i64 x2).wf = true → ∃ k, orchestrionlaw25_TuneSlices.f k nm l a2 a3 a4 a5 a6 a7 a8 a9 a10 a11 a12 x1 x2 = some true := by
  intro nm l a2 a3 a4 a5 a6 a7 a8 a9 a10 a11 a12 x1 x2 _ _ hw _ _ _ _ _ _ _ _ _ _ _ _ _ 
  refine ⟨19999 + 1, ?_⟩
  unfold orchestrionlaw25_TuneSlices.f orchestrionlaw25_tame.f
  by_cases hl : (l.length : Int) ≤ 5000
  · rw [if_pos hl, Option.bind_some]
    by_cases hs : (nm.size : Int) ≤ 100
    · obtain ⟨r, e, hr, h1, h2⟩ := slices_eq nm l a2 a3 a4 a5 a6 a7 a8 a9 a10 a11 a12 x1 x2 (by omega) hw
      rw [decide_eq_true hs, if_pos rfl, h1, h2, Option.bind_some, Option.bind_some, equal_same r hr (by omega), Option.bind_some, if_pos rfl]
      simp
    · rw [decide_eq_false hs]; rfl
  · rw [if_neg hl]; rfl
end Go.Proofs.Ytejnhhjldddbdaa.Pure
