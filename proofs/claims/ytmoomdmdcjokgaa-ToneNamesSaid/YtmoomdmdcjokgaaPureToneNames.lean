/- What the law on names leaves to show beside its walk: the program's note of a text and the reference's are one, and a name's note is its number. No condition. -/
import Derived.Test.YtmoomdmdcjokgaaPureToneOctaves
import Derived.Test.YtmoomdmdcjokgaaPGxf6
import Derived.Lib.RabinKarpLaws
namespace Go.Proofs.Ytmoomdmdcjokgaa.Pure
open Go.RowKit Go.Proofs.Ytmoomdmdcjokgaa.PG Go.Proofs.YtmoomdmdcjokgaaW.PrintWords Go.Proofs.YtmoomdmdcjokgaaW.PrintLast Go.Proofs.YtmoomdmdcjokgaaW.PrintMore
def nms : List ByteArray := (tone_names.f).getD []
theorem nms_at : tone_names.f = some nms := rfl
theorem nms_len : nms.length = 12 := rfl
theorem toList_data (b : ByteArray) : b.toList = b.data.toList := ByteArray.toList_eq b
theorem name_parts : ∀ d : Nat, d < 10 → ∀ i : Nat, i < 12 → (nameB (12 * d + i)).toList = (rdOf ByteArray.empty nms i).toList ++ [UInt8.ofNat (48 + d)] := by decide +kernel
theorem name_inj : ∀ n : Nat, n < 120 → ∀ m : Nat, m < 120 → (nameB m).toList = (nameB n).toList → m = n := by decide +kernel
theorem note_name : ∀ n : Nat, n < 120 → tone_Note.f 20 (nameB n) = some ((n : Int), 0) := by decide +kernel
theorem note_k {k : Nat} (hk : 20 ≤ k) {a : ByteArray} {r : Int × Int} (h : tone_Note.f 20 a = some r) : tone_Note.f k a = some r := at_rounds (g := fun k => tone_Note.f k a) (fun k => tone_Note.mono a k) hk h
theorem ref_at (n : Nat) (h : n < 120) : orchestrionref01_Name.f n = some (nameB n) := by
  unfold orchestrionref01_Name.f
  rw [if_pos (by omega), if_pos (by omega)]; rfl
theorem ref_hit (x : ByteArray) (n : Nat) (hn : n < 120) (he : (nameB n).toList = x.toList) : ∀ (f i k : Nat), i + f = n → f < k → orchestrionref01_Note.l0 k x i = some ((n : Int), 0) := by
  intro f
  induction f with
  | zero =>
    intro i k hi hk
    obtain ⟨k, rfl⟩ : ∃ q, k = q + 1 := ⟨k - 1, by omega⟩
    have : i = n := by omega
    subst this
    unfold orchestrionref01_Note.l0
    rw [if_pos (by omega), ref_at i hn, Option.bind_some, if_pos he]
  | succ f ih =>
    intro i k hi hk
    obtain ⟨k, rfl⟩ : ∃ q, k = q + 1 := ⟨k - 1, by omega⟩
    unfold orchestrionref01_Note.l0
    have hne : ¬ (nameB i).toList = x.toList := fun c => by
      have := name_inj n hn i (by omega) (c.trans he.symm); omega
    rw [if_pos (by omega), ref_at i (by omega), Option.bind_some, if_neg hne, w64 (by omega) (by omega)]
    exact ih (i + 1) k (by omega) (by omega)
theorem ref_miss (x : ByteArray) (hne : ∀ n, n < 120 → ¬ (nameB n).toList = x.toList) : ∀ (f i k : Nat), i + f = 120 → f < k → orchestrionref01_Note.l0 k x i = some (0, 10) := by
  intro f
  induction f with
  | zero =>
    intro i k hi hk
    obtain ⟨k, rfl⟩ : ∃ q, k = q + 1 := ⟨k - 1, by omega⟩
    unfold orchestrionref01_Note.l0
    rw [if_neg (by omega)]
  | succ f ih =>
    intro i k hi hk
    obtain ⟨k, rfl⟩ : ∃ q, k = q + 1 := ⟨k - 1, by omega⟩
    unfold orchestrionref01_Note.l0
    rw [if_pos (by omega), ref_at i (by omega), Option.bind_some, if_neg (hne i (by omega)), w64 (by omega) (by omega)]
    exact ih (i + 1) k (by omega) (by omega)
theorem loop_miss (x : ByteArray) (hs : 2 ≤ x.size) (hne : ∀ i : Nat, i < 12 → ¬ (rdOf ByteArray.empty nms i).toList = (x.extract 0 2).toList) : ∀ (f i k : Nat), i + f = 12 → f < k → tone_Note.l0 k x nms 12 i = some (0, 10) := by
  intro f
  induction f with
  | zero =>
    intro i k hi hk
    obtain ⟨k, rfl⟩ : ∃ q, k = q + 1 := ⟨k - 1, by omega⟩
    unfold tone_Note.l0
    rw [if_neg (by omega)]
  | succ f ih =>
    intro i k hi hk
    obtain ⟨k, rfl⟩ : ∃ q, k = q + 1 := ⟨k - 1, by omega⟩
    unfold tone_Note.l0
    rw [if_pos (by omega), if_pos (by omega), nms_len, if_pos (by omega), if_pos (by omega), if_pos (by omega), if_neg (hne i (by omega)), w64 (by omega) (by omega)]
    exact ih (i + 1) k (by omega) (by omega)
theorem j0_s (k : Nat) (x0 : ByteArray) (b : Bool) : tone_Note.j0 (k + 1) x0 b = if b = true then ((tone_names.f).bind fun t101 => (tone_Note.l0 k x0 t101 (t101.length : Int) 0)) else (some (0, 10)) := by rw [tone_Note.j0]
theorem note_miss (x : ByteArray) (hne : ∀ n, n < 120 → ¬ (nameB n).toList = x.toList) : tone_Note.f 20 x = some (0, 10) := by
  unfold tone_Note.f
  have hz : tone_Note.j0 20 x false = some (0, 10) := by
    rw [j0_s 19, if_neg (by decide)]
  by_cases hs : (x.size : Int) = 3
  · rw [if_pos hs, if_pos (by omega)]
    by_cases h48 : bt x 2 ≥ 48
    · rw [if_pos h48]
      by_cases h57 : bt x 2 ≤ 57
      · rw [decide_eq_true h57]
        rw [j0_s 19, if_pos rfl, nms_at, Option.bind_some]
        show tone_Note.l0 19 x nms 12 (0 : Nat) = _
        refine loop_miss x (by omega) (fun i hi he => ?_) 12 0 19 (by omega) (by omega)
        refine hne (12 * (bt x 2 - 48).toNat + i) (by omega) ?_
        rw [name_parts _ (by omega) i hi, he]
        obtain ⟨⟨l⟩⟩ := x
        have hl : l.length = 3 := by have : (ByteArray.mk ⟨l⟩).size = l.length := rfl; omega
        match l, hl with
        | [a, b, c], _ =>
          have hb : bt ⟨⟨[a, b, c]⟩⟩ 2 = (c.toNat : Int) := rfl
          rw [hb] at h48 h57 ⊢
          have e1 : ByteArray.toList ⟨⟨[a, b, c]⟩⟩ = [a, b, c] := ByteArray.toList_mk _
          have e2 : ByteArray.toList ((⟨⟨[a, b, c]⟩⟩ : ByteArray).extract 0 2) = [a, b] := by rw [Go.Proofs.ext_win]; rfl
          have e3 : 48 + ((c.toNat : Int) - 48).toNat = c.toNat := by omega
          rw [e1, e2, e3, UInt8.ofNat_toNat]; rfl
      · rw [decide_eq_false h57]; exact hz
    · rw [if_neg h48]; exact hz
  · rw [if_neg hs]; exact hz
theorem note_same (x : ByteArray) : ∃ r : Int × Int, tone_Note.f 9000 x = some r ∧ orchestrionref01_Note.f 9000 x = some r := by
  by_cases h : ∃ n, n < 120 ∧ (nameB n).toList = x.toList
  · obtain ⟨n, hn, he⟩ := h
    have hx : x = nameB n := by
      rw [toList_data, toList_data] at he
      obtain ⟨⟨l⟩⟩ := x
      rw [show nameB n = ⟨⟨(nameB n).data.toList⟩⟩ from rfl, he]
    refine ⟨((n : Int), 0), ?_, ref_hit x n hn he n 0 9000 (by omega) (by omega)⟩
    rw [hx]
    exact note_k (by decide) (note_name n hn)
  · have hne : ∀ n, n < 120 → ¬ (nameB n).toList = x.toList := fun n hn he => h ⟨n, hn, he⟩
    exact ⟨(0, 10), note_k (by decide) (note_miss x hne), ref_miss x hne 120 0 9000 (by omega) (by omega)⟩
theorem note_le {k : Nat} (hk : 9000 ≤ k) (x : ByteArray) : ∃ r : Int × Int, tone_Note.f k x = some r ∧ orchestrionref01_Note.f k x = some r := by
  obtain ⟨r, h1, h2⟩ := note_same x
  exact ⟨r, at_rounds (g := fun k => tone_Note.f k x) (fun k => tone_Note.mono x k) hk h1, at_rounds (g := fun k => orchestrionref01_Note.f k x) (fun k => orchestrionref01_Note.mono x k) hk h2⟩
theorem k0_s (k : Nat) (x0 : Int) (x9 : ByteArray) (b : Bool) : orchestrionlaw01_ToneNames.j0 (k + 1) x0 x9 b = if b = true then (some false) else ((tone_Note.f k x9).bind fun bt107 => (if x0 ≥ 0 then (orchestrionlaw01_ToneNames.j1 k x0 x9 bt107.1 bt107.2 (decide (x0 < 120))) else (orchestrionlaw01_ToneNames.j1 k x0 x9 bt107.1 bt107.2 false))) := by rw [orchestrionlaw01_ToneNames.j0]
theorem k1_s (k : Nat) (x0 : Int) (x9 : ByteArray) (x10 x11 : Int) (b : Bool) : orchestrionlaw01_ToneNames.j1 (k + 1) x0 x9 x10 x11 b = if b = true then (if x10 = x0 then (if x11 = 0 then ((orchestrionlaw01_awake.f k).bind fun t109 => (some t109)) else (some false)) else (some false)) else (if x9.toList = ([] : List UInt8) then (if x11 = 10 then ((orchestrionlaw01_awake.f k).bind fun t110 => (some t110)) else (some false)) else (some false)) := by rw [orchestrionlaw01_ToneNames.j1]
theorem names_agree (a : Int) : tone_Name.f a = orchestrionref01_Name.f a := rfl
theorem names_in (k : Nat) (hk : 9001 ≤ k) (a : Int) (h0 : 0 ≤ a) (h1 : a < 120) : tone_Name.f a = some (nameB a.toNat) ∧ orchestrionlaw01_ToneNames.j0 (k + 1) a (nameB a.toNat) false = some true := by
  refine ⟨by unfold tone_Name.f; rw [if_pos h0, if_pos (by omega)], ?_⟩
  obtain ⟨q, rfl⟩ : ∃ q, k = q + 1 := ⟨k - 1, by omega⟩
  have e := note_k (k := q + 1) (by omega) (note_name a.toNat (by omega))
  have e2 : ((a.toNat : Int)) = a := by omega
  rw [k0_s, if_neg (by decide), e, Option.bind_some, if_pos h0, decide_eq_true h1, k1_s, if_pos rfl, if_pos e2, if_pos rfl, awake_k (by omega)]; rfl
theorem note_none : tone_Note.f 20 ⟨#[]⟩ = some (0, 10) := by decide +kernel
theorem names_out (k : Nat) (hk : 9001 ≤ k) (a : Int) (h : a < 0 ∨ 120 ≤ a) : tone_Name.f a = some ⟨#[]⟩ ∧ orchestrionlaw01_ToneNames.j0 (k + 1) a ⟨#[]⟩ false = some true := by
  obtain ⟨q, rfl⟩ : ∃ q, k = q + 1 := ⟨k - 1, by omega⟩
  have hj : orchestrionlaw01_ToneNames.j1 (q + 1) a ⟨#[]⟩ 0 10 false = some true := by
    rw [k1_s, if_neg (by decide), if_pos (by decide +kernel), if_pos rfl, awake_k (by omega)]; rfl
  refine ⟨?_, ?_⟩
  · unfold tone_Name.f
    by_cases c : 0 ≤ a
    · rw [if_pos c, if_neg (by omega)]
    · rw [if_neg c]
  · rw [k0_s, if_neg (by decide), note_k (by omega) note_none, Option.bind_some]
    by_cases c : a ≥ 0
    · rw [if_pos c, decide_eq_false (by omega)]; exact hj
    · rw [if_neg c]; exact hj
theorem ToneNames : orchestrionlaw01_ToneNames.Pure := by
  intro a0 a1 _ _
  refine ⟨9001 + 1, ?_⟩
  obtain ⟨r, h1, h2⟩ := note_le (k := 9001 + 1) (by omega) a1
  have hn : ∃ t, tone_Name.f a0 = some t ∧ orchestrionlaw01_ToneNames.j0 (9001 + 1) a0 t false = some true := by
    by_cases c : 0 ≤ a0 ∧ a0 < 120
    · exact ⟨_, names_in 9001 (by omega) a0 c.1 c.2⟩
    · exact ⟨_, names_out 9001 (by omega) a0 (by omega)⟩
  obtain ⟨t, h3, h4⟩ := hn
  have h5 : (t.toList != t.toList) = false := by simp
  unfold orchestrionlaw01_ToneNames.f
  rw [h1, h2, Option.bind_some, Option.bind_some, ← names_agree, h3, Option.bind_some, if_pos rfl, if_pos rfl, Option.bind_some, h5]
  exact h4
end Go.Proofs.Ytmoomdmdcjokgaa.Pure
