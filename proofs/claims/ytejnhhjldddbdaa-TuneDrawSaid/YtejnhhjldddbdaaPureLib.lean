/- Plain lemmas for the tune's laws: a sample is valid for the program as for the reference. No condition. -/
import Derived.Test.YtejnhhjldddbdaaPGxf44
import Derived.Test.YtejnhhjldddbdaaPGxf26
namespace Go.Proofs.Ytejnhhjldddbdaa.Pure
open Go.RowKit Go.Proofs.Ytejnhhjldddbdaa.PG Go.Proofs.YtejnhhjldddbdaaW.PrintWords Go.Proofs.YtejnhhjldddbdaaW.PrintLast Go.Proofs.YtejnhhjldddbdaaW.PrintMore
theorem w64 {x : Int} (h0 : -9223372036854775808 ≤ x) (h1 : x ≤ 9223372036854775807) : wrap64 x = x := by
  unfold wrap64
  omega
def lp (a b c n : Int) : Bool := (sample_loopOK.f a b c n).getD false
theorem lp_eq (a b c n : Int) : sample_loopOK.f a b c n = some (lp a b c n) := by
  unfold lp sample_loopOK.f
  repeat' split
  all_goals rfl
theorem lp_ref (a b c n : Int) : orchestrionref02_Looped.f a b c n = some (lp a b c n) := lp_eq a b c n
def allN (b : ByteArray) : Nat → Nat → Bool
  | _, 0 => true
  | i, d + 1 => if bt b i < 32 then false else if bt b i > 126 then false else allN b (i + 1) d
def allD (lo hi : Int) (xs : List Int) : Nat → Nat → Bool
  | _, 0 => true
  | i, d + 1 => if rd xs i < lo then false else if rd xs i > hi then false else allD lo hi xs (i + 1) d
theorem allN_s (b : ByteArray) (i d : Nat) : allN b i (d + 1) = if bt b i < 32 then false else if bt b i > 126 then false else allN b (i + 1) d := rfl
theorem allD_s (lo hi : Int) (xs : List Int) (i d : Nat) : allD lo hi xs i (d + 1) = if rd xs i < lo then false else if rd xs i > hi then false else allD lo hi xs (i + 1) d := rfl
def rg (a3 a4 a5 a6 : Int) : Bool := decide (1 ≤ a3 ∧ a3 ≤ 65535 ∧ 0 ≤ a4 ∧ a4 ≤ 64 ∧ -1 ≤ a5 ∧ a5 ≤ 256 ∧ -64 ≤ a6 ∧ a6 ≤ 63)
def lps (l : List Int) (a7 a8 a9 a10 a11 a12 : Int) : Bool := lp a7 a8 a9 l.length && lp a10 a11 a12 l.length
theorem v_j3 (k : Nat) (b : Bool) (nm : ByteArray) (l : List Int) (a2 a3 a4 a5 a6 a7 a8 a9 a10 a11 a12 : Int) : sample_Valid.j3 (k + 1) b nm l a2 a3 a4 a5 a6 a7 a8 a9 a10 a11 a12 = some (!b && lps l a7 a8 a9 a10 a11 a12) := by
  rw [sample_Valid.j3]
  unfold lps
  cases b
  · rw [if_neg (by decide), lp_eq, lp_eq, Option.bind_some]
    cases lp a7 a8 a9 l.length <;> rfl
  · rfl
theorem v_l1 (lo hi : Int) (xs : List Int) (hx : xs.length ≤ 4096) (nm : ByteArray) (l : List Int) (a2 a3 a4 a5 a6 a7 a8 a9 a10 a11 a12 : Int) : ∀ (d i k : Nat), i + d = xs.length → d + 2 ≤ k → sample_Valid.l1 k lo hi xs xs.length i nm l a2 a3 a4 a5 a6 a7 a8 a9 a10 a11 a12 = some (allD lo hi xs i d && (rg a3 a4 a5 a6 && lps l a7 a8 a9 a10 a11 a12)) := by
  intro d
  induction d with
  | zero =>
    intro i k hq hk
    obtain ⟨k, rfl⟩ : ∃ q, k = q + 1 + 1 := ⟨k - 2, by omega⟩
    unfold sample_Valid.l1
    rw [if_neg (by omega)]
    by_cases hR : (1 ≤ a3 ∧ a3 ≤ 65535 ∧ 0 ≤ a4 ∧ a4 ≤ 64 ∧ -1 ≤ a5 ∧ a5 ≤ 256 ∧ -64 ≤ a6 ∧ a6 ≤ 63)
    · have e : rg a3 a4 a5 a6 = true := decide_eq_true hR
      rw [if_neg (by omega), if_neg (by omega), if_neg (by omega), if_neg (by omega), if_neg (by omega), if_neg (by omega), if_neg (by omega), v_j3, decide_eq_false (by omega), e]
      rfl
    · have e : rg a3 a4 a5 a6 = false := decide_eq_false hR
      rw [e]
      repeat' split
      all_goals rw [v_j3]
      all_goals first | rfl | (rw [decide_eq_true (by omega)]; rfl)
  | succ d ih =>
    intro i k hq hk
    obtain ⟨k, rfl⟩ : ∃ q, k = q + 1 := ⟨k - 1, by omega⟩
    unfold sample_Valid.l1
    rw [if_pos (by omega), if_pos (by omega), if_pos (by omega), w64 (by omega) (by omega)]
    have := ih (i + 1) k (by omega) (by omega)
    show (if rd xs i < lo then _ else if rd xs i > hi then _ else sample_Valid.l1 k lo hi xs xs.length ((i + 1 : Nat) : Int) nm l a2 a3 a4 a5 a6 a7 a8 a9 a10 a11 a12) = _
    rw [this]
    rw [allD_s]
    by_cases c1 : rd xs i < lo
    · rw [if_pos c1, if_pos c1]; rfl
    · rw [if_neg c1, if_neg c1]
      by_cases c2 : rd xs i > hi
      · rw [if_pos c2, if_pos c2]; rfl
      · rw [if_neg c2, if_neg c2]
theorem v_l0 (lo hi : Int) (nm : ByteArray) (l : List Int) (a2 a3 a4 a5 a6 a7 a8 a9 a10 a11 a12 : Int) (hn : nm.size ≤ 22) (hl : l.length ≤ 4096) (hlim : sample_limit.f a2 = some (lo, hi)) : ∀ (d i k : Nat), i + d = nm.size → d + 4100 ≤ k → sample_Valid.l0 k nm.size i nm l a2 a3 a4 a5 a6 a7 a8 a9 a10 a11 a12 = some (allN nm i d && (allD lo hi l 0 l.length && (rg a3 a4 a5 a6 && lps l a7 a8 a9 a10 a11 a12))) := by
  intro d
  induction d with
  | zero =>
    intro i k hq hk
    obtain ⟨k, rfl⟩ : ∃ q, k = q + 1 := ⟨k - 1, by omega⟩
    unfold sample_Valid.l0
    rw [if_neg (by omega), hlim, Option.bind_some]
    have := v_l1 lo hi l hl nm l a2 a3 a4 a5 a6 a7 a8 a9 a10 a11 a12 l.length 0 k (by omega) (by omega)
    exact this
  | succ d ih =>
    intro i k hq hk
    obtain ⟨k, rfl⟩ : ∃ q, k = q + 1 := ⟨k - 1, by omega⟩
    unfold sample_Valid.l0
    rw [if_pos (by omega), if_pos (by omega), if_pos (by omega), w64 (by omega) (by omega)]
    have := ih (i + 1) k (by omega) (by omega)
    show (if bt nm i < 32 then _ else if bt nm i > 126 then _ else sample_Valid.l0 k nm.size ((i + 1 : Nat) : Int) nm l a2 a3 a4 a5 a6 a7 a8 a9 a10 a11 a12) = _
    rw [this]
    rw [allN_s]
    by_cases c1 : bt nm i < 32
    · rw [if_pos c1, if_pos c1]; rfl
    · rw [if_neg c1, if_neg c1]
      by_cases c2 : bt nm i > 126
      · rw [if_pos c2, if_pos c2]; rfl
      · rw [if_neg c2, if_neg c2]
theorem r_named (nm : ByteArray) (hn : nm.size ≤ 22) : ∀ (d i k : Nat), i + d = nm.size → d + 1 ≤ k → orchestrionref02_Named.l0 k nm i = some (allN nm i d) := by
  intro d
  induction d with
  | zero =>
    intro i k hq hk
    obtain ⟨k, rfl⟩ : ∃ q, k = q + 1 := ⟨k - 1, by omega⟩
    unfold orchestrionref02_Named.l0
    rw [if_neg (by omega)]; rfl
  | succ d ih =>
    intro i k hq hk
    obtain ⟨k, rfl⟩ : ∃ q, k = q + 1 := ⟨k - 1, by omega⟩
    unfold orchestrionref02_Named.l0
    rw [if_pos (by omega), if_pos (by omega), w64 (by omega) (by omega)]
    have := ih (i + 1) k (by omega) (by omega)
    show (if bt nm i < 32 then _ else if bt nm i > 126 then _ else orchestrionref02_Named.l0 k nm ((i + 1 : Nat) : Int)) = _
    rw [this]
    rw [allN_s]
    by_cases c1 : bt nm i < 32
    · rw [if_pos c1, if_pos c1]
    · rw [if_neg c1, if_neg c1]
      by_cases c2 : bt nm i > 126
      · rw [if_pos c2, if_pos c2]
      · rw [if_neg c2, if_neg c2]
theorem r_l0 (lo hi : Int) (nm : ByteArray) (l : List Int) (a2 a3 a4 a5 a6 a7 a8 a9 a10 a11 a12 : Int) (hl : l.length ≤ 4096) (hfit : ∀ x, orchestrionref02_Fits.f x a2 = some (decide (lo ≤ x ∧ x ≤ hi))) : ∀ (d i k : Nat), i + d = l.length → d + 1 ≤ k → orchestrionref02_Valid.l0 k l.length i nm l a2 a3 a4 a5 a6 a7 a8 a9 a10 a11 a12 = some (allD lo hi l i d && lps l a7 a8 a9 a10 a11 a12) := by
  intro d
  induction d with
  | zero =>
    intro i k hq hk
    obtain ⟨k, rfl⟩ : ∃ q, k = q + 1 := ⟨k - 1, by omega⟩
    unfold orchestrionref02_Valid.l0 lps
    rw [if_neg (by omega), lp_ref, lp_ref, Option.bind_some]
    cases lp a7 a8 a9 l.length <;> rfl
  | succ d ih =>
    intro i k hq hk
    obtain ⟨k, rfl⟩ : ∃ q, k = q + 1 := ⟨k - 1, by omega⟩
    unfold orchestrionref02_Valid.l0
    rw [if_pos (by omega), if_pos (by omega), if_pos (by omega), w64 (by omega) (by omega), hfit, Option.bind_some]
    have := ih (i + 1) k (by omega) (by omega)
    show (if decide (lo ≤ rd l i ∧ rd l i ≤ hi) = true then orchestrionref02_Valid.l0 k l.length ((i + 1 : Nat) : Int) nm l a2 a3 a4 a5 a6 a7 a8 a9 a10 a11 a12 else _) = _
    rw [this]
    rw [allD_s]
    by_cases c1 : rd l i < lo
    · rw [if_pos c1, decide_eq_false (by omega), if_neg (by decide)]; rfl
    · rw [if_neg c1]
      by_cases c2 : rd l i > hi
      · rw [if_pos c2, decide_eq_false (by omega), if_neg (by decide)]; rfl
      · rw [if_neg c2, decide_eq_true (by omega), if_pos rfl]
def bits (a2 : Int) : Option (Int × Int) := if a2 = 8 then some (-128, 127) else if a2 = 16 then some (-32768, 32767) else none
def validB (nm : ByteArray) (l : List Int) (a2 a3 a4 a5 a6 a7 a8 a9 a10 a11 a12 : Int) : Bool := decide (nm.size ≤ 22 ∧ l.length ≤ 4096) && (match bits a2 with
  | some (lo, hi) => allN nm 0 nm.size && (allD lo hi l 0 l.length && (rg a3 a4 a5 a6 && lps l a7 a8 a9 a10 a11 a12))
  | none => false)
theorem v_j0 (k : Nat) (b : Bool) (nm : ByteArray) (l : List Int) (a2 a3 a4 a5 a6 a7 a8 a9 a10 a11 a12 : Int) : sample_Valid.j0 (k + 1) b nm l a2 a3 a4 a5 a6 a7 a8 a9 a10 a11 a12 = if b = true then some false else sample_Valid.l0 k nm.size 0 nm l a2 a3 a4 a5 a6 a7 a8 a9 a10 a11 a12 := by rw [sample_Valid.j0]
theorem valid_lim (lo hi : Int) (nm : ByteArray) (l : List Int) (a2 a3 a4 a5 a6 a7 a8 a9 a10 a11 a12 : Int) (hn : nm.size ≤ 22) (hlim : sample_limit.f a2 = some (lo, hi)) : sample_Valid.j0 (4999 + 1) (decide ((l.length : Int) > 4096)) nm l a2 a3 a4 a5 a6 a7 a8 a9 a10 a11 a12 = some (decide (nm.size ≤ 22 ∧ l.length ≤ 4096) && (allN nm 0 nm.size && (allD lo hi l 0 l.length && (rg a3 a4 a5 a6 && lps l a7 a8 a9 a10 a11 a12)))) := by
  by_cases hl : (l.length : Int) > 4096
  · rw [decide_eq_true hl, v_j0, if_pos rfl, decide_eq_false (by omega)]; rfl
  · rw [decide_eq_false hl, v_j0, if_neg (by decide), decide_eq_true (by omega), Bool.true_and]
    exact v_l0 lo hi nm l a2 a3 a4 a5 a6 a7 a8 a9 a10 a11 a12 hn (by omega) hlim nm.size 0 4999 (by omega) (by omega)
theorem valid_at (nm : ByteArray) (l : List Int) (a2 a3 a4 a5 a6 a7 a8 a9 a10 a11 a12 : Int) : sample_Valid.f (4999 + 1) nm l a2 a3 a4 a5 a6 a7 a8 a9 a10 a11 a12 = some (validB nm l a2 a3 a4 a5 a6 a7 a8 a9 a10 a11 a12) := by
  unfold sample_Valid.f validB bits
  by_cases hn : (nm.size : Int) > 22
  · rw [if_pos hn, v_j0, if_pos rfl, decide_eq_false (by omega)]; rfl
  · rw [if_neg hn]
    by_cases h8 : a2 = 8
    · subst h8
      rw [if_pos rfl]
      exact valid_lim (-128) 127 nm l 8 a3 a4 a5 a6 a7 a8 a9 a10 a11 a12 (by omega) (by decide +kernel)
    · rw [if_neg h8]
      by_cases h16 : a2 = 16
      · subst h16
        rw [if_pos rfl]
        exact valid_lim (-32768) 32767 nm l 16 a3 a4 a5 a6 a7 a8 a9 a10 a11 a12 (by omega) (by decide +kernel)
      · rw [if_neg h16, if_neg h8, if_neg h16, v_j0, if_pos rfl, Bool.and_false]
theorem r_j0 (k : Nat) (n : Int) (b : Bool) (nm : ByteArray) (l : List Int) (a2 a3 a4 a5 a6 a7 a8 a9 a10 a11 a12 : Int) : orchestrionref02_Valid.j0 (k + 1) n b nm l a2 a3 a4 a5 a6 a7 a8 a9 a10 a11 a12 = if b = true then some false else orchestrionref02_Valid.l0 k n 0 nm l a2 a3 a4 a5 a6 a7 a8 a9 a10 a11 a12 := by rw [orchestrionref02_Valid.j0]
theorem rvalid_lim (lo hi : Int) (nm : ByteArray) (l : List Int) (a2 a3 a4 a5 a6 a7 a8 a9 a10 a11 a12 : Int) (hn : nm.size ≤ 22) (hfit : ∀ x, orchestrionref02_Fits.f x a2 = some (decide (lo ≤ x ∧ x ≤ hi))) : (if (l.length : Int) > 4096 then (orchestrionref02_Valid.j0 (4999 + 1) (l.length : Int) true nm l a2 a3 a4 a5 a6 a7 a8 a9 a10 a11 a12) else (if a3 < 1 then (orchestrionref02_Valid.j0 (4999 + 1) (l.length : Int) true nm l a2 a3 a4 a5 a6 a7 a8 a9 a10 a11 a12) else (if a3 > 65535 then (orchestrionref02_Valid.j0 (4999 + 1) (l.length : Int) true nm l a2 a3 a4 a5 a6 a7 a8 a9 a10 a11 a12) else (if a4 < 0 then (orchestrionref02_Valid.j0 (4999 + 1) (l.length : Int) true nm l a2 a3 a4 a5 a6 a7 a8 a9 a10 a11 a12) else (if a4 > 64 then (orchestrionref02_Valid.j0 (4999 + 1) (l.length : Int) true nm l a2 a3 a4 a5 a6 a7 a8 a9 a10 a11 a12) else (if a5 < (-1) then (orchestrionref02_Valid.j0 (4999 + 1) (l.length : Int) true nm l a2 a3 a4 a5 a6 a7 a8 a9 a10 a11 a12) else (if a5 > 256 then (orchestrionref02_Valid.j0 (4999 + 1) (l.length : Int) true nm l a2 a3 a4 a5 a6 a7 a8 a9 a10 a11 a12) else (if a6 < (-64) then (orchestrionref02_Valid.j0 (4999 + 1) (l.length : Int) true nm l a2 a3 a4 a5 a6 a7 a8 a9 a10 a11 a12) else (orchestrionref02_Valid.j0 (4999 + 1) (l.length : Int) (decide (a6 > 63)) nm l a2 a3 a4 a5 a6 a7 a8 a9 a10 a11 a12))))))))) = some (decide (nm.size ≤ 22 ∧ l.length ≤ 4096) && (allD lo hi l 0 l.length && (rg a3 a4 a5 a6 && lps l a7 a8 a9 a10 a11 a12))) := by
  by_cases hl : (l.length : Int) > 4096
  · rw [if_pos hl, r_j0, if_pos rfl, decide_eq_false (by omega)]; rfl
  · rw [if_neg hl, show decide (nm.size ≤ 22 ∧ l.length ≤ 4096) = true from decide_eq_true (by omega), Bool.true_and]
    by_cases hR : (1 ≤ a3 ∧ a3 ≤ 65535 ∧ 0 ≤ a4 ∧ a4 ≤ 64 ∧ -1 ≤ a5 ∧ a5 ≤ 256 ∧ -64 ≤ a6 ∧ a6 ≤ 63)
    · have e : rg a3 a4 a5 a6 = true := decide_eq_true hR
      rw [if_neg (by omega), if_neg (by omega), if_neg (by omega), if_neg (by omega), if_neg (by omega), if_neg (by omega), if_neg (by omega), decide_eq_false (by omega), e, r_j0, if_neg (by decide), Bool.true_and]
      exact r_l0 lo hi nm l a2 a3 a4 a5 a6 a7 a8 a9 a10 a11 a12 (by omega) hfit l.length 0 4999 (by omega) (by omega)
    · have e : rg a3 a4 a5 a6 = false := decide_eq_false hR
      rw [e, Bool.false_and, Bool.and_false]
      repeat' split
      all_goals first | (rw [r_j0, if_pos rfl]; done) | (rw [decide_eq_true (by omega), r_j0, if_pos rfl])
theorem named_at (nm : ByteArray) : orchestrionref02_Named.f (4999 + 1) nm = some (decide (nm.size ≤ 22) && allN nm 0 nm.size) := by
  unfold orchestrionref02_Named.f
  by_cases hn : (nm.size : Int) > 22
  · rw [if_pos hn, decide_eq_false (by omega)]; rfl
  · rw [if_neg hn, decide_eq_true (by omega), Bool.true_and]
    exact r_named nm (by omega) nm.size 0 (4999 + 1) (by omega) (by omega)
theorem fits8 (x : Int) : orchestrionref02_Fits.f x 8 = some (decide (-128 ≤ x ∧ x ≤ 127)) := by
  unfold orchestrionref02_Fits.f
  rw [show wrap64 (8 - 1) = 7 from by decide +kernel, show shl .i64 1 7 = 128 from by decide +kernel, show wrap64 (-128) = -128 from by decide +kernel, if_pos (by decide)]
  by_cases h : -128 ≤ x
  · rw [if_pos h]; congr 1; apply decide_eq_decide.2; omega
  · rw [if_neg h, decide_eq_false (by omega)]
theorem fits16 (x : Int) : orchestrionref02_Fits.f x 16 = some (decide (-32768 ≤ x ∧ x ≤ 32767)) := by
  unfold orchestrionref02_Fits.f
  rw [show wrap64 (16 - 1) = 15 from by decide +kernel, show shl .i64 1 15 = 32768 from by decide +kernel, show wrap64 (-32768) = -32768 from by decide +kernel, if_pos (by decide)]
  by_cases h : -32768 ≤ x
  · rw [if_pos h]; congr 1; apply decide_eq_decide.2; omega
  · rw [if_neg h, decide_eq_false (by omega)]
theorem rvalid_at (nm : ByteArray) (l : List Int) (a2 a3 a4 a5 a6 a7 a8 a9 a10 a11 a12 : Int) : orchestrionref02_Valid.f (4999 + 1) nm l a2 a3 a4 a5 a6 a7 a8 a9 a10 a11 a12 = some (validB nm l a2 a3 a4 a5 a6 a7 a8 a9 a10 a11 a12) := by
  unfold orchestrionref02_Valid.f validB bits
  rw [named_at, Option.bind_some]
  by_cases hn : nm.size ≤ 22
  · rw [decide_eq_true hn, Bool.true_and]
    cases hN : allN nm 0 nm.size
    · rw [if_neg (by decide), r_j0, if_pos rfl]
      split <;> simp
    · rw [if_pos rfl]
      by_cases h8 : a2 = 8
      · subst h8
        rw [if_pos rfl, rvalid_lim (-128) 127 nm l 8 a3 a4 a5 a6 a7 a8 a9 a10 a11 a12 hn fits8]
        simp
      · rw [if_neg h8]
        by_cases h16 : a2 = 16
        · subst h16
          rw [if_pos rfl, rvalid_lim (-32768) 32767 nm l 16 a3 a4 a5 a6 a7 a8 a9 a10 a11 a12 hn fits16]
          simp
        · rw [if_neg h16, if_neg h8, if_neg h16, r_j0, if_pos rfl, Bool.and_false]
  · rw [decide_eq_false hn, Bool.false_and, if_neg (by decide), r_j0, if_pos rfl, decide_eq_false (by omega)]; rfl
theorem valid_k {k : Nat} (hk : 5000 ≤ k) (nm : ByteArray) (l : List Int) (a2 a3 a4 a5 a6 a7 a8 a9 a10 a11 a12 : Int) : sample_Valid.f k nm l a2 a3 a4 a5 a6 a7 a8 a9 a10 a11 a12 = some (validB nm l a2 a3 a4 a5 a6 a7 a8 a9 a10 a11 a12) := at_rounds (g := fun k => sample_Valid.f k nm l a2 a3 a4 a5 a6 a7 a8 a9 a10 a11 a12) (fun k => sample_Valid.mono _ _ _ _ _ _ _ _ _ _ _ _ _ k) hk (valid_at nm l a2 a3 a4 a5 a6 a7 a8 a9 a10 a11 a12)
theorem rvalid_k {k : Nat} (hk : 5000 ≤ k) (nm : ByteArray) (l : List Int) (a2 a3 a4 a5 a6 a7 a8 a9 a10 a11 a12 : Int) : orchestrionref02_Valid.f k nm l a2 a3 a4 a5 a6 a7 a8 a9 a10 a11 a12 = some (validB nm l a2 a3 a4 a5 a6 a7 a8 a9 a10 a11 a12) := at_rounds (g := fun k => orchestrionref02_Valid.f k nm l a2 a3 a4 a5 a6 a7 a8 a9 a10 a11 a12) (fun k => orchestrionref02_Valid.mono _ _ _ _ _ _ _ _ _ _ _ _ _ k) hk (rvalid_at nm l a2 a3 a4 a5 a6 a7 a8 a9 a10 a11 a12)
end Go.Proofs.Ytejnhhjldddbdaa.Pure
