/- Cursors: where they go, told once. No condition but that what is given is valid. -/
import Derived.Test.YtnmoiolddfboiaaSxV
namespace Go.Proofs.Ytnmoiolddfboiaa.Cu
set_option linter.unusedVariables false
/-- a cursor -/
structure Cur where
  pos : Int
  frac : Int
  back : Bool
  done : Bool
def Cur.over : Cur := ⟨0, 0, false, true⟩
/-- how a place moves -/
def wayM (k x step : Int) (back : Bool) (N S W : Int) : Int × Bool × Bool :=
  if k = 1 then
    if back = false then (if S + W ≤ x + step then S + (x + step - S) % W else x + step, false, true)
    else if x < S then (x - step, true, decide (0 ≤ x - step))
    else (if x - step < S then S + (x - step - S) % W else x - step, true, true)
  else if k = 2 then
    if back = true ∧ x < S then (x - step, true, decide (step ≤ x))
    else if back = false ∧ x + step < S + W then (x + step, false, true)
    else if (if back = true then 2 * W - 1 - ((if x < S + W - 1 then x else S + W - 1) - S) + step else x + step - S) % (2 * W) < W then
      (S + (if back = true then 2 * W - 1 - ((if x < S + W - 1 then x else S + W - 1) - S) + step else x + step - S) % (2 * W), false, true)
    else (S + 2 * W - 1 - (if back = true then 2 * W - 1 - ((if x < S + W - 1 then x else S + W - 1) - S) + step else x + step - S) % (2 * W), true, true)
  else if back = true then (x - step, true, decide (step ≤ x)) else (x + step, false, decide (x + step < N))
/-- a loop of so many frames -/
def LoopOk (k a b : Int) (n : Nat) : Prop := k = 0 ∨ (k = 1 ∨ k = 2) ∧ 0 ≤ a ∧ a < b ∧ b ≤ n
def stand (r : Int × Bool × Bool) : Cur := if r.2.2 = true then ⟨r.1 / 65536, r.1 % 65536, r.2.1, false⟩ else Cur.over
def moveK (k a b : Int) (n : Nat) (c : Cur) (step : Int) : Cur :=
  if c.done = true then c else stand (wayM k (c.pos * 65536 + c.frac) step c.back (n * 65536) (a * 65536) ((b - a) * 65536))
/-- a cursor that may stand on so many frames -/
def CurOk (n : Nat) (c : Cur) : Prop := if c.done = true then c = Cur.over else 0 ≤ c.pos ∧ c.pos < n ∧ 0 ≤ c.frac ∧ c.frac < 65536
theorem way_on {k x step N S W : Int} {back : Bool} (hk : k = 0 ∨ (k = 1 ∨ k = 2) ∧ 0 ≤ S ∧ 0 < W ∧ S + W ≤ N) (hx : 0 ≤ x) (hN : x < N) (hs : 0 ≤ step) :
    (wayM k x step back N S W).2.2 = true → 0 ≤ (wayM k x step back N S W).1 ∧ (wayM k x step back N S W).1 < N := by
  intro h
  unfold wayM at *
  rcases hk with rfl | ⟨rfl | rfl, h1, h2, h3⟩
  · cases back <;> simp at h ⊢ <;> omega
  · have m1 := Int.emod_nonneg (x + step - S) (show W ≠ 0 by omega)
    have m2 := Int.emod_lt_of_pos (x + step - S) h2
    have m3 := Int.emod_nonneg (x - step - S) (show W ≠ 0 by omega)
    have m4 := Int.emod_lt_of_pos (x - step - S) h2
    cases back
    · simp only [if_true]
      split <;> constructor <;> omega
    · simp only [if_true, if_neg (show ¬ (true = false) by decide)] at h ⊢
      split
      · rename_i c
        rw [if_pos c] at h
        simp at h
        constructor <;> omega
      · simp only
        split <;> constructor <;> omega
  · generalize (if back = true then 2 * W - 1 - ((if x < S + W - 1 then x else S + W - 1) - S) + step else x + step - S) = u at *
    have m1 := Int.emod_nonneg u (show 2 * W ≠ 0 by omega)
    have m2 := Int.emod_lt_of_pos u (show 0 < 2 * W by omega)
    rw [if_neg (by decide), if_pos rfl] at h ⊢
    by_cases c1 : back = true ∧ x < S
    · rw [if_pos c1] at h ⊢
      simp at h
      constructor <;> simp only <;> omega
    · rw [if_neg c1] at h ⊢
      by_cases c2 : back = false ∧ x + step < S + W
      · rw [if_pos c2] at h ⊢
        constructor <;> simp only <;> omega
      · rw [if_neg c2] at h ⊢
        by_cases c3 : u % (2 * W) < W
        · rw [if_pos c3]; constructor <;> simp only <;> omega
        · rw [if_neg c3]; constructor <;> simp only <;> omega
theorem loop_w {k a b : Int} {n : Nat} (h : LoopOk k a b n) : k = 0 ∨ (k = 1 ∨ k = 2) ∧ 0 ≤ a * 65536 ∧ 0 < (b - a) * 65536 ∧ a * 65536 + (b - a) * 65536 ≤ n * 65536 := by
  rcases h with h | ⟨h0, h1, h2, h3⟩
  · exact .inl h
  · exact .inr ⟨h0, by omega, by omega, by omega⟩
theorem stand_ok {r : Int × Bool × Bool} {n : Nat} (h : r.2.2 = true → 0 ≤ r.1 ∧ r.1 < n * 65536) : CurOk n (stand r) := by
  unfold stand
  by_cases c : r.2.2 = true
  · rw [if_pos c]
    have := h c
    unfold CurOk
    rw [if_neg (by simp)]
    simp only
    omega
  · rw [if_neg c]
    unfold CurOk
    rw [if_pos (show Cur.over.done = true from rfl)]
theorem move_ok {k a b : Int} {n : Nat} {c : Cur} {step : Int} (h : LoopOk k a b n) (hc : CurOk n c) (hs : 0 ≤ step) : CurOk n (moveK k a b n c step) := by
  unfold moveK
  by_cases d : c.done = true
  · rw [if_pos d]; exact hc
  · rw [if_neg d]
    unfold CurOk at hc
    rw [if_neg d] at hc
    exact stand_ok (way_on (loop_w h) (by omega) (by omega) hs)
/-- what way a cursor stands for -/
theorem stand_x {r : Int × Bool × Bool} : (r.2.2 = true) → (stand r).pos * 65536 + (stand r).frac = r.1 ∧ (stand r).back = r.2.1 ∧ (stand r).done = false := by
  intro h
  unfold stand
  rw [if_pos h]
  refine ⟨?_, rfl, rfl⟩
  simp only
  omega
theorem mod_add {W u v : Int} (hW : 0 < W) : (u % W + v) % W = (u + v) % W := by simp [Int.emod_add_emod]
def g2 (y S W : Int) : Int × Bool × Bool := if y < S + W then (y, false, true) else if (y - S) % (2 * W) < W then (S + (y - S) % (2 * W), false, true) else (S + 2 * W - 1 - (y - S) % (2 * W), true, true)
theorem way2F (x p N S W : Int) : wayM 2 x p false N S W = g2 (x + p) S W := by
  unfold wayM g2
  rw [if_neg (by decide), if_pos rfl, if_neg (by simp)]
  by_cases c : x + p < S + W
  · rw [if_pos ⟨rfl, c⟩, if_pos c]
  · rw [if_neg (by simp; omega), if_neg c]
    simp only [if_neg (show ¬ (false = true) by decide)]
/-- two steps from a place that goes on are one -/
theorem way_split {k x p q N S W : Int} (hk : k = 0 ∨ (k = 1 ∨ k = 2) ∧ 0 ≤ S ∧ 0 < W ∧ S + W ≤ N) (hx : 0 ≤ x) (hN : x < N) (hp : 0 ≤ p) (hq : 0 ≤ q) :
    ((wayM k x p false N S W).2.2 = true → wayM k (wayM k x p false N S W).1 q (wayM k x p false N S W).2.1 N S W = wayM k x (p + q) false N S W) ∧ ((wayM k x p false N S W).2.2 = false → (wayM k x (p + q) false N S W).2.2 = false) := by
  rcases hk with rfl | ⟨rfl | rfl, h1, h2, h3⟩
  · unfold wayM
    simp
    constructor
    · intro h; constructor <;> omega
    · omega
  · refine ⟨fun _ => ?_, fun h => by simp [wayM] at h⟩
    have m1 := Int.emod_nonneg (x + p - S) (show W ≠ 0 by omega)
    have m2 := Int.emod_lt_of_pos (x + p - S) h2
    unfold wayM
    simp only [if_true]
    by_cases c1 : S + W ≤ x + p
    · rw [if_pos c1, if_pos (show S + W ≤ x + (p + q) by omega)]
      have e : (S + (x + p - S) % W + q - S) % W = (x + (p + q) - S) % W := by
        rw [show S + (x + p - S) % W + q - S = (x + p - S) % W + q by omega, Int.emod_add_emod]
        congr 1; omega
      by_cases c2 : S + W ≤ S + (x + p - S) % W + q
      · rw [if_pos c2, e]
      · rw [if_neg c2, ← e]
        generalize (x + p - S) % W = r at *
        rw [show S + r + q - S = r + q by omega, Int.emod_eq_of_lt (by omega) (by omega)]
        congr 1; omega
    · rw [if_neg c1]
      rw [show x + p + q = x + (p + q) by omega]
  · refine ⟨fun _ => ?_, fun h => ?_⟩
    · have m1 := Int.emod_nonneg (x + p - S) (show 2 * W ≠ 0 by omega)
      have m2 := Int.emod_lt_of_pos (x + p - S) (show 0 < 2 * W by omega)
      by_cases c1 : x + p < S + W
      · have e1 : wayM 2 x p false N S W = (x + p, false, true) := by
          unfold wayM
          rw [if_neg (by decide), if_pos rfl, if_neg (by simp), if_pos ⟨rfl, c1⟩]
        rw [e1, way2F, way2F, show x + p + q = x + (p + q) by omega]
      · have e0 : (if (false : Bool) = true then 2 * W - 1 - ((if x < S + W - 1 then x else S + W - 1) - S) + (p + q) else x + (p + q) - S) = x + (p + q) - S := if_neg (by decide)
        have eR : wayM 2 x (p + q) false N S W = if (x + (p + q) - S) % (2 * W) < W then (S + (x + (p + q) - S) % (2 * W), false, true) else (S + 2 * W - 1 - (x + (p + q) - S) % (2 * W), true, true) := by
          unfold wayM
          rw [if_neg (by decide), if_pos rfl, if_neg (by simp), if_neg (by omega), e0]
        have key : ((x + p - S) % (2 * W) + q) % (2 * W) = (x + (p + q) - S) % (2 * W) := by
          rw [Int.emod_add_emod]; congr 1; omega
        by_cases c2 : (x + p - S) % (2 * W) < W
        · have e1 : wayM 2 x p false N S W = (S + (x + p - S) % (2 * W), false, true) := by
            unfold wayM
            rw [if_neg (by decide), if_pos rfl, if_neg (by simp), if_neg (by omega)]
            simp only [if_neg (show ¬ (false = true) by decide)]
            rw [if_pos c2]
          rw [e1, eR]
          generalize (x + p - S) % (2 * W) = u at *
          unfold wayM
          rw [if_neg (by decide), if_pos rfl, if_neg (by simp)]
          simp only [if_neg (show ¬ (false = true) by decide)]
          by_cases c3 : S + u + q < S + W
          · rw [if_pos ⟨trivial, c3⟩]
            rw [← key, Int.emod_eq_of_lt (by omega) (by omega), if_pos (by omega)]
            congr 1; omega
          · rw [if_neg (by simp; omega), show S + u + q - S = u + q by omega, key]
        · have e1 : wayM 2 x p false N S W = (S + 2 * W - 1 - (x + p - S) % (2 * W), true, true) := by
            unfold wayM
            rw [if_neg (by decide), if_pos rfl, if_neg (by simp), if_neg (by omega)]
            simp only [if_neg (show ¬ (false = true) by decide)]
            rw [if_neg c2]
          rw [e1, eR]
          generalize (x + p - S) % (2 * W) = u at *
          unfold wayM
          rw [if_neg (by decide), if_pos rfl, if_neg (by simp; omega)]
          simp only [if_true]
          rw [if_neg (by simp)]
          have e2 : (if S + 2 * W - 1 - u < S + W - 1 then S + 2 * W - 1 - u else S + W - 1) = S + 2 * W - 1 - u := by split <;> omega
          rw [e2, show 2 * W - 1 - (S + 2 * W - 1 - u - S) + q = u + q by omega, key]
    · unfold wayM at h
      rw [if_neg (by decide), if_pos rfl, if_neg (by simp)] at h
      repeat' split at h
      all_goals simp at h
theorem move_split {k a b : Int} {n : Nat} {c : Cur} {p q : Int} (h : LoopOk k a b n) (hc : CurOk n c) (hb : c.back = false) (hp : 0 ≤ p) (hq : 0 ≤ q) : moveK k a b n (moveK k a b n c p) q = moveK k a b n c (p + q) := by
  by_cases d : c.done = true
  · have e : ∀ s, moveK k a b n c s = c := fun s => by unfold moveK; rw [if_pos d]
    rw [e, e, e]
  · unfold CurOk at hc
    rw [if_neg d] at hc
    obtain ⟨y1, y2⟩ := way_split (loop_w h) (x := c.pos * 65536 + c.frac) (N := n * 65536) (by omega) (by omega) hp hq
    have e : ∀ s, moveK k a b n c s = stand (wayM k (c.pos * 65536 + c.frac) s false (n * 65536) (a * 65536) ((b - a) * 65536)) := fun s => by unfold moveK; rw [if_neg d, hb]
    rw [e, e]
    generalize wayM k (c.pos * 65536 + c.frac) p false (n * 65536) (a * 65536) ((b - a) * 65536) = r at *
    by_cases f : r.2.2 = true
    · obtain ⟨s1, s2, s3⟩ := stand_x f
      unfold moveK
      rw [if_neg (by simp [s3]), s1, s2, y1 f]
    · have f' : r.2.2 = false := by simpa using f
      have e1 : stand r = Cur.over := if_neg f
      have e2 : stand (wayM k (c.pos * 65536 + c.frac) (p + q) false (n * 65536) (a * 65536) ((b - a) * 65536)) = Cur.over := if_neg (by rw [y2 f']; decide)
      rw [e1, e2]
      rfl
/-- once around -/
theorem turn_fwd {a b : Int} {n : Nat} {c : Cur} (h1 : 0 ≤ a) (h2 : a < b) (hd : c.done = false) (p1 : a ≤ c.pos) (p2 : c.pos < b) (f1 : 0 ≤ c.frac) (f2 : c.frac < 65536) : moveK 1 a b n c (65536 * (b - a)) = c := by
  obtain ⟨ps, fr, bk, dn⟩ := c
  simp only at *
  subst hd
  unfold moveK
  simp only
  rw [if_neg (by decide)]
  cases bk
  · have e : wayM 1 (ps * 65536 + fr) (65536 * (b - a)) false (n * 65536) (a * 65536) ((b - a) * 65536) = (ps * 65536 + fr, false, true) := by
      unfold wayM
      simp only [if_true]
      rw [if_pos (by omega), show ps * 65536 + fr + 65536 * (b - a) - a * 65536 = ps * 65536 + fr - a * 65536 + (b - a) * 65536 by omega, Int.add_emod_right, Int.emod_eq_of_lt (by omega) (by omega)]
      congr 1; omega
    rw [e]
    unfold stand
    rw [if_pos rfl]
    congr 1 <;> simp only <;> omega
  · have e : wayM 1 (ps * 65536 + fr) (65536 * (b - a)) true (n * 65536) (a * 65536) ((b - a) * 65536) = (ps * 65536 + fr, true, true) := by
      unfold wayM
      rw [if_pos rfl, if_neg (by decide), if_neg (by omega), if_pos (by omega), show ps * 65536 + fr - 65536 * (b - a) - a * 65536 = ps * 65536 + fr - a * 65536 - (b - a) * 65536 by omega, Int.sub_emod_right, Int.emod_eq_of_lt (by omega) (by omega)]
      congr 1; omega
    rw [e]
    unfold stand
    rw [if_pos rfl]
    congr 1 <;> simp only <;> omega
theorem turn_pp {a b : Int} {n : Nat} {c : Cur} (h1 : 0 ≤ a) (h2 : a < b) (h3 : b ≤ n) (hd : c.done = false) (p1 : a ≤ c.pos) (p2 : c.pos < b) (f1 : 0 ≤ c.frac) (f2 : c.frac < 65536) : moveK 2 a b n (moveK 2 a b n c (65536 * (b - a))) (65536 * (b - a)) = c := by
  obtain ⟨ps, fr, bk, dn⟩ := c
  simp only at *
  subst hd
  have step : ∀ (ps fr : Int) (bk : Bool), a ≤ ps → ps < b → 0 ≤ fr → fr < 65536 → moveK 2 a b n ⟨ps, fr, bk, false⟩ (65536 * (b - a)) = stand (2 * (a * 65536) + (b - a) * 65536 - 1 - (ps * 65536 + fr), !bk, true) := by
    intro ps fr bk p1 p2 f1 f2
    unfold moveK
    simp only
    rw [if_neg (by decide)]
    congr 1
    unfold wayM
    rw [if_neg (by decide), if_pos rfl]
    cases bk
    · rw [if_neg (by simp), if_neg (by simp; omega)]
      simp only [if_neg (show ¬ (false = true) by decide)]
      rw [show ps * 65536 + fr + 65536 * (b - a) - a * 65536 = ps * 65536 + fr - a * 65536 + (b - a) * 65536 by omega, Int.emod_eq_of_lt (by omega) (by omega), if_neg (by omega)]
      congr 1; omega
    · rw [if_neg (by simp; omega), if_neg (by simp)]
      simp only [if_true]
      have e2 : (if ps * 65536 + fr < a * 65536 + (b - a) * 65536 - 1 then ps * 65536 + fr else a * 65536 + (b - a) * 65536 - 1) = ps * 65536 + fr := by split <;> omega
      rw [e2, show 2 * ((b - a) * 65536) - 1 - (ps * 65536 + fr - a * 65536) + 65536 * (b - a) = ((b - a) * 65536 - 1 - (ps * 65536 + fr - a * 65536)) + 2 * ((b - a) * 65536) by omega, Int.add_emod_right, Int.emod_eq_of_lt (by omega) (by omega), if_pos (by omega)]
      congr 1; omega
  rw [step ps fr bk p1 p2 f1 f2]
  unfold stand
  rw [if_pos rfl]
  simp only
  rw [step _ _ _ (by omega) (by omega) (by omega) (by omega)]
  unfold stand
  rw [if_pos rfl]
  simp only [Bool.not_not]
  congr 1 <;> omega

def Cur.t (c : Cur) : Int × Int × Bool × Bool := (c.pos, c.frac, c.back, c.done)
theorem tmod_fix {a W : Int} (hW : 0 < W) : Int.tmod (Int.tmod a W + W) W = a % W := by
  have h1 := Int.tmod_add_mul_tdiv a W
  have h2 : -W < Int.tmod a W := by
    rcases Int.lt_or_le a 0 with h | h
    · have := Int.tmod_lt_of_pos (-a) hW
      rw [Int.neg_tmod] at this
      omega
    · have := Int.tmod_nonneg W h
      omega
  rw [Int.tmod_eq_emod_of_nonneg (by omega), Int.add_emod_right]
  conv => rhs; rw [← h1]
  rw [Int.add_mul_emod_self_left]
theorem tmod_rng {a W : Int} (hW : 0 < W) : -W < Int.tmod a W ∧ Int.tmod a W < W := by
  rcases Int.lt_or_le a 0 with h | h
  · have h1 := Int.tmod_lt_of_pos (-a) hW
    have h2 := Int.tmod_nonneg W (show 0 ≤ -a by omega)
    rw [Int.neg_tmod] at h1 h2
    omega
  · have h1 := Int.tmod_lt_of_pos a hW
    have h2 := Int.tmod_nonneg W h
    omega
/-- the loop that applies -/
def rgk (a7 a8 a9 a10 a11 a12 : Int) (held : Bool) : Int × Int × Int := if held = true then (if a10 = 0 then (a7, a8, a9) else (a10, a11, a12)) else (a7, a8, a9)
end Go.Proofs.Ytnmoiolddfboiaa.Cu
namespace Go.Proofs.Ytnmoiolddfboiaa.SX
open Go.RowKit Go.Proofs.YtnmoiolddfboiaaW.PrintLast Go.Proofs.Ytnmoiolddfboiaa.TX Go.Proofs.Ytnmoiolddfboiaa.Cu
set_option linter.unusedVariables false
set_option linter.unusedSimpArgs false
set_option maxHeartbeats 4000000 in
set_option maxRecDepth 100000 in
theorem plain_f (x step N S W : Int) (hx : 0 ≤ x) (hx1 : x ≤ 1000000000000) (hs : 0 ≤ step) (hs1 : step ≤ 1000000000000)  (w : World) : Calls Try.prog 105 #[iv x, iv step, .bool false, .agg #[iv N, iv S, iv W]] w fun e w' => e = .returned (.tuple #[iv (wayM 0 x step false N S W).1, .bool (wayM 0 x step false N S W).2.1, .bool (wayM 0 x step false N S W).2.2]) ∧ Below w.heap.size w w' := by
  have e : wayM 0 x step false N S W = (x + step, false, decide (x + step < N)) := by
    unfold wayM
    rw [if_neg (by decide), if_neg (by decide), if_neg (by decide)]
  rw [e]
  clear e
  go_enter Try.func105, Try.ntmps105
  go_wp2
  go_quiet (fail)
  go_wp2
  go_ret3
  exact ⟨rfl, by first | exact (Below.refl _ _).alloc (Nat.le_refl _) _ | exact bdN ((Below.refl _ _).alloc (Nat.le_refl _) _) _⟩
set_option maxHeartbeats 4000000 in
set_option maxRecDepth 100000 in
theorem plain_t (x step N S W : Int) (hx : 0 ≤ x) (hx1 : x ≤ 1000000000000) (hs : 0 ≤ step) (hs1 : step ≤ 1000000000000)  (w : World) : Calls Try.prog 105 #[iv x, iv step, .bool true, .agg #[iv N, iv S, iv W]] w fun e w' => e = .returned (.tuple #[iv (wayM 0 x step true N S W).1, .bool (wayM 0 x step true N S W).2.1, .bool (wayM 0 x step true N S W).2.2]) ∧ Below w.heap.size w w' := by
  have e : wayM 0 x step true N S W = (x - step, true, decide (step ≤ x)) := by
    unfold wayM
    rw [if_neg (by decide), if_neg (by decide), if_pos rfl]
  rw [e]
  clear e
  go_enter Try.func105, Try.ntmps105
  go_wp2
  go_ret3
  exact ⟨rfl, by first | exact (Below.refl _ _).alloc (Nat.le_refl _) _ | exact bdN ((Below.refl _ _).alloc (Nat.le_refl _) _) _⟩
set_option maxHeartbeats 4000000 in
set_option maxRecDepth 100000 in
theorem fwd_f1 (x step N S W : Int) (hx : 0 ≤ x) (hx1 : x ≤ 1000000000000) (hs : 0 ≤ step) (hs1 : step ≤ 1000000000000) (hS : 0 ≤ S) (hS1 : S ≤ 1000000000000) (hW : 0 < W) (hW1 : W ≤ 1000000000000) (c : S + W ≤ x + step) (w : World) : Calls Try.prog 106 #[iv x, iv step, .bool false, .agg #[iv N, iv S, iv W]] w fun e w' => e = .returned (.tuple #[iv (wayM 1 x step false N S W).1, .bool (wayM 1 x step false N S W).2.1, .bool (wayM 1 x step false N S W).2.2]) ∧ Below w.heap.size w w' := by
  have e : wayM 1 x step false N S W = (S + (x + step - S) % W, false, true) := by
    unfold wayM
    rw [if_pos rfl, if_pos rfl, if_pos c]
  rw [e]
  have m1 := Int.emod_nonneg (x + step - S) (show W ≠ 0 by omega)
  have m2 := Int.emod_lt_of_pos (x + step - S) hW
  have d1 : decide (S + W ≤ x + step) = true := decide_eq_true c
  have w0 : ¬ W = 0 := by omega
  have q0 : 0 ≤ x + step - S := by omega
  clear e
  go_enter Try.func106, Try.ntmps106
  go_wp2
  go_quiet (fail)
  go_wp2
  go_ret3
  exact ⟨rfl, by first | exact (Below.refl _ _).alloc (Nat.le_refl _) _ | exact bdN ((Below.refl _ _).alloc (Nat.le_refl _) _) _⟩
set_option maxHeartbeats 4000000 in
set_option maxRecDepth 100000 in
theorem fwd_f0 (x step N S W : Int) (hx : 0 ≤ x) (hx1 : x ≤ 1000000000000) (hs : 0 ≤ step) (hs1 : step ≤ 1000000000000) (hS : 0 ≤ S) (hS1 : S ≤ 1000000000000) (hW : 0 < W) (hW1 : W ≤ 1000000000000) (c : ¬ S + W ≤ x + step) (w : World) : Calls Try.prog 106 #[iv x, iv step, .bool false, .agg #[iv N, iv S, iv W]] w fun e w' => e = .returned (.tuple #[iv (wayM 1 x step false N S W).1, .bool (wayM 1 x step false N S W).2.1, .bool (wayM 1 x step false N S W).2.2]) ∧ Below w.heap.size w w' := by
  have e : wayM 1 x step false N S W = (x + step, false, true) := by
    unfold wayM
    rw [if_pos rfl, if_pos rfl, if_neg c]
  rw [e]
  have d1 : decide (S + W ≤ x + step) = false := decide_eq_false c
  clear e
  go_enter Try.func106, Try.ntmps106
  go_wp2
  go_ret3
  exact ⟨rfl, by first | exact (Below.refl _ _).alloc (Nat.le_refl _) _ | exact bdN ((Below.refl _ _).alloc (Nat.le_refl _) _) _⟩
set_option maxHeartbeats 4000000 in
set_option maxRecDepth 100000 in
theorem fwd_b0 (x step N S W : Int) (hx : 0 ≤ x) (hx1 : x ≤ 1000000000000) (hs : 0 ≤ step) (hs1 : step ≤ 1000000000000) (hS : 0 ≤ S) (hS1 : S ≤ 1000000000000) (hW : 0 < W) (hW1 : W ≤ 1000000000000) (c : x < S) (w : World) : Calls Try.prog 106 #[iv x, iv step, .bool true, .agg #[iv N, iv S, iv W]] w fun e w' => e = .returned (.tuple #[iv (wayM 1 x step true N S W).1, .bool (wayM 1 x step true N S W).2.1, .bool (wayM 1 x step true N S W).2.2]) ∧ Below w.heap.size w w' := by
  have e : wayM 1 x step true N S W = (x - step, true, decide (step ≤ x)) := by
    unfold wayM
    rw [if_pos rfl, if_neg (show ¬ (true = false) by decide), if_pos c, decide_eq_decide.2 (show 0 ≤ x - step ↔ step ≤ x by omega)]
  rw [e]
  have d1 : decide (x < S) = true := decide_eq_true c
  clear e
  go_enter Try.func106, Try.ntmps106
  go_wp2
  go_ret3
  exact ⟨rfl, by first | exact (Below.refl _ _).alloc (Nat.le_refl _) _ | exact bdN ((Below.refl _ _).alloc (Nat.le_refl _) _) _⟩
set_option maxHeartbeats 4000000 in
set_option maxRecDepth 100000 in
theorem fwd_b2 (x step N S W : Int) (hx : 0 ≤ x) (hx1 : x ≤ 1000000000000) (hs : 0 ≤ step) (hs1 : step ≤ 1000000000000) (hS : 0 ≤ S) (hS1 : S ≤ 1000000000000) (hW : 0 < W) (hW1 : W ≤ 1000000000000) (c : ¬ x < S) (c1 : ¬ x - step < S) (w : World) : Calls Try.prog 106 #[iv x, iv step, .bool true, .agg #[iv N, iv S, iv W]] w fun e w' => e = .returned (.tuple #[iv (wayM 1 x step true N S W).1, .bool (wayM 1 x step true N S W).2.1, .bool (wayM 1 x step true N S W).2.2]) ∧ Below w.heap.size w w' := by
  have e : wayM 1 x step true N S W = (x - step, true, true) := by
    unfold wayM
    rw [if_pos rfl, if_neg (show ¬ (true = false) by decide), if_neg c, if_neg c1]
  rw [e]
  have d1 : decide (x < S) = false := decide_eq_false c
  have d2 : decide (x - step < S) = false := decide_eq_false c1
  clear e
  go_enter Try.func106, Try.ntmps106
  go_wp2
  go_ret3
  exact ⟨rfl, by first | exact (Below.refl _ _).alloc (Nat.le_refl _) _ | exact bdN ((Below.refl _ _).alloc (Nat.le_refl _) _) _⟩
set_option maxHeartbeats 4000000 in
set_option maxRecDepth 100000 in
theorem fwd_b1 (x step N S W : Int) (hx : 0 ≤ x) (hx1 : x ≤ 1000000000000) (hs : 0 ≤ step) (hs1 : step ≤ 1000000000000) (hS : 0 ≤ S) (hS1 : S ≤ 1000000000000) (hW : 0 < W) (hW1 : W ≤ 1000000000000) (c : ¬ x < S) (c1 : x - step < S) (w : World) : Calls Try.prog 106 #[iv x, iv step, .bool true, .agg #[iv N, iv S, iv W]] w fun e w' => e = .returned (.tuple #[iv (wayM 1 x step true N S W).1, .bool (wayM 1 x step true N S W).2.1, .bool (wayM 1 x step true N S W).2.2]) ∧ Below w.heap.size w w' := by
  have e : wayM 1 x step true N S W = (S + Int.tmod (Int.tmod (x - step - S) W + W) W, true, true) := by
    unfold wayM
    rw [if_pos rfl, if_neg (show ¬ (true = false) by decide), if_neg c, if_pos c1, tmod_fix hW]
  rw [e]
  have d1 : decide (x < S) = false := decide_eq_false c
  have d2 : decide (x - step < S) = true := decide_eq_true c1
  have w0 : ¬ W = 0 := by omega
  have t1 := tmod_rng (a := x - step - S) hW
  have t2 := tmod_rng (a := Int.tmod (x - step - S) W + W) hW
  obtain ⟨u, hu⟩ : ∃ u, Int.tmod (x - step - S) W = u := ⟨_, rfl⟩
  rw [hu] at t1 t2 ⊢
  obtain ⟨v, hv⟩ : ∃ v, Int.tmod (u + W) W = v := ⟨_, rfl⟩
  rw [hv] at t2 ⊢
  have f1 : wrap64 (u + W) = u + W := wrap_in (by omega) (by omega)
  have f2 : wrap64 (S + v) = S + v := wrap_in (by omega) (by omega)
  clear e
  go_enter Try.func106, Try.ntmps106
  go_wp2
  go_quiet (fail)
  go_wp2
  go_ret3
  exact ⟨rfl, by first | exact (Below.refl _ _).alloc (Nat.le_refl _) _ | exact bdN ((Below.refl _ _).alloc (Nat.le_refl _) _) _⟩
set_option maxHeartbeats 4000000 in
set_option maxRecDepth 100000 in
theorem bnc_b0 (x step N S W : Int) (hx : 0 ≤ x) (hx1 : x ≤ 1000000000000) (hs : 0 ≤ step) (hs1 : step ≤ 1000000000000) (hS : 0 ≤ S) (hS1 : S ≤ 1000000000000) (hW : 0 < W) (hW1 : W ≤ 1000000000000) (c : x < S) (w : World) : Calls Try.prog 107 #[iv x, iv step, .bool true, .agg #[iv N, iv S, iv W]] w fun e w' => e = .returned (.tuple #[iv (wayM 2 x step true N S W).1, .bool (wayM 2 x step true N S W).2.1, .bool (wayM 2 x step true N S W).2.2]) ∧ Below w.heap.size w w' := by
  have e : wayM 2 x step true N S W = (x - step, true, decide (step ≤ x)) := by
    unfold wayM
    rw [if_neg (by decide), if_pos rfl, if_pos ⟨rfl, c⟩]
  rw [e]
  have d1 : decide (x < S) = true := decide_eq_true c
  clear e
  go_enter Try.func107, Try.ntmps107
  go_wp2
  go_ret3
  exact ⟨rfl, by first | exact (Below.refl _ _).alloc (Nat.le_refl _) _ | exact bdN ((Below.refl _ _).alloc (Nat.le_refl _) _) _⟩
set_option maxHeartbeats 4000000 in
set_option maxRecDepth 100000 in
theorem bnc_f0 (x step N S W : Int) (hx : 0 ≤ x) (hx1 : x ≤ 1000000000000) (hs : 0 ≤ step) (hs1 : step ≤ 1000000000000) (hS : 0 ≤ S) (hS1 : S ≤ 1000000000000) (hW : 0 < W) (hW1 : W ≤ 1000000000000) (c : x + step < S + W) (w : World) : Calls Try.prog 107 #[iv x, iv step, .bool false, .agg #[iv N, iv S, iv W]] w fun e w' => e = .returned (.tuple #[iv (wayM 2 x step false N S W).1, .bool (wayM 2 x step false N S W).2.1, .bool (wayM 2 x step false N S W).2.2]) ∧ Below w.heap.size w w' := by
  have e : wayM 2 x step false N S W = (x + step, false, true) := by
    rw [way2F]
    unfold g2
    rw [if_pos c]
  rw [e]
  have d1 : decide (x + step < S + W) = true := decide_eq_true c
  clear e
  go_enter Try.func107, Try.ntmps107
  go_wp2
  go_ret3
  exact ⟨rfl, by first | exact (Below.refl _ _).alloc (Nat.le_refl _) _ | exact bdN ((Below.refl _ _).alloc (Nat.le_refl _) _) _⟩
set_option maxHeartbeats 4000000 in
set_option maxRecDepth 100000 in
theorem bnc_f1 (x step N S W : Int) (hx : 0 ≤ x) (hx1 : x ≤ 1000000000000) (hs : 0 ≤ step) (hs1 : step ≤ 1000000000000) (hS : 0 ≤ S) (hS1 : S ≤ 1000000000000) (hW : 0 < W) (hW1 : W ≤ 1000000000000) (c : ¬ x + step < S + W) (c2 : (x + step - S) % (2 * W) < W) (w : World) : Calls Try.prog 107 #[iv x, iv step, .bool false, .agg #[iv N, iv S, iv W]] w fun e w' => e = .returned (.tuple #[iv (wayM 2 x step false N S W).1, .bool (wayM 2 x step false N S W).2.1, .bool (wayM 2 x step false N S W).2.2]) ∧ Below w.heap.size w w' := by
  have e : wayM 2 x step false N S W = (S + (x + step - S) % (2 * W), false, true) := by
    rw [way2F]
    unfold g2
    rw [if_neg c, if_pos c2]
  rw [e]
  obtain ⟨u, hu⟩ : ∃ u, (x + step - S) % (2 * W) = u := ⟨_, rfl⟩
  have m1 := Int.emod_nonneg ((x + step - S)) (show 2 * W ≠ 0 by omega)
  have m2 := Int.emod_lt_of_pos ((x + step - S)) (show 0 < 2 * W by omega)
  rw [hu] at m1 m2 c2 ⊢
  have w0 : ¬ 2 * W = 0 := by omega
  have q0 : 0 ≤ (x + step - S) := by omega
  have f2 : wrap64 (S + u) = S + u := wrap_in (by omega) (by omega)
  have d1 : decide (x + step < S + W) = false := decide_eq_false c
  have d2 : decide (u < W) = true := decide_eq_true c2
  clear e
  go_enter Try.func107, Try.ntmps107
  go_wp2
  go_ret3
  exact ⟨rfl, by first | exact (Below.refl _ _).alloc (Nat.le_refl _) _ | exact bdN ((Below.refl _ _).alloc (Nat.le_refl _) _) _⟩
set_option maxHeartbeats 4000000 in
set_option maxRecDepth 100000 in
theorem bnc_f2 (x step N S W : Int) (hx : 0 ≤ x) (hx1 : x ≤ 1000000000000) (hs : 0 ≤ step) (hs1 : step ≤ 1000000000000) (hS : 0 ≤ S) (hS1 : S ≤ 1000000000000) (hW : 0 < W) (hW1 : W ≤ 1000000000000) (c : ¬ x + step < S + W) (c2 : ¬ (x + step - S) % (2 * W) < W) (w : World) : Calls Try.prog 107 #[iv x, iv step, .bool false, .agg #[iv N, iv S, iv W]] w fun e w' => e = .returned (.tuple #[iv (wayM 2 x step false N S W).1, .bool (wayM 2 x step false N S W).2.1, .bool (wayM 2 x step false N S W).2.2]) ∧ Below w.heap.size w w' := by
  have e : wayM 2 x step false N S W = (S + 2 * W - 1 - (x + step - S) % (2 * W), true, true) := by
    rw [way2F]
    unfold g2
    rw [if_neg c, if_neg c2]
  rw [e]
  obtain ⟨u, hu⟩ : ∃ u, (x + step - S) % (2 * W) = u := ⟨_, rfl⟩
  have m1 := Int.emod_nonneg ((x + step - S)) (show 2 * W ≠ 0 by omega)
  have m2 := Int.emod_lt_of_pos ((x + step - S)) (show 0 < 2 * W by omega)
  rw [hu] at m1 m2 c2 ⊢
  have w0 : ¬ 2 * W = 0 := by omega
  have q0 : 0 ≤ (x + step - S) := by omega
  have f2 : wrap64 (S + u) = S + u := wrap_in (by omega) (by omega)
  have d1 : decide (x + step < S + W) = false := decide_eq_false c
  have d2 : decide (u < W) = false := decide_eq_false c2
  clear e
  go_enter Try.func107, Try.ntmps107
  go_wp2
  go_ret3
  exact ⟨rfl, by first | exact (Below.refl _ _).alloc (Nat.le_refl _) _ | exact bdN ((Below.refl _ _).alloc (Nat.le_refl _) _) _⟩
set_option maxHeartbeats 4000000 in
set_option maxRecDepth 100000 in
theorem bnc_b1a (x step N S W : Int) (hx : 0 ≤ x) (hx1 : x ≤ 1000000000000) (hs : 0 ≤ step) (hs1 : step ≤ 1000000000000) (hS : 0 ≤ S) (hS1 : S ≤ 1000000000000) (hW : 0 < W) (hW1 : W ≤ 1000000000000) (c : ¬ x < S) (cz : x ≤ S + W - 1) (c2 : (2 * W - 1 - (x - S) + step) % (2 * W) < W) (w : World) : Calls Try.prog 107 #[iv x, iv step, .bool true, .agg #[iv N, iv S, iv W]] w fun e w' => e = .returned (.tuple #[iv (wayM 2 x step true N S W).1, .bool (wayM 2 x step true N S W).2.1, .bool (wayM 2 x step true N S W).2.2]) ∧ Below w.heap.size w w' := by
  have e : wayM 2 x step true N S W = (S + (2 * W - 1 - (x - S) + step) % (2 * W), false, true) := by
    unfold wayM
    rw [if_neg (by decide), if_pos rfl, if_neg (fun h => c h.2), if_neg (fun h => absurd h.1 (by decide))]
    simp only [if_true]
    rw [show (if x < S + W - 1 then x else S + W - 1) = x by split <;> omega, if_pos c2]
  rw [e]
  obtain ⟨u, hu⟩ : ∃ u, (2 * W - 1 - (x - S) + step) % (2 * W) = u := ⟨_, rfl⟩
  have m1 := Int.emod_nonneg ((2 * W - 1 - (x - S) + step)) (show 2 * W ≠ 0 by omega)
  have m2 := Int.emod_lt_of_pos ((2 * W - 1 - (x - S) + step)) (show 0 < 2 * W by omega)
  rw [hu] at m1 m2 c2 ⊢
  have w0 : ¬ 2 * W = 0 := by omega
  have q0 : 0 ≤ (2 * W - 1 - (x - S) + step) := by omega
  have f2 : wrap64 (S + u) = S + u := wrap_in (by omega) (by omega)
  have d1 : decide (x < S) = false := decide_eq_false c
  have d2 : decide (u < W) = true := decide_eq_true c2
  have dz : (S + W - 1 < x) = False := eq_false (by omega)
  clear e
  go_enter Try.func107, Try.ntmps107
  go_wp2
  go_ret3
  exact ⟨rfl, by first | exact (Below.refl _ _).alloc (Nat.le_refl _) _ | exact bdN ((Below.refl _ _).alloc (Nat.le_refl _) _) _⟩
set_option maxHeartbeats 4000000 in
set_option maxRecDepth 100000 in
theorem bnc_b1b (x step N S W : Int) (hx : 0 ≤ x) (hx1 : x ≤ 1000000000000) (hs : 0 ≤ step) (hs1 : step ≤ 1000000000000) (hS : 0 ≤ S) (hS1 : S ≤ 1000000000000) (hW : 0 < W) (hW1 : W ≤ 1000000000000) (c : ¬ x < S) (cz : S + W - 1 < x) (c2 : (2 * W - 1 - ((S + W - 1) - S) + step) % (2 * W) < W) (w : World) : Calls Try.prog 107 #[iv x, iv step, .bool true, .agg #[iv N, iv S, iv W]] w fun e w' => e = .returned (.tuple #[iv (wayM 2 x step true N S W).1, .bool (wayM 2 x step true N S W).2.1, .bool (wayM 2 x step true N S W).2.2]) ∧ Below w.heap.size w w' := by
  have e : wayM 2 x step true N S W = (S + (2 * W - 1 - ((S + W - 1) - S) + step) % (2 * W), false, true) := by
    unfold wayM
    rw [if_neg (by decide), if_pos rfl, if_neg (fun h => c h.2), if_neg (fun h => absurd h.1 (by decide))]
    simp only [if_true]
    rw [show (if x < S + W - 1 then x else S + W - 1) = (S + W - 1) by split <;> omega, if_pos c2]
  rw [e]
  obtain ⟨u, hu⟩ : ∃ u, (2 * W - 1 - ((S + W - 1) - S) + step) % (2 * W) = u := ⟨_, rfl⟩
  have m1 := Int.emod_nonneg ((2 * W - 1 - ((S + W - 1) - S) + step)) (show 2 * W ≠ 0 by omega)
  have m2 := Int.emod_lt_of_pos ((2 * W - 1 - ((S + W - 1) - S) + step)) (show 0 < 2 * W by omega)
  rw [hu] at m1 m2 c2 ⊢
  have w0 : ¬ 2 * W = 0 := by omega
  have q0 : 0 ≤ (2 * W - 1 - ((S + W - 1) - S) + step) := by omega
  have f2 : wrap64 (S + u) = S + u := wrap_in (by omega) (by omega)
  have d1 : decide (x < S) = false := decide_eq_false c
  have d2 : decide (u < W) = true := decide_eq_true c2
  have dz : (S + W - 1 < x) = True := eq_true (by omega)
  have fz : wrap64 (S + W - 1 - S) = S + W - 1 - S := wrap_in (by omega) (by omega)
  clear e
  go_enter Try.func107, Try.ntmps107
  go_wp2
  go_ret3
  exact ⟨rfl, by first | exact (Below.refl _ _).alloc (Nat.le_refl _) _ | exact bdN ((Below.refl _ _).alloc (Nat.le_refl _) _) _⟩
set_option maxHeartbeats 4000000 in
set_option maxRecDepth 100000 in
theorem bnc_b2a (x step N S W : Int) (hx : 0 ≤ x) (hx1 : x ≤ 1000000000000) (hs : 0 ≤ step) (hs1 : step ≤ 1000000000000) (hS : 0 ≤ S) (hS1 : S ≤ 1000000000000) (hW : 0 < W) (hW1 : W ≤ 1000000000000) (c : ¬ x < S) (cz : x ≤ S + W - 1) (c2 : ¬ (2 * W - 1 - (x - S) + step) % (2 * W) < W) (w : World) : Calls Try.prog 107 #[iv x, iv step, .bool true, .agg #[iv N, iv S, iv W]] w fun e w' => e = .returned (.tuple #[iv (wayM 2 x step true N S W).1, .bool (wayM 2 x step true N S W).2.1, .bool (wayM 2 x step true N S W).2.2]) ∧ Below w.heap.size w w' := by
  have e : wayM 2 x step true N S W = (S + 2 * W - 1 - (2 * W - 1 - (x - S) + step) % (2 * W), true, true) := by
    unfold wayM
    rw [if_neg (by decide), if_pos rfl, if_neg (fun h => c h.2), if_neg (fun h => absurd h.1 (by decide))]
    simp only [if_true]
    rw [show (if x < S + W - 1 then x else S + W - 1) = x by split <;> omega, if_neg c2]
  rw [e]
  obtain ⟨u, hu⟩ : ∃ u, (2 * W - 1 - (x - S) + step) % (2 * W) = u := ⟨_, rfl⟩
  have m1 := Int.emod_nonneg ((2 * W - 1 - (x - S) + step)) (show 2 * W ≠ 0 by omega)
  have m2 := Int.emod_lt_of_pos ((2 * W - 1 - (x - S) + step)) (show 0 < 2 * W by omega)
  rw [hu] at m1 m2 c2 ⊢
  have w0 : ¬ 2 * W = 0 := by omega
  have q0 : 0 ≤ (2 * W - 1 - (x - S) + step) := by omega
  have f2 : wrap64 (S + u) = S + u := wrap_in (by omega) (by omega)
  have d1 : decide (x < S) = false := decide_eq_false c
  have d2 : decide (u < W) = false := decide_eq_false c2
  have dz : (S + W - 1 < x) = False := eq_false (by omega)
  clear e
  go_enter Try.func107, Try.ntmps107
  go_wp2
  go_ret3
  exact ⟨rfl, by first | exact (Below.refl _ _).alloc (Nat.le_refl _) _ | exact bdN ((Below.refl _ _).alloc (Nat.le_refl _) _) _⟩
set_option maxHeartbeats 4000000 in
set_option maxRecDepth 100000 in
theorem bnc_b2b (x step N S W : Int) (hx : 0 ≤ x) (hx1 : x ≤ 1000000000000) (hs : 0 ≤ step) (hs1 : step ≤ 1000000000000) (hS : 0 ≤ S) (hS1 : S ≤ 1000000000000) (hW : 0 < W) (hW1 : W ≤ 1000000000000) (c : ¬ x < S) (cz : S + W - 1 < x) (c2 : ¬ (2 * W - 1 - ((S + W - 1) - S) + step) % (2 * W) < W) (w : World) : Calls Try.prog 107 #[iv x, iv step, .bool true, .agg #[iv N, iv S, iv W]] w fun e w' => e = .returned (.tuple #[iv (wayM 2 x step true N S W).1, .bool (wayM 2 x step true N S W).2.1, .bool (wayM 2 x step true N S W).2.2]) ∧ Below w.heap.size w w' := by
  have e : wayM 2 x step true N S W = (S + 2 * W - 1 - (2 * W - 1 - ((S + W - 1) - S) + step) % (2 * W), true, true) := by
    unfold wayM
    rw [if_neg (by decide), if_pos rfl, if_neg (fun h => c h.2), if_neg (fun h => absurd h.1 (by decide))]
    simp only [if_true]
    rw [show (if x < S + W - 1 then x else S + W - 1) = (S + W - 1) by split <;> omega, if_neg c2]
  rw [e]
  obtain ⟨u, hu⟩ : ∃ u, (2 * W - 1 - ((S + W - 1) - S) + step) % (2 * W) = u := ⟨_, rfl⟩
  have m1 := Int.emod_nonneg ((2 * W - 1 - ((S + W - 1) - S) + step)) (show 2 * W ≠ 0 by omega)
  have m2 := Int.emod_lt_of_pos ((2 * W - 1 - ((S + W - 1) - S) + step)) (show 0 < 2 * W by omega)
  rw [hu] at m1 m2 c2 ⊢
  have w0 : ¬ 2 * W = 0 := by omega
  have q0 : 0 ≤ (2 * W - 1 - ((S + W - 1) - S) + step) := by omega
  have f2 : wrap64 (S + u) = S + u := wrap_in (by omega) (by omega)
  have d1 : decide (x < S) = false := decide_eq_false c
  have d2 : decide (u < W) = false := decide_eq_false c2
  have dz : (S + W - 1 < x) = True := eq_true (by omega)
  have fz : wrap64 (S + W - 1 - S) = S + W - 1 - S := wrap_in (by omega) (by omega)
  clear e
  go_enter Try.func107, Try.ntmps107
  go_wp2
  go_ret3
  exact ⟨rfl, by first | exact (Below.refl _ _).alloc (Nat.le_refl _) _ | exact bdN ((Below.refl _ _).alloc (Nat.le_refl _) _) _⟩
end Go.Proofs.Ytnmoiolddfboiaa.SX
