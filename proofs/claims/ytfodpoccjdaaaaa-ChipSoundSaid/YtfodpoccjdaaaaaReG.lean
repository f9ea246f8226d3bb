/- What a patch of four operators sounds like, in plain Lean. -/
import Derived.Test.YtfodpoccjdaaaaaTxA
import Derived.Test.YtfodpoccjdaaaaaPureToneTells
namespace Go.Proofs.Ytfodpoccjdaaaaa.CS
open Go.RowKit Go.Proofs.YtfodpoccjdaaaaaW.PrintLast Go.Proofs.Ytfodpoccjdaaaaa.TX
set_option linter.unusedVariables false
set_option linter.unusedSimpArgs false
structure OP where
  mu : Int
  le : Int
  at_ : Int
  de : Int
  su : Int
  re : Int
def OP.Ok (o : OP) : Prop := (0 ≤ o.mu ∧ o.mu ≤ 15) ∧ (0 ≤ o.le ∧ o.le ≤ 127) ∧ (0 ≤ o.at_ ∧ o.at_ ≤ 127) ∧ (0 ≤ o.de ∧ o.de ≤ 127) ∧ (0 ≤ o.su ∧ o.su ≤ 127) ∧ (0 ≤ o.re ∧ o.re ≤ 127)
instance (o : OP) : Decidable o.Ok := by unfold OP.Ok; infer_instance
/-- the sine wave -/
def wv (p : Int) : Int := (PG.tone_sine.f p).getD 0
theorem wv_tab : ∀ p : Nat, p < 64 → (PG.tone_sine.f p).isSome = true ∧ -255 ≤ wv p ∧ wv p ≤ 255 := by decide +kernel
theorem wv_bd {p : Int} (h0 : 0 ≤ p) (h1 : p < 64) : -255 ≤ wv p ∧ wv p ≤ 255 := by
  obtain ⟨n, rfl⟩ := Int.eq_ofNat_of_zero_le h0
  exact (wv_tab n (by omega)).2
theorem wv_f {p : Int} (h0 : 0 ≤ p) (h1 : p < 64) : PG.tone_Wave.f 0 p 0 = some (wv p) ∧ PG.orchestrionref01_Wave.f 9000 0 p 0 = some (wv p) := by
  obtain ⟨n, rfl⟩ := Int.eq_ofNat_of_zero_le h0
  have hs := (wv_tab n (by omega)).1
  obtain ⟨v, hv⟩ := Option.isSome_iff_exists.1 hs
  have e : PG.tone_Wave.f 0 n 0 = some (wv n) := by
    unfold PG.tone_Wave.f
    rw [Pure.and63, if_pos rfl, show (n : Int) % 64 = n by omega, hv]
    unfold wv
    rw [hv]
    rfl
  obtain ⟨u, h2, h3⟩ := Pure.same_wave 0 n 0 (by omega) (by omega)
  rw [e] at h2
  exact ⟨e, by rw [h3, ← h2]⟩
/-- an operator's loudness, its place in the wave, its value -/
def evl (o : OP) (l : Int) : Int := l / 4096 * (127 - o.le) / 127
def posv (ph m : Int) : Int := (ph + 1024 * m) / 65536 % 64
def putV (o : OP) (ph l m : Int) : Int := wv (posv ph m) * 128 * evl o l / 16256
theorem evl_bd {o : OP} (ho : o.Ok) {l : Int} (h0 : 0 ≤ l) (h1 : l ≤ 520192) : 0 ≤ evl o l ∧ evl o l ≤ 127 := by
  obtain ⟨_, h2, _⟩ := ho
  have a0 : 0 ≤ l / 4096 := by omega
  have a1 : l / 4096 ≤ 127 := by omega
  have b0 := Int.mul_nonneg a0 (show 0 ≤ 127 - o.le by omega)
  have b1 : l / 4096 * (127 - o.le) ≤ 127 * 127 := Int.mul_le_mul a1 (by omega) (by omega) (by omega)
  unfold evl
  omega
theorem mul_bd {s e : Int} (h0 : -32640 ≤ s) (h1 : s ≤ 32640) (h2 : 0 ≤ e) (h3 : e ≤ 127) : -4145280 ≤ s * e ∧ s * e ≤ 4145280 := by
  constructor
  · have h := Int.mul_le_mul_of_nonneg_right h0 h2
    have h4 : (-32640 : Int) * 127 ≤ -32640 * e := Int.mul_le_mul_of_nonpos_left (by decide) h3
    omega
  · have h := Int.mul_le_mul_of_nonneg_right h1 h2
    have h4 : (32640 : Int) * e ≤ 32640 * 127 := Int.mul_le_mul_of_nonneg_left h3 (by decide)
    omega
theorem putV_bd {o : OP} (ho : o.Ok) {ph l m : Int} (h0 : 0 ≤ l) (h1 : l ≤ 520192) : -255 ≤ putV o ph l m ∧ putV o ph l m ≤ 255 := by
  have h2 := wv_bd (p := posv ph m) (by unfold posv; omega) (by unfold posv; omega)
  have h3 := evl_bd ho h0 h1
  have h4 := mul_bd (s := wv (posv ph m) * 128) (e := evl o l) (by omega) (by omega) h3.1 h3.2
  unfold putV
  omega
/-- the envelope and the phase after a frame -/
def envL (o : OP) (l : Int) (f on : Bool) : Int := if on = false then max 0 (l - 8 * o.re) else if f = false then min 520192 (l + 64 * o.at_) else max (4096 * o.su) (l - 8 * o.de)
def envF (o : OP) (l : Int) (f on : Bool) : Bool := if on = false then f else if f = false then decide (min 520192 (l + 64 * o.at_) = 520192) else true
def byS (o : OP) (step : Int) : Int := if o.mu = 0 then step / 2 else step * o.mu
def phN (o : OP) (ph step : Int) : Int := (ph + byS o step) % 4194304
theorem envL_bd {o : OP} (ho : o.Ok) {l : Int} (h0 : 0 ≤ l) (h1 : l ≤ 520192) (f on : Bool) : 0 ≤ envL o l f on ∧ envL o l f on ≤ 520192 := by
  unfold OP.Ok at ho
  unfold envL at *
  repeat' split
  all_goals omega
theorem env_keep {o : OP} (ho : o.Ok) {l : Int} (f : Bool) (h : f = true → 4096 * o.su ≤ l) : envF o l f true = true → 4096 * o.su ≤ envL o l f true := by
  unfold OP.Ok at ho
  unfold envF envL
  cases f
  · simp only [if_neg (show ¬ (true = false) by decide), if_pos]
    intro h2
    have := of_decide_eq_true h2
    omega
  · simp only [if_neg (show ¬ (true = false) by decide)]
    intro _
    omega
theorem byS_bd {o : OP} (ho : o.Ok) {step : Int} (h0 : 0 ≤ step) (h1 : step ≤ 300000000) : 0 ≤ byS o step ∧ byS o step ≤ 4500000000 := by
  unfold OP.Ok at ho
  unfold byS
  split
  · omega
  · have h2 := Int.mul_nonneg h0 ho.1.1
    have h3 : step * o.mu ≤ 300000000 * 15 := Int.mul_le_mul h1 ho.1.2 ho.1.1 (by decide)
    omega
def bitB (b : Int) (j : Nat) : Bool := b / 2 ^ j % 2 == 1
/-- the sum of the values whose bits are set -/
def smK (F : Nat → Int) (b : Int) : Nat → Int
  | 0 => 0
  | j + 1 => smK F b j + if bitB b j = true then F j else 0
theorem smK_bd {F : Nat → Int} (b : Int) {n : Nat} (h : ∀ j, j < n → -255 ≤ F j ∧ F j ≤ 255) : ∀ j, j ≤ n → -255 * (j : Int) ≤ smK F b j ∧ smK F b j ≤ 255 * (j : Int)
  | 0, _ => by simp [smK]
  | j + 1, hj => by
    have h1 := smK_bd b h j (by omega)
    have h2 := h j (by omega)
    show -255 * ((j + 1 : Nat) : Int) ≤ smK F b j + _ ∧ smK F b j + _ ≤ _
    split <;> omega
theorem smK_congr {F G : Nat → Int} (b : Int) : ∀ n, (∀ j, j < n → F j = G j) → smK F b n = smK G b n
  | 0, _ => rfl
  | n + 1, h => by
    show smK F b n + _ = smK G b n + _
    rw [smK_congr b n (fun j hj => h j (by omega)), h n (by omega)]
theorem smK_zero {F : Nat → Int} (b : Int) (i : Nat) : ∀ d, (∀ j, i ≤ j → j < i + d → F j = 0) → smK F b (i + d) = smK F b i
  | 0, _ => rfl
  | d + 1, h => by
    show smK F b (i + d) + (if bitB b (i + d) = true then F (i + d) else 0) = _
    rw [smK_zero b i d (fun j h1 h2 => h j h1 (by omega)), h (i + d) (by omega) (by omega)]
    split <;> omega
structure PT where
  al : Nat
  fb : Int
  o : Nat → OP
/-- how the operators modulate each other, and which are out -/
def byT (a i : Nat) : Int := ([[0, 1, 2, 4], [0, 0, 3, 4], [0, 0, 2, 5], [0, 1, 0, 6], [0, 1, 0, 4], [0, 1, 1, 1], [0, 1, 0, 0], [0, 0, 0, 0]].getD a []).getD i 0
def outT (a : Nat) : Int := [8, 8, 8, 8, 10, 14, 14, 15].getD a 0
/-- what sounds: levels, phases, whether they were at the top, the last values, the first one's value before -/
structure ST where
  l : Nat → Int
  ph : Nat → Int
  f : Nat → Bool
  y : Nat → Int
  bf : Int
def ST.zero : ST := ⟨fun _ => 0, fun _ => 0, fun _ => false, fun _ => 0, 0⟩
def modI (p : PT) (s : ST) (i : Nat) (F : Nat → Int) : Int := if i = 0 then (s.y 0 + s.bf) * p.fb / 16 else smK F (byT p.al i) i
def vals (p : PT) (s : ST) : Nat → Nat → Int
  | 0 => fun _ => 0
  | i + 1 => fun j => if j = i then putV (p.o i) (s.ph i) (s.l i) (modI p s i (vals p s i)) else vals p s i j
def stepS (p : PT) (step : Int) (on : Bool) (s : ST) : ST := ⟨fun i => envL (p.o i) (s.l i) (s.f i) on, fun i => phN (p.o i) (s.ph i) step, fun i => envF (p.o i) (s.l i) (s.f i) on, vals p s 4, s.y 0⟩
def stS (p : PT) (step on : Int) : Nat → ST
  | 0 => ST.zero
  | k + 1 => stepS p step (decide ((k : Int) < on)) (stS p step on k)
/-- frame k -/
def frameS (p : PT) (step on : Int) (k : Nat) : Int := smK (vals p (stS p step on k) 4) (outT p.al) 4
theorem vals_late (p : PT) (s : ST) : ∀ i j, i ≤ j → vals p s i j = 0
  | 0, _, _ => rfl
  | i + 1, j, h => by
    show (if j = i then _ else vals p s i j) = 0
    rw [if_neg (by omega)]
    exact vals_late p s i j (by omega)
theorem vals_old (p : PT) (s : ST) (i : Nat) : ∀ d j, j < i → vals p s (i + d) j = vals p s i j
  | 0, _, _ => rfl
  | d + 1, j, h => by
    show (if j = i + d then _ else vals p s (i + d) j) = _
    rw [if_neg (by omega)]
    exact vals_old p s i d j h
structure ST.Ok (s : ST) : Prop where
  l0 : ∀ i, 0 ≤ s.l i ∧ s.l i ≤ 520192
  p0 : ∀ i, 0 ≤ s.ph i ∧ s.ph i < 4194304
  y0 : ∀ i, -255 ≤ s.y i ∧ s.y i ≤ 255
  b0 : -255 ≤ s.bf ∧ s.bf ≤ 255
theorem vals_bd {p : PT} {s : ST} (hp : ∀ i, i < 4 → (p.o i).Ok) (hs : s.Ok) : ∀ i, i ≤ 4 → ∀ j, -255 ≤ vals p s i j ∧ vals p s i j ≤ 255
  | 0, _, _ => by
    show (-255 : Int) ≤ 0 ∧ (0 : Int) ≤ 255
    omega
  | i + 1, h, j => by
    show -255 ≤ (if j = i then _ else vals p s i j) ∧ (if j = i then _ else vals p s i j) ≤ 255
    split
    · exact putV_bd (hp i (by omega)) (hs.l0 i).1 (hs.l0 i).2
    · exact vals_bd hp hs i (by omega) j
theorem PT_all {p : PT} (hp : ∀ i, i < 4 → (p.o i).Ok) (hq : ∀ i, 4 ≤ i → p.o i = p.o 3) : ∀ i, (p.o i).Ok := fun i => by
  by_cases h : i < 4
  · exact hp i h
  · rw [hq i (by omega)]
    exact hp 3 (by omega)
theorem stS_ok {p : PT} (hp : ∀ i, (p.o i).Ok) (step on : Int) : ∀ k, (stS p step on k).Ok
  | 0 => ⟨fun _ => (show (0 : Int) ≤ 0 ∧ (0 : Int) ≤ 520192 by decide), fun _ => (show (0 : Int) ≤ 0 ∧ (0 : Int) < 4194304 by decide), fun _ => (show (-255 : Int) ≤ 0 ∧ (0 : Int) ≤ 255 by decide), (show (-255 : Int) ≤ 0 ∧ (0 : Int) ≤ 255 by decide)⟩
  | k + 1 => by
    have h := stS_ok hp step on k
    refine ⟨fun i => envL_bd (hp i) (h.l0 i).1 (h.l0 i).2 _ _, fun i => ?_, fun i => vals_bd (fun j _ => hp j) h 4 (Nat.le_refl _) i, h.y0 0⟩
    show 0 ≤ phN _ _ _ ∧ phN _ _ _ < _
    unfold phN
    omega
/-- while the key is held, an operator that was at the top is not below its sustain -/
theorem stS_keep {p : PT} (hp : ∀ i, (p.o i).Ok) (step on : Int) : ∀ k : Nat, (k : Int) ≤ on → ∀ i, (stS p step on k).f i = true → 4096 * (p.o i).su ≤ (stS p step on k).l i
  | 0, _, i => fun h => absurd (show false = true from h) (by decide)
  | k + 1, hk, i => by
    have h := stS_keep hp step on k (by omega) i
    have hd : decide ((k : Int) < on) = true := decide_eq_true (by omega)
    show envF _ _ _ (decide ((k : Int) < on)) = true → 4096 * (p.o i).su ≤ envL _ _ _ (decide ((k : Int) < on))
    rw [hd]
    exact env_keep (hp i) _ h
end Go.Proofs.Ytfodpoccjdaaaaa.CS
