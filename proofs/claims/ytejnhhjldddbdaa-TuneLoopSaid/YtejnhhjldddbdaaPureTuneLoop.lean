/- What the law on the loop that is found leaves to show beside its walk: both searches find the one best pair. No condition. -/
import Derived.Test.YtejnhhjldddbdaaPureLib
import Derived.Test.YtejnhhjldddbdaaPGxf6
import Derived.OpenShut
namespace Go.Proofs.Ytejnhhjldddbdaa.Pure
open Go.RowKit Go.ChangeShapes Go.Proofs.Ytejnhhjldddbdaa.PG Go.Proofs.YtejnhhjldddbdaaW.PrintWords Go.Proofs.YtejnhhjldddbdaaW.PrintLast Go.Proofs.YtejnhhjldddbdaaW.PrintMore
theorem in_eq (a b c : Int) : tune_in.f a b c = some (decide (b ≤ a ∧ a ≤ c)) := by
  unfold tune_in.f
  by_cases h : b ≤ a
  · rw [if_pos h]; simp [h]
  · rw [if_neg h]; simp [h]
theorem ref_in_eq (a b c : Int) : orchestrionref25_in.f a b c = some (decide (b ≤ a ∧ a ≤ c)) := by
  unfold orchestrionref25_in.f
  by_cases h : b ≤ a
  · rw [if_pos h]; simp [h]
  · rw [if_neg h]; simp [h]
/-! the best of the pairs seen -/
def Al (m N a b : Int) : Prop := 0 ≤ a ∧ a + m ≤ b ∧ b ≤ N
instance (m N a b : Int) : Decidable (Al m N a b) := by unfold Al; infer_instance
def Bst (D : Int → Int → Int) (V : Int → Int → Prop) (f : Prop) (a b d : Int) : Prop :=
  (¬ f → ∀ a' b', ¬ V a' b') ∧ (f → V a b ∧ d = D a b ∧ ∀ a' b', V a' b' → d < D a' b' ∨ (d = D a' b' ∧ (b' < b ∨ (b' = b ∧ a' ≤ a))))
section
variable {D : Int → Int → Int} {V V' : Int → Int → Prop} {f g : Prop} {a b d p q : Int}
theorem Bst.set (h : Bst D V f a b d) (hV : ∀ a' b', V' a' b' ↔ V a' b' ∨ (a' = p ∧ b' = q)) (hg : g) (c : ¬ f ∨ D p q < d ∨ (D p q = d ∧ (b < q ∨ (b = q ∧ a < p)))) : Bst D V' g p q (D p q) := by
  refine ⟨fun n => absurd hg n, fun _ => ⟨(hV p q).2 (.inr ⟨rfl, rfl⟩), rfl, fun a' b' hv => ?_⟩⟩
  rcases (hV a' b').1 hv with hv | ⟨rfl, rfl⟩
  · by_cases hf : f
    · obtain ⟨_, _, h3⟩ := h.2 hf
      have := h3 a' b' hv
      rcases c with c | c | c
      · exact absurd hf c
      · omega
      · omega
    · exact absurd hv (h.1 hf a' b')
  · omega
theorem Bst.keep (h : Bst D V f a b d) (hV : ∀ a' b', V' a' b' ↔ V a' b' ∨ (a' = p ∧ b' = q)) (hf : f) (c : ¬ (D p q < d ∨ (D p q = d ∧ (b < q ∨ (b = q ∧ a < p))))) : Bst D V' f a b d := by
  obtain ⟨h1, h2, h3⟩ := h.2 hf
  refine ⟨fun n => absurd hf n, fun _ => ⟨(hV a b).2 (.inl h1), h2, fun a' b' hv => ?_⟩⟩
  rcases (hV a' b').1 hv with hv | ⟨rfl, rfl⟩
  · exact h3 a' b' hv
  · omega
theorem Bst.same (h : Bst D V f a b d) (hV : ∀ a' b', V' a' b' ↔ V a' b') : Bst D V' f a b d :=
  ⟨fun n a' b' hv => h.1 n a' b' ((hV a' b').1 hv), fun hf => ⟨(hV a b).2 (h.2 hf).1, (h.2 hf).2.1, fun a' b' hv => (h.2 hf).2.2 a' b' ((hV a' b').1 hv)⟩⟩
theorem Bst.uniq {a1 b1 d1 : Int} (h : Bst D V f a b d) (h' : Bst D V g a1 b1 d1) : (f ↔ g) ∧ (f → a = a1 ∧ b = b1 ∧ d = d1) := by
  have e : f ↔ g := by
    constructor
    · intro hf
      by_cases hg : g
      · exact hg
      · exact absurd (h.2 hf).1 (h'.1 hg a b)
    · intro hg
      by_cases hf : f
      · exact hf
      · exact absurd (h'.2 hg).1 (h.1 hf a1 b1)
  refine ⟨e, fun hf => ?_⟩
  obtain ⟨v, e1, m1⟩ := h.2 hf
  obtain ⟨v', e2, m2⟩ := h'.2 (e.1 hf)
  have := m1 a1 b1 v'
  have := m2 a b v
  omega
end
/-! differences -/
def Lo (l : List Int) : Prop := ∀ i : Int, -32768 ≤ rd l i ∧ rd l i ≤ 32767
def dst (x y : Int) : Int := if x - y < y - x then y - x else x - y
def S (l : List Int) (a b : Int) : Nat → Int
  | 0 => 0
  | j + 1 => S l a b j + dst (rd l (a + j)) (rd l (b + j))
theorem dst_range {l : List Int} (h : Lo l) (i j : Int) : 0 ≤ dst (rd l i) (rd l j) ∧ dst (rd l i) (rd l j) ≤ 65535 := by
  have := h i
  have := h j
  unfold dst
  split <;> omega
theorem S_range {l : List Int} (h : Lo l) (a b : Int) : ∀ j : Nat, 0 ≤ S l a b j ∧ S l a b j ≤ 65535 * j
  | 0 => ⟨by simp [S], by simp [S]⟩
  | j + 1 => by
    have := S_range h a b j
    have := dst_range h (a + j) (b + j)
    simp only [S]
    omega
theorem S_mono {l : List Int} (h : Lo l) (a b : Int) (i : Nat) : ∀ e : Nat, S l a b i ≤ S l a b (i + e)
  | 0 => Int.le_refl _
  | e + 1 => by
    have := S_mono h a b i e
    have := dst_range h (a + (i + e : Nat)) (b + (i + e : Nat))
    show S l a b i ≤ S l a b (i + e) + dst (rd l (a + (i + e : Nat))) (rd l (b + (i + e : Nat)))
    omega
theorem tdist {x y : Int} (hx : -32768 ≤ x ∧ x ≤ 32767) (hy : -32768 ≤ y ∧ y ≤ 32767) : tune_distance.f x y = some (dst x y) := by
  unfold tune_distance.f dst mx
  rw [w64 (by omega) (by omega), w64 (by omega) (by omega)]
theorem rabs {x y : Int} (hx : -32768 ≤ x ∧ x ≤ 32767) (hy : -32768 ≤ y ∧ y ≤ 32767) : orchestrionref25_abs.f (wrap64 (x - y)) = some (dst x y) := by
  unfold orchestrionref25_abs.f dst mx
  rw [w64 (x := x - y) (by omega) (by omega), w64 (by omega) (by omega), show -(x - y) = y - x by omega]
theorem diff_loop (nm : ByteArray) (l : List Int) (a2 a3 a4 a5 a6 a7 a8 a9 a10 a11 a12 : Int) (hl : Lo l) (w : Nat) (hw : w ≤ 256) (a b : Int) (ha : 0 ≤ a) (hb : 0 ≤ b) (ha1 : a + w ≤ l.length) (hb1 : b + w ≤ l.length) (hn : l.length ≤ 5000) : ∀ (d i k : Nat), i + d = w → d + 1 ≤ k → orchestrionref25_Difference.l0 k w a b (S l a b i) i nm l a2 a3 a4 a5 a6 a7 a8 a9 a10 a11 a12 = some (S l a b w) := by
  intro d
  induction d with
  | zero =>
    intro i k hq hk
    obtain ⟨k, rfl⟩ : ∃ q, k = q + 1 := ⟨k - 1, by omega⟩
    obtain rfl : i = w := by omega
    unfold orchestrionref25_Difference.l0
    rw [if_neg (by omega)]
  | succ d ih =>
    intro i k hq hk
    obtain ⟨k, rfl⟩ : ∃ q, k = q + 1 := ⟨k - 1, by omega⟩
    have h1 := S_range hl a b i
    have h2 := dst_range hl (a + i) (b + i)
    unfold orchestrionref25_Difference.l0
    rw [if_pos (by omega), w64 (x := a + i) (by omega) (by omega), w64 (x := b + i) (by omega) (by omega), if_pos (by omega), if_pos (by omega), if_pos (by omega), if_pos (by omega), rabs (hl _) (hl _), Option.bind_some, w64 (x := (i : Int) + 1) (by omega) (by omega), w64 (by omega) (by omega)]
    exact ih (i + 1) k (by omega) (by omega)
theorem diff_eq (nm : ByteArray) (l : List Int) (a2 a3 a4 a5 a6 a7 a8 a9 a10 a11 a12 : Int) (hl : Lo l) (w : Nat) (hw : w ≤ 256) (a b : Int) (ha : 0 ≤ a) (hb : 0 ≤ b) (ha1 : a + w ≤ l.length) (hb1 : b + w ≤ l.length) (hn : l.length ≤ 5000) {k : Nat} (hk : 300 ≤ k) : orchestrionref25_Difference.f k nm l a2 a3 a4 a5 a6 a7 a8 a9 a10 a11 a12 w a b = some (S l a b w) := by
  unfold orchestrionref25_Difference.f
  exact diff_loop nm l a2 a3 a4 a5 a6 a7 a8 a9 a10 a11 a12 hl w hw a b ha hb ha1 hb1 hn w 0 k (by omega) (by omega)
theorem rd_win (l : List Int) (a e : Int) (w i : Nat) (ha : 0 ≤ a) (he : e = a + w) (hi : i < w) : rd ((l.take e.toNat).drop a.toNat) i = rd l (a + i) := by
  unfold rd
  rw [List.getD_eq_getElem?_getD, List.getD_eq_getElem?_getD, List.getElem?_drop, List.getElem?_take_of_lt (by omega)]
  congr 2
  omega
theorem apart_loop (l : List Int) (hl : Lo l) (w : Nat) (hw : w ≤ 256) (a b : Int) (wa wb : List Int) (ea : wa.length = w) (eb : wb.length = w) (ra : ∀ i : Nat, i < w → rd wa i = rd l (a + i)) (rb : ∀ i : Nat, i < w → rd wb i = rd l (b + i)) (x2 : Int) : ∀ (d i k : Nat), i + d = w → d + 1 ≤ k → ∃ v, tune_apart.l0 k wb x2 (S l a b i) wa w i = some v ∧ 0 ≤ v ∧ (x2 < 0 → v = S l a b w) ∧ (S l a b w ≤ x2 → v = S l a b w) ∧ (x2 < S l a b w → x2 < v) := by
  intro d
  induction d with
  | zero =>
    intro i k hq hk
    obtain ⟨k, rfl⟩ : ∃ q, k = q + 1 := ⟨k - 1, by omega⟩
    obtain rfl : i = w := by omega
    unfold tune_apart.l0
    rw [if_neg (by omega)]
    exact ⟨_, rfl, (S_range hl a b i).1, fun _ => rfl, fun _ => rfl, fun h => h⟩
  | succ d ih =>
    intro i k hq hk
    obtain ⟨k, rfl⟩ : ∃ q, k = q + 1 := ⟨k - 1, by omega⟩
    have h1 := S_range hl a b i
    have h2 := dst_range hl (a + i) (b + i)
    have h3 := S_mono hl a b (i + 1) d
    rw [show i + 1 + d = w by omega] at h3
    have h4 : S l a b (i + 1) = S l a b i + dst (rd l (a + i)) (rd l (b + i)) := rfl
    unfold tune_apart.l0
    rw [if_pos (by omega), if_pos (by omega), if_pos (by omega), if_pos (by omega), ra i (by omega), rb i (by omega), tdist (hl _) (hl _), Option.bind_some, w64 (x := (i : Int) + 1) (by omega) (by omega), w64 (by omega) (by omega), ← h4]
    have h5 := ih (i + 1) k (by omega) (by omega)
    split
    · split
      · exact ⟨_, rfl, by omega, by omega, by omega, by omega⟩
      · exact h5
    · exact h5
theorem apart_eq (l : List Int) (hl : Lo l) (w : Nat) (hw : w ≤ 256) (a b : Int) (ha : 0 ≤ a) (hb : 0 ≤ b) (ha1 : a + w ≤ l.length) (hb1 : b + w ≤ l.length) (x2 : Int) {k : Nat} (hk : 300 ≤ k) : ∃ v, tune_apart.f k ((l.take (a + w).toNat).drop a.toNat) ((l.take (b + w).toNat).drop b.toNat) x2 = some v ∧ 0 ≤ v ∧ (x2 < 0 → v = S l a b w) ∧ (S l a b w ≤ x2 → v = S l a b w) ∧ (x2 < S l a b w → x2 < v) := by
  have ea : ((l.take (a + w).toNat).drop a.toNat).length = w := by rw [List.length_drop, List.length_take]; omega
  have eb : ((l.take (b + w).toNat).drop b.toNat).length = w := by rw [List.length_drop, List.length_take]; omega
  unfold tune_apart.f
  rw [ea]
  exact apart_loop l hl w hw a b _ _ ea eb (fun i hi => rd_win l a _ w i ha rfl hi) (fun i hi => rd_win l b _ w i hb rfl hi) x2 w 0 k (by omega) (by omega)
def Fin4 (l : List Int) (w : Nat) (m : Int) (r : Int × Int × Int × Int) : Prop := ∃ (f : Prop) (a b d : Int), Bst (fun a b => S l a b w) (Al m (l.length - w)) f a b d ∧ (f → r = (a, b, d, 0)) ∧ (¬ f → r = (0, 0, 0, 7))
theorem Fin4.uniq {l : List Int} {w : Nat} {m : Int} {r r' : Int × Int × Int × Int} (h : Fin4 l w m r) (h' : Fin4 l w m r') : r = r' := by
  obtain ⟨f, a, b, d, hB, h1, h2⟩ := h
  obtain ⟨g, a', b', d', hB', h3, h4⟩ := h'
  obtain ⟨e, hu⟩ := hB.uniq hB'
  by_cases hf : f
  · obtain ⟨rfl, rfl, rfl⟩ := hu hf
    rw [h1 hf, h3 (e.1 hf)]
  · rw [h2 hf, h4 (fun hg => hf (e.2 hg))]
def V1 (m N a b : Int) (a' b' : Int) : Prop := Al m N a' b' ∧ (a' < a ∨ (a' = a ∧ b' < b))
theorem p_l1 (nm : ByteArray) (l : List Int) (a2 a3 a4 a5 a6 a7 a8 a9 a10 a11 a12 : Int) (hl : Lo l) (hn : l.length ≤ 300) (w : Nat) (hw0 : 1 ≤ w) (hw : w ≤ 256) (m : Int) (hm : 1 ≤ m) (hm1 : m ≤ 4096) (a : Int) (ha : 0 ≤ a) (han : a + m + w ≤ l.length) (kc : Nat) (hkc : 300 ≤ kc)
    (cont : ∀ (k : Nat) (y6 y7 y11 : Int), kc ≤ k → Bst (fun a b => S l a b w) (V1 m (l.length - w) (a + 1) 0) (0 ≤ y11) y6 y7 y11 → ∃ r, tune_FindLoop.l0 k w m y6 y7 1 y11 (a + 1) nm l a2 a3 a4 a5 a6 a7 a8 a9 a10 a11 a12 = some r ∧ Fin4 l w m r) :
    ∀ (e : Nat) (b : Int) (k : Nat) (x6 x7 x11 : Int), b + e = (l.length : Int) - w + 1 → a + m ≤ b → e + 1 + kc ≤ k → Bst (fun a b => S l a b w) (V1 m (l.length - w) a b) (0 ≤ x11) x6 x7 x11 → ∃ r, tune_FindLoop.l1 k w m x6 x7 1 x11 a b nm l a2 a3 a4 a5 a6 a7 a8 a9 a10 a11 a12 = some r ∧ Fin4 l w m r := by
  intro e
  induction e with
  | zero =>
    intro b k x6 x7 x11 hb hab hk hB
    obtain ⟨k, rfl⟩ : ∃ q, k = q + 1 := ⟨k - 1, by omega⟩
    unfold tune_FindLoop.l1
    rw [w64 (x := (l.length : Int) - w) (by omega) (by omega), if_neg (by omega), w64 (by omega) (by omega)]
    refine cont k x6 x7 x11 (by omega) (hB.same fun a' b' => ?_)
    unfold V1 Al
    omega
  | succ e ih =>
    intro b k x6 x7 x11 hb hab hk hB
    obtain ⟨k, rfl⟩ : ∃ q, k = q + 1 := ⟨k - 1, by omega⟩
    obtain ⟨v, hv, hv0, q1, q2, q3⟩ := apart_eq l hl w hw a b ha (by omega) (by omega) (by omega) x11 (k := k) (by omega)
    unfold tune_FindLoop.l1
    rw [w64 (x := (l.length : Int) - w) (by omega) (by omega), w64 (x := a + w) (by omega) (by omega), w64 (x := b + w) (by omega) (by omega), w64 (x := b + 1) (by omega) (by omega), if_pos (by omega), if_pos (by omega), if_pos (by omega), if_pos (by omega), if_pos (by omega), if_pos (by omega), if_pos (by omega), hv, Option.bind_some]
    have hV : ∀ a' b', V1 m (l.length - w) a (b + 1) a' b' ↔ V1 m (l.length - w) a b a' b' ∨ (a' = a ∧ b' = b) := by
      intro a' b'
      unfold V1 Al
      omega
    have hset : v = S l a b w → (¬ 0 ≤ x11 ∨ v < x11 ∨ (v = x11 ∧ (x7 < b ∨ (x7 = b ∧ x6 < a)))) → ∃ r, tune_FindLoop.l1 k w m a b 1 v a (b + 1) nm l a2 a3 a4 a5 a6 a7 a8 a9 a10 a11 a12 = some r ∧ Fin4 l w m r := by
      intro ev c
      subst ev
      exact ih (b + 1) k a b _ (by omega) (by omega) (by omega) (hB.set hV hv0 c)
    have hkeep : 0 ≤ x11 → ¬ (S l a b w < x11 ∨ (S l a b w = x11 ∧ (x7 < b ∨ (x7 = b ∧ x6 < a)))) → ∃ r, tune_FindLoop.l1 k w m x6 x7 1 x11 a (b + 1) nm l a2 a3 a4 a5 a6 a7 a8 a9 a10 a11 a12 = some r ∧ Fin4 l w m r := by
      intro hf c
      exact ih (b + 1) k x6 x7 x11 (by omega) (by omega) (by omega) (hB.keep hV hf c)
    by_cases c1 : x11 < 0
    · rw [if_pos c1]; exact hset (q1 c1) (.inl (by omega))
    · rw [if_neg c1]
      have ev : v ≤ x11 → v = S l a b w := fun h => q2 (by omega)
      by_cases c2 : v < x11
      · rw [if_pos c2]; exact hset (ev (by omega)) (.inr (.inl c2))
      · rw [if_neg c2]
        by_cases c3 : v = x11
        · rw [if_pos c3]
          have ev := ev (by omega)
          by_cases c4 : b > x7
          · rw [if_pos c4]; exact hset ev (.inr (.inr ⟨c3, by omega⟩))
          · rw [if_neg c4]
            by_cases c5 : b = x7
            · rw [if_pos c5]
              by_cases c6 : a > x6
              · rw [if_pos c6]; exact hset ev (.inr (.inr ⟨c3, by omega⟩))
              · rw [if_neg c6]; exact hkeep (by omega) (by omega)
            · rw [if_neg c5]; exact hkeep (by omega) (by omega)
        · rw [if_neg c3]
          have : x11 < S l a b w := by
            by_cases h : S l a b w ≤ x11
            · have := q2 h; omega
            · omega
          exact hkeep (by omega) (by omega)
theorem p_l0 (nm : ByteArray) (l : List Int) (a2 a3 a4 a5 a6 a7 a8 a9 a10 a11 a12 : Int) (hl : Lo l) (hn : l.length ≤ 300) (w : Nat) (hw0 : 1 ≤ w) (hw : w ≤ 256) (m : Int) (hm : 1 ≤ m) (hm1 : m ≤ 4096) : ∀ (e : Nat) (a : Int) (k : Nat) (x6 x7 x11 : Int), 0 ≤ a → a ≤ 400 → (l.length : Int) ≤ a + e → 310 * e + 310 ≤ k → Bst (fun a b => S l a b w) (V1 m (l.length - w) a 0) (0 ≤ x11) x6 x7 x11 → ∃ r, tune_FindLoop.l0 k w m x6 x7 1 x11 a nm l a2 a3 a4 a5 a6 a7 a8 a9 a10 a11 a12 = some r ∧ Fin4 l w m r := by
  intro e
  induction e with
  | zero =>
    intro a k x6 x7 x11 ha ha4 he hk hB
    obtain ⟨k, rfl⟩ : ∃ q, k = q + 1 := ⟨k - 1, by omega⟩
    unfold tune_FindLoop.l0
    rw [w64 (x := (l.length : Int) - w) (by omega) (by omega), w64 (x := a + m) (by omega) (by omega), if_neg (by omega)]
    have hB' : Bst (fun a b => S l a b w) (Al m (l.length - w)) (0 ≤ x11) x6 x7 x11 := hB.same fun a' b' => by unfold V1 Al; omega
    by_cases c : x11 < 0
    · rw [if_pos c]; exact ⟨_, rfl, _, x6, x7, x11, hB', fun h => by omega, fun _ => rfl⟩
    · rw [if_neg c]; exact ⟨_, rfl, _, x6, x7, x11, hB', fun _ => rfl, fun h => by omega⟩
  | succ e ih =>
    intro a k x6 x7 x11 ha ha4 he hk hB
    obtain ⟨k, rfl⟩ : ∃ q, k = q + 1 := ⟨k - 1, by omega⟩
    unfold tune_FindLoop.l0
    rw [w64 (x := (l.length : Int) - w) (by omega) (by omega), w64 (x := a + m) (by omega) (by omega)]
    by_cases c0 : a + m ≤ (l.length : Int) - w
    · rw [if_pos c0, if_neg (by decide), w64 (x := a + m + 1) (by omega) (by omega), w64 (x := a + m + 1 - 1) (by omega) (by omega), Int.tdiv_one, w64 (x := a + m + 1 - 1) (by omega) (by omega), Int.mul_one, w64 (by omega) (by omega), show a + m + 1 - 1 = a + m by omega]
      obtain ⟨kc, hkc⟩ : ∃ kc, kc = 310 * e + 310 := ⟨_, rfl⟩
      have hB2 : Bst (fun a b => S l a b w) (V1 m (l.length - w) a (a + m)) (0 ≤ x11) x6 x7 x11 := hB.same fun a' b' => by unfold V1 Al; omega
      exact p_l1 nm l a2 a3 a4 a5 a6 a7 a8 a9 a10 a11 a12 hl hn w hw0 hw m hm hm1 a ha (by omega) kc (by omega) (fun k y6 y7 y11 hk hB => ih (a + 1) k y6 y7 y11 (by omega) (by omega) (by omega) (by omega) hB) ((l.length : Int) - w + 1 - (a + m)).toNat (a + m) k x6 x7 x11 (by omega) (by omega) (by omega) hB2
    · rw [if_neg c0]
      have hB' : Bst (fun a b => S l a b w) (Al m (l.length - w)) (0 ≤ x11) x6 x7 x11 := hB.same fun a' b' => by unfold V1 Al; omega
      by_cases c : x11 < 0
      · rw [if_pos c]; exact ⟨_, rfl, _, x6, x7, x11, hB', fun h => by omega, fun _ => rfl⟩
      · rw [if_neg c]; exact ⟨_, rfl, _, x6, x7, x11, hB', fun _ => rfl, fun h => by omega⟩
/-! the reference -/
theorem allowed_eq (nm : ByteArray) (l : List Int) (a2 a3 a4 a5 a6 a7 a8 a9 a10 a11 a12 : Int) (hn : l.length ≤ 300) (w : Nat) (hw : w ≤ 256) (m a b : Int) (hm : 1 ≤ m) (ha : -1 ≤ a) (ha1 : a ≤ 300) (hb : 0 ≤ b) (hb1 : b ≤ 300) : orchestrionref25_Allowed.f nm l a2 a3 a4 a5 a6 a7 a8 a9 a10 a11 a12 w m a b = some (decide (Al m (l.length - w) a b)) := by
  unfold orchestrionref25_Allowed.f
  rw [w64 (x := (l.length : Int) - w) (by omega) (by omega), w64 (x := b - a) (by omega) (by omega), if_pos (show (l.length : Int) ≤ 512 by omega)]
  repeat' split
  all_goals (congr 1; symm; simp only [decide_eq_true_eq, decide_eq_false_iff_not]; unfold Al; omega)
def V2 (m N b a : Int) (a' b' : Int) : Prop := Al m N a' b' ∧ (b < b' ∨ (b' = b ∧ a < a'))
theorem rf_l1 (nm : ByteArray) (l : List Int) (a2 a3 a4 a5 a6 a7 a8 a9 a10 a11 a12 : Int) (hl : Lo l) (hn : l.length ≤ 300) (w : Nat) (hw0 : 1 ≤ w) (hw : w ≤ 256) (m : Int) (hm : 1 ≤ m) (hm1 : m ≤ 4096) (b : Int) (hb : 0 < b) (hbn : b + w ≤ l.length) (kc : Nat) (hkc : 300 ≤ kc)
    (cont : ∀ (k : Nat) (y6 y7 y8 : Int) (y10 : Bool), kc ≤ k → Bst (fun a b => S l a b w) (V2 m (l.length - w) (b - 1) (b - 1)) (y10 = true) y6 y7 y8 → ∃ r, orchestrionref25_FindLoop.l0 k w m y6 y7 y8 y10 (b - 1) nm l a2 a3 a4 a5 a6 a7 a8 a9 a10 a11 a12 = some r ∧ Fin4 l w m r) :
    ∀ (e : Nat) (a : Int) (k : Nat) (x6 x7 x8 : Int) (x10 : Bool), a + 1 = e → a < b → e + 1 + kc ≤ k → Bst (fun a b => S l a b w) (V2 m (l.length - w) b a) (x10 = true) x6 x7 x8 → ∃ r, orchestrionref25_FindLoop.l1 k w m x6 x7 x8 x10 b a nm l a2 a3 a4 a5 a6 a7 a8 a9 a10 a11 a12 = some r ∧ Fin4 l w m r := by
  intro e
  induction e with
  | zero =>
    intro a k x6 x7 x8 x10 he hab hk hB
    obtain ⟨k, rfl⟩ : ∃ q, k = q + 1 := ⟨k - 1, by omega⟩
    unfold orchestrionref25_FindLoop.l1
    rw [if_neg (by omega), w64 (by omega) (by omega)]
    refine cont k x6 x7 x8 x10 (by omega) (hB.same fun a' b' => ?_)
    unfold V2 Al
    omega
  | succ e ih =>
    intro a k x6 x7 x8 x10 he hab hk hB
    obtain ⟨k, rfl⟩ : ∃ q, k = q + 1 := ⟨k - 1, by omega⟩
    unfold orchestrionref25_FindLoop.l1
    rw [if_pos (by omega), allowed_eq nm l a2 a3 a4 a5 a6 a7 a8 a9 a10 a11 a12 hn w hw m a b hm (by omega) (by omega) (by omega) (by omega), Option.bind_some, w64 (x := a - 1) (by omega) (by omega)]
    by_cases c : Al m (l.length - w) a b
    · have hV : ∀ a' b', V2 m (l.length - w) b (a - 1) a' b' ↔ V2 m (l.length - w) b a a' b' ∨ (a' = a ∧ b' = b) := by
        intro a' b'
        unfold V2 Al
        unfold Al at c
        omega
      rw [decide_eq_true c, if_pos rfl, diff_eq nm l a2 a3 a4 a5 a6 a7 a8 a9 a10 a11 a12 hl w hw a b (by omega) (by omega) (by omega) (by omega) (by omega) (by omega), Option.bind_some]
      cases x10
      · rw [if_neg (by decide)]
        exact ih (a - 1) k a b _ true (by omega) (by omega) (by omega) (hB.set hV rfl (.inl (by decide)))
      · rw [if_pos rfl]
        by_cases c2 : S l a b w < x8
        · rw [if_pos c2]
          exact ih (a - 1) k a b _ true (by omega) (by omega) (by omega) (hB.set hV rfl (.inr (.inl c2)))
        · rw [if_neg c2]
          have h1 := (hB.2 rfl).1
          unfold V2 at h1
          exact ih (a - 1) k x6 x7 x8 true (by omega) (by omega) (by omega) (hB.keep hV rfl (by show ¬ (S l a b w < x8 ∨ _); omega))
    · rw [decide_eq_false c, if_neg (by decide)]
      refine ih (a - 1) k x6 x7 x8 x10 (by omega) (by omega) (by omega) (hB.same fun a' b' => ?_)
      constructor
      · rintro ⟨h1, h2⟩
        refine ⟨h1, ?_⟩
        by_cases h3 : a' = a ∧ b' = b
        · obtain ⟨rfl, rfl⟩ := h3; exact absurd h1 c
        · omega
      · rintro ⟨h1, h2⟩
        exact ⟨h1, by omega⟩
theorem rf_l0 (nm : ByteArray) (l : List Int) (a2 a3 a4 a5 a6 a7 a8 a9 a10 a11 a12 : Int) (hl : Lo l) (hn : l.length ≤ 300) (w : Nat) (hw0 : 1 ≤ w) (hw : w ≤ 256) (m : Int) (hm : 1 ≤ m) (hm1 : m ≤ 4096) : ∀ (e : Nat) (b : Int) (k : Nat) (x6 x7 x8 : Int) (x10 : Bool), b + w ≤ l.length → b ≤ e → -300 ≤ b → 310 * e + 310 ≤ k → Bst (fun a b => S l a b w) (V2 m (l.length - w) b b) (x10 = true) x6 x7 x8 → ∃ r, orchestrionref25_FindLoop.l0 k w m x6 x7 x8 x10 b nm l a2 a3 a4 a5 a6 a7 a8 a9 a10 a11 a12 = some r ∧ Fin4 l w m r := by
  intro e
  induction e with
  | zero =>
    intro b k x6 x7 x8 x10 hb he hb3 hk hB
    obtain ⟨k, rfl⟩ : ∃ q, k = q + 1 := ⟨k - 1, by omega⟩
    unfold orchestrionref25_FindLoop.l0
    rw [if_neg (by omega)]
    have hB' : Bst (fun a b => S l a b w) (Al m (l.length - w)) (x10 = true) x6 x7 x8 := hB.same fun a' b' => by unfold V2 Al; omega
    cases x10
    · rw [if_neg (by decide)]; exact ⟨_, rfl, _, x6, x7, x8, hB', fun h => by simp at h, fun _ => rfl⟩
    · rw [if_pos rfl]; exact ⟨_, rfl, _, x6, x7, x8, hB', fun _ => rfl, fun h => by simp at h⟩
  | succ e ih =>
    intro b k x6 x7 x8 x10 hb he hb3 hk hB
    obtain ⟨k, rfl⟩ : ∃ q, k = q + 1 := ⟨k - 1, by omega⟩
    unfold orchestrionref25_FindLoop.l0
    by_cases c : b > 0
    · rw [if_pos c, w64 (by omega) (by omega)]
      obtain ⟨kc, hkc⟩ : ∃ kc, kc = 310 * e + 310 := ⟨_, rfl⟩
      have hB2 : Bst (fun a b => S l a b w) (V2 m (l.length - w) b (b - 1)) (x10 = true) x6 x7 x8 := hB.same fun a' b' => by unfold V2 Al; omega
      exact rf_l1 nm l a2 a3 a4 a5 a6 a7 a8 a9 a10 a11 a12 hl hn w hw0 hw m hm hm1 b c hb kc (by omega) (fun k y6 y7 y8 y10 hk hB => ih (b - 1) k y6 y7 y8 y10 (by omega) (by omega) (by omega) (by omega) hB) b.toNat (b - 1) k x6 x7 x8 x10 (by omega) (by omega) (by omega) hB2
    · rw [if_neg c]
      have hB' : Bst (fun a b => S l a b w) (Al m (l.length - w)) (x10 = true) x6 x7 x8 := hB.same fun a' b' => by unfold V2 Al; omega
      cases x10
      · rw [if_neg (by decide)]; exact ⟨_, rfl, _, x6, x7, x8, hB', fun h => by simp at h, fun _ => rfl⟩
      · rw [if_pos rfl]; exact ⟨_, rfl, _, x6, x7, x8, hB', fun _ => rfl, fun h => by simp at h⟩
theorem lo_all {lo hi : Int} {xs : List Int} (h0 : -32768 ≤ lo) (h1 : hi ≤ 32767) : ∀ (d i : Nat), allD lo hi xs i d = true → ∀ j : Nat, i ≤ j → j < i + d → -32768 ≤ rd xs j ∧ rd xs j ≤ 32767 := by
  intro d
  induction d with
  | zero => intro i _ j hj hj1; omega
  | succ d ih =>
    intro i h j hj hj1
    rw [allD_s] at h
    by_cases c1 : rd xs i < lo
    · rw [if_pos c1] at h; simp at h
    · rw [if_neg c1] at h
      by_cases c2 : rd xs i > hi
      · rw [if_pos c2] at h; simp at h
      · rw [if_neg c2] at h
        by_cases e : j = i
        · subst e; omega
        · exact ih (i + 1) h j (by omega) (by omega)
theorem lo_of_all {lo hi : Int} {l : List Int} (h0 : -32768 ≤ lo) (h1 : hi ≤ 32767) (h : allD lo hi l 0 l.length = true) : Lo l := by
  intro i
  by_cases c : i.toNat < l.length
  · have := lo_all h0 h1 l.length 0 h i.toNat (by omega) (by omega)
    have e : rd l ((i.toNat : Nat) : Int) = rd l i := by unfold rd; rw [Int.toNat_natCast]
    rwa [e] at this
  · unfold rd
    rw [List.getD_eq_getElem?_getD, List.getElem?_eq_none (by omega)]
    simp
theorem lo_valid (nm : ByteArray) (l : List Int) (a2 a3 a4 a5 a6 a7 a8 a9 a10 a11 a12 : Int) (h : validB nm l a2 a3 a4 a5 a6 a7 a8 a9 a10 a11 a12 = true) : Lo l := by
  unfold validB bits at h
  rw [Bool.and_eq_true] at h
  by_cases h8 : a2 = 8
  · subst h8
    have h := h.2
    rw [if_pos rfl] at h
    simp only [Bool.and_eq_true] at h
    exact lo_of_all (by decide) (by decide) h.2.1
  · by_cases h16 : a2 = 16
    · subst h16
      have h := h.2
      rw [if_neg (by decide), if_pos rfl] at h
      simp only [Bool.and_eq_true] at h
      exact lo_of_all (by decide) (by decide) h.2.1
    · have h := h.2
      rw [if_neg h8, if_neg h16] at h
      simp at h
theorem fj0 (k : Nat) (x1 x2 x6 x7 : Int) (b : Bool) (nm : ByteArray) (l : List Int) (a2 a3 a4 a5 a6 a7 a8 a9 a10 a11 a12 : Int) (hn : l.length ≤ 300) : tune_FindLoop.j0 (k + 1 + 1) x1 x2 x6 x7 b nm l a2 a3 a4 a5 a6 a7 a8 a9 a10 a11 a12 = if b = true then (some (0, 0, 0, 5)) else (tune_FindLoop.l0 k x1 x2 x6 x7 1 (-1) 0 nm l a2 a3 a4 a5 a6 a7 a8 a9 a10 a11 a12) := by
  rw [tune_FindLoop.j0, if_neg (show ¬ (l.length : Int) > 512 by omega), tune_FindLoop.j1]
theorem rj0 (k : Nat) (x1 x2 x6 x7 x8 : Int) (b : Bool) (nm : ByteArray) (l : List Int) (a2 a3 a4 a5 a6 a7 a8 a9 a10 a11 a12 : Int) : orchestrionref25_FindLoop.j0 (k + 1) x1 x2 x6 x7 x8 b nm l a2 a3 a4 a5 a6 a7 a8 a9 a10 a11 a12 = if b = true then (some (0, 0, 0, 5)) else (orchestrionref25_FindLoop.l0 k x1 x2 x6 x7 x8 false (wrap64 ((l.length : Int) - x1)) nm l a2 a3 a4 a5 a6 a7 a8 a9 a10 a11 a12) := by rw [orchestrionref25_FindLoop.j0]
theorem loop_eq (nm : ByteArray) (l : List Int) (a2 a3 a4 a5 a6 a7 a8 a9 a10 a11 a12 : Int) (x1 x2 : Int) (hn : l.length ≤ 300) : ∃ r : Int × Int × Int × Int, tune_FindLoop.f (199999 + 1 + 1) nm l a2 a3 a4 a5 a6 a7 a8 a9 a10 a11 a12 x1 x2 = some r ∧ orchestrionref25_FindLoop.f (199999 + 1 + 1) nm l a2 a3 a4 a5 a6 a7 a8 a9 a10 a11 a12 x1 x2 = some r := by
  unfold tune_FindLoop.f orchestrionref25_FindLoop.f
  rw [valid_k (by omega), rvalid_k (by omega), Option.bind_some, Option.bind_some, in_eq, ref_in_eq, Option.bind_some, Option.bind_some, in_eq, ref_in_eq, Option.bind_some, Option.bind_some]
  cases hv : validB nm l a2 a3 a4 a5 a6 a7 a8 a9 a10 a11 a12
  · exact ⟨_, rfl, rfl⟩
  · rw [if_pos rfl, if_pos rfl]
    have hl := lo_valid nm l a2 a3 a4 a5 a6 a7 a8 a9 a10 a11 a12 hv
    by_cases c1 : 1 ≤ x1 ∧ x1 ≤ 256
    · by_cases c2 : 1 ≤ x2 ∧ x2 ≤ 4096
      · obtain ⟨w, rfl⟩ : ∃ w : Nat, x1 = w := ⟨x1.toNat, by omega⟩
        rw [decide_eq_true c1, decide_eq_true c2, if_pos rfl, if_pos rfl, fj0 _ _ _ _ _ _ _ _ _ _ _ _ _ _ _ _ _ _ _ hn, rj0, if_neg (by decide), if_neg (by decide), w64 (by omega) (by omega)]
        obtain ⟨r, h1, f1⟩ := p_l0 nm l a2 a3 a4 a5 a6 a7 a8 a9 a10 a11 a12 hl hn w (by omega) (by omega) x2 c2.1 c2.2 300 0 199999 0 0 (-1) (by omega) (by omega) (by omega) (by omega) ⟨fun _ a' b' => by unfold V1 Al; omega, fun h => by omega⟩
        obtain ⟨r', h2, f2⟩ := rf_l0 nm l a2 a3 a4 a5 a6 a7 a8 a9 a10 a11 a12 hl hn w (by omega) (by omega) x2 c2.1 c2.2 300 ((l.length : Int) - w) (199999 + 1) 0 0 0 false (by omega) (by omega) (by omega) (by omega) ⟨fun _ a' b' => by unfold V2 Al; omega, fun h => by simp at h⟩
        exact ⟨r, h1, by rw [f1.uniq f2]; exact h2⟩
      · rw [decide_eq_true c1, decide_eq_false c2, if_pos rfl, if_pos rfl, fj0 _ _ _ _ _ _ _ _ _ _ _ _ _ _ _ _ _ _ _ hn, rj0]
        exact ⟨_, rfl, rfl⟩
    · rw [decide_eq_false c1, if_neg (by decide), if_neg (by decide), fj0 _ _ _ _ _ _ _ _ _ _ _ _ _ _ _ _ _ _ _ hn, rj0]
      exact ⟨_, rfl, rfl⟩
theorem lj0 (k : Nat) (x1 x2 : Int) (b : Bool) (nm : ByteArray) (l : List Int) (a2 a3 a4 a5 a6 a7 a8 a9 a10 a11 a12 : Int) : orchestrionlaw25_TuneLoop.j0 (k + 1) x1 x2 b nm l a2 a3 a4 a5 a6 a7 a8 a9 a10 a11 a12 = if b = true then (some true) else ((tune_FindLoop.f k nm l a2 a3 a4 a5 a6 a7 a8 a9 a10 a11 a12 x1 x2).bind fun bt103 => ((orchestrionref25_FindLoop.f k nm l a2 a3 a4 a5 a6 a7 a8 a9 a10 a11 a12 x1 x2).bind fun bt107 => (if bt103.1 = bt107.1 then (if bt103.2.1 = bt107.2.1 then (if bt103.2.2.1 = bt107.2.2.1 then (some (bt103.2.2.2 == bt107.2.2.2)) else (some false)) else (some false)) else (some false)))) := by rw [orchestrionlaw25_TuneLoop.j0]
theorem TuneLoop : ∀ (nm : ByteArray) (l : List Int) (a2 a3 a4 a5 a6 a7 a8 a9 a10 a11 a12 : Int) (x1 x2 : Int), nm.size ≤ maxLen → l.length ≤ maxLen → (∀ n ∈ l, (Lit.int .i64 n).wf = true) → (Lit.int .i64 a2).wf = true → (Lit.int .i64 a3).wf = true → (Lit.int .i64 a4).wf = true → (Lit.int .i64 a5).wf = true → (Lit.int .i64 a6).wf = true → (Lit.int .i64 a7).wf = true → (Lit.int .i64 a8).wf = true → (Lit.int .i64 a9).wf = true → (Lit.int .i64 a10).wf = true → (Lit.int .i64 a11).wf = true → (Lit.int .i64 a12).wf = true → (Lit.int .i64 x1).wf = true → (Lit.int .i64 x2).wf = true → ∃ k, orchestrionlaw25_TuneLoop.f k nm l a2 a3 a4 a5 a6 a7 a8 a9 a10 a11 a12 x1 x2 = some true := by
  intro nm l a2 a3 a4 a5 a6 a7 a8 a9 a10 a11 a12 x1 x2 _ _ _ _ _ _ _ _ _ _ _ _ _ _ _ _ 
  refine ⟨199999 + 1 + 1 + 1, ?_⟩
  unfold orchestrionlaw25_TuneLoop.f orchestrionlaw25_tame.f
  by_cases hl : (l.length : Int) ≤ 5000
  · rw [if_pos hl, Option.bind_some]
    by_cases hs : (nm.size : Int) ≤ 100
    · rw [decide_eq_true hs, if_pos rfl, lj0]
      by_cases h3 : (l.length : Int) > 300
      · rw [decide_eq_true h3, if_pos rfl]
      · obtain ⟨r, h1, h2⟩ := loop_eq nm l a2 a3 a4 a5 a6 a7 a8 a9 a10 a11 a12 x1 x2 (by omega)
        rw [decide_eq_false h3, if_neg (by decide), h1, h2, Option.bind_some, Option.bind_some, if_pos rfl, if_pos rfl, if_pos rfl]
        simp
    · rw [decide_eq_false hs, if_neg (by decide), lj0, if_pos rfl]
  · rw [if_neg hl, Option.bind_some, if_neg (by decide), lj0, if_pos rfl]
end Go.Proofs.Ytejnhhjldddbdaa.Pure
