/- Samples that package tune returns are valid. -/
import Derived.Test.YtnmoiolddfboiaaSyV
import Derived.Test.YtnmoiolddfboiaaSyQ
import Derived.Test.YtnmoiolddfboiaaTzK
import Derived.Test.YtnmoiolddfboiaaTzN
import Derived.Test.YtnmoiolddfboiaaTzP
namespace Go.Proofs.Ytnmoiolddfboiaa.SX
open Go.RowKit Go.Proofs.YtnmoiolddfboiaaW.PrintLast Go.Proofs.Ytnmoiolddfboiaa.TX Go.Proofs.Ytnmoiolddfboiaa.Cu
set_option linter.unusedVariables false
set_option linter.unusedSimpArgs false
/-- the answer is an error, or a valid sample of the same bits and name -/
def Good (F : FuncId) (args : Array Value) (w : World) (s : S) : Prop := Calls Try.prog F args w fun e w' => ∃ (t : S) (A' : Option Addr) (m c' b' o' : Nat) (ys : Nat → Int) (er : Int), e = .returned (.tuple #[.agg (t.cs A' m c'), iv er]) ∧ DataAt w' A' m b' o' ys ∧ (er = 0 → vS t m ys = true ∧ t.a2 = s.a2 ∧ t.nm = s.nm) ∧ m ≤ 1000000 ∧ Below w.heap.size w w'
theorem good_err {F : FuncId} {args : Array Value} {w : World} {s : S} {k : Int} (hk : k ≠ 0) (h : Calls Try.prog F args w fun e w' => e = .returned (.tuple #[.agg (S.zero.cs none 0 0), iv k]) ∧ Below w.heap.size w w') : Good F args w s :=
  h.mono fun e w' ⟨he, hb⟩ => ⟨S.zero, none, 0, 0, 0, 0, fun _ => 0, k, he, Go.Proofs.Ytnmoiolddfboiaa.TX.noData w', fun h => absurd h hk, by omega, hb⟩
theorem bits_hb {b h : Int} (hb2 : Bits b h) : hb b = h := by
  rcases hb2 with ⟨rfl, rfl⟩ | ⟨rfl, rfl⟩ <;> rfl
theorem vS_more {s : S} {n N : Nat} {xs ys : Nat → Int} {h : Int} (hv : vS s n xs = true) (hn : n ≤ N) (hN : N ≤ 4096) (hb2 : Bits s.a2 h) (hy : ∀ i, i < N → -h ≤ ys i ∧ ys i ≤ h - 1) : vS s N ys = true := by
  obtain ⟨h1, h2, h3, h4, h5, h6, h7, h8⟩ := vS_yes hv
  refine decide_eq_true ⟨h1, h2, hN, h4, ?_, h6, ?_, ?_⟩
  · rw [bits_hb hb2]
    exact hy
  · unfold LpOk at h7 ⊢
    omega
  · unfold LpOk at h8 ⊢
    omega
theorem good_ok {F : FuncId} {args : Array Value} {w : World} {s : S} {n N : Nat} {xs ys : Nat → Int} {h : Int} (hv : vS s n xs = true) (hn : n ≤ N) (hN : N ≤ 4096) (hb2 : Bits s.a2 h) (hy : ∀ i, i < N → -h ≤ ys i ∧ ys i ≤ h - 1)
    (hc : Calls Try.prog F args w fun e w' => ∃ A' c' b o, e = .returned (.tuple #[.agg (s.cs A' N c'), iv 0]) ∧ DataAt w' A' N b o ys ∧ Below w.heap.size w w') : Good F args w s :=
  hc.mono fun e w' ⟨A', c', b, o, h1, h2, h3⟩ => ⟨s, A', N, c', b, o, ys, 0, h1, h2, fun _ => ⟨vS_more hv hn hN hb2 hy, rfl, rfl⟩, by omega, h3⟩
theorem clp_bd {h : Int} (hh : 1 ≤ h) (x : Int) : -h ≤ clp h x ∧ clp h x ≤ h - 1 := by
  unfold clp
  repeat' split
  all_goals omega
theorem good_cent (s : S) (A : Option Addr) (n c b o : Nat) (xs : Nat → Int) (hn : n ≤ 5000) (hc : n ≤ c) (w : World) (hw : DataAt w A n b o xs) : Good 57 #[.agg (s.cs A n c)] w s := by
  by_cases va : vS s n xs = true
  · obtain ⟨f1, -, ⟨h, hbt, hx⟩, -⟩ := Go.Proofs.Ytnmoiolddfboiaa.TX.vS_facts va
    exact good_ok va (Nat.le_refl _) f1 hbt (fun i _ => clp_bd (bits_bd hbt).1 _) (Go.Proofs.Ytnmoiolddfboiaa.TX.cent_ok s A n c b o xs w hw (by omega) hc h hbt hx va (by omega))
  · exact good_err (k := 1) (by omega) (Go.Proofs.Ytnmoiolddfboiaa.TX.cent_bad s A n c b o xs w hw (by omega) hc (Go.Proofs.Ytnmoiolddfboiaa.TX.vS_no va))
theorem good_norm (s : S) (A : Option Addr) (n c b o : Nat) (xs : Nat → Int) (hn : n ≤ 5000) (hc : n ≤ c) (w : World) (hw : DataAt w A n b o xs) : Good 54 #[.agg (s.cs A n c)] w s := by
  by_cases va : vS s n xs = true
  · obtain ⟨f1, -, ⟨h, hbt, hx⟩, -⟩ := Go.Proofs.Ytnmoiolddfboiaa.TX.vS_facts va
    by_cases hm : Go.Proofs.Ytnmoiolddfboiaa.TX.mx xs n = 0
    · exact good_err (k := 7) (by omega) (Go.Proofs.Ytnmoiolddfboiaa.TX.norm_none s A n c b o xs w hw (by omega) hc h hbt hx va (by omega) hm)
    · exact good_ok va (Nat.le_refl _) f1 hbt (fun i _ => clp_bd (bits_bd hbt).1 _) (Go.Proofs.Ytnmoiolddfboiaa.TX.norm_ok s A n c b o xs w hw (by omega) hc h hbt hx va (by omega) hm)
  · exact good_err (k := 1) (by omega) (Go.Proofs.Ytnmoiolddfboiaa.TX.norm_bad s A n c b o xs w hw (by omega) hc (Go.Proofs.Ytnmoiolddfboiaa.TX.vS_no va))
theorem good_cross (s : S) (A : Option Addr) (n c b o : Nat) (xs : Nat → Int) (t : Int) (hn : n ≤ 5000) (hc : n ≤ c) (w : World) (hw : DataAt w A n b o xs) : Good 53 #[.agg (s.cs A n c), iv t] w s := by
  by_cases va : vS s n xs = true
  · by_cases h7 : s.a7 = 1
    · obtain ⟨f1, -, ⟨h, hbt, hx⟩, hl⟩ := Go.Proofs.Ytnmoiolddfboiaa.TX.vS_facts va
      unfold LpOk at hl
      obtain ⟨st, hst⟩ := Int.eq_ofNat_of_zero_le (show 0 ≤ s.a8 by omega)
      obtain ⟨en, hen⟩ := Int.eq_ofNat_of_zero_le (show 0 ≤ s.a9 by omega)
      by_cases ht : t < 1 ∨ (if (en : Int) - (st : Int) < (st : Int) then (en : Int) - (st : Int) else (st : Int)) < t
      · exact good_err (k := 5) (by omega) (Go.Proofs.Ytnmoiolddfboiaa.TX.cross_range s A n c b o xs w hw (by omega) hc t va h7 st en hst hen (by omega) (by omega) (by omega) ht)
      · obtain ⟨u, rfl⟩ := Int.eq_ofNat_of_zero_le (show 0 ≤ t by omega)
        have ht1 : (1 : Int) ≤ (u : Int) := by omega
        have ht2 : (u : Int) ≤ (if (en : Int) - (st : Int) < (st : Int) then (en : Int) - (st : Int) else (st : Int)) := by
          rcases Int.lt_or_le (if (en : Int) - (st : Int) < (st : Int) then (en : Int) - (st : Int) else (st : Int)) (u : Int) with h' | h'
          · exact absurd (.inr h') ht
          · exact h'
        exact good_ok va (Nat.le_refl _) f1 hbt (fun i _ => clp_bd (bits_bd hbt).1 _) (Go.Proofs.Ytnmoiolddfboiaa.TX.cross_ok s A n c b o xs w hw (by omega) hc h hbt hx va h7 st en hst hen (by omega) (by omega) (by omega) u ht1 ht2)
    · exact good_err (k := 6) (by omega) (Go.Proofs.Ytnmoiolddfboiaa.TX.cross_kind s A n c b o xs w hw (by omega) hc t va h7)
  · exact good_err (k := 1) (by omega) (Go.Proofs.Ytnmoiolddfboiaa.TX.cross_bad s A n c b o xs w hw (by omega) hc t (Go.Proofs.Ytnmoiolddfboiaa.TX.vS_no va))
theorem good_fade (s : S) (A : Option Addr) (n c b o : Nat) (xs : Nat → Int) (fr tz fi la : Int) (hn : n ≤ 5000) (hc : n ≤ c) (w : World) (hw : DataAt w A n b o xs) : Good 52 #[.agg (s.cs A n c), iv fr, iv tz, iv fi, iv la] w s := by
  by_cases va : vS s n xs = true
  · obtain ⟨f1, -, ⟨h, hbt, hx⟩, -⟩ := Go.Proofs.Ytnmoiolddfboiaa.TX.vS_facts va
    by_cases a1 : fr < 0
    · exact good_err (k := 5) (by omega) (Go.Proofs.Ytnmoiolddfboiaa.TZ.fade_e1 s A n c b o xs w hw (by omega) hc fr tz fi la va a1)
    by_cases a2 : tz < fr
    · exact good_err (k := 5) (by omega) (Go.Proofs.Ytnmoiolddfboiaa.TZ.fade_e2 s A n c b o xs w hw (by omega) hc fr tz fi la va (by omega) a2)
    by_cases a3 : (n : Int) < tz
    · exact good_err (k := 5) (by omega) (Go.Proofs.Ytnmoiolddfboiaa.TZ.fade_e3 s A n c b o xs w hw (by omega) hc fr tz fi la va (by omega) (by omega) a3)
    by_cases a4 : fi < 0 ∨ 10000 < fi
    · exact good_err (k := 5) (by omega) (Go.Proofs.Ytnmoiolddfboiaa.TZ.fade_e4 s A n c b o xs w hw (by omega) hc fr tz fi la va (by omega) (by omega) (by omega) a4)
    by_cases a5 : la < 0 ∨ 10000 < la
    · exact good_err (k := 5) (by omega) (Go.Proofs.Ytnmoiolddfboiaa.TZ.fade_e5 s A n c b o xs w hw (by omega) hc fr tz fi la va (by omega) (by omega) (by omega) (by omega) a5)
    obtain ⟨f, rfl⟩ := Int.eq_ofNat_of_zero_le (show 0 ≤ fr by omega)
    obtain ⟨z, rfl⟩ := Int.eq_ofNat_of_zero_le (show 0 ≤ tz by omega)
    exact good_ok va (Nat.le_refl _) f1 hbt (fun i _ => clp_bd (bits_bd hbt).1 _) (Go.Proofs.Ytnmoiolddfboiaa.TZ.fade_ok s A n c b o xs w hw (by omega) hc f z fi la h hbt hx va f z (by omega) (by omega) (by omega) (by omega) (by omega) rfl rfl)
  · exact good_err (k := 1) (by omega) (Go.Proofs.Ytnmoiolddfboiaa.TZ.fade_bad s A n c b o xs w hw (by omega) hc fr tz fi la (Go.Proofs.Ytnmoiolddfboiaa.TX.vS_no va))
theorem good_draw (s : S) (A : Option Addr) (n c b o : Nat) (xs : Nat → Int) (fr tz fi la : Int) (hn : n ≤ 5000) (hc : n ≤ c) (w : World) (hw : DataAt w A n b o xs) : Good 56 #[.agg (s.cs A n c), iv fr, iv tz, iv fi, iv la] w s := by
  by_cases va : vS s n xs = true
  · obtain ⟨f1, -, ⟨h, hbt, hx⟩, -⟩ := Go.Proofs.Ytnmoiolddfboiaa.TX.vS_facts va
    by_cases a1 : fr < 0
    · exact good_err (k := 5) (by omega) (Go.Proofs.Ytnmoiolddfboiaa.TZ.draw_e1 s A n c b o xs w hw (by omega) hc fr tz fi la h hbt va a1)
    by_cases a2 : fi < fr
    · exact good_err (k := 5) (by omega) (Go.Proofs.Ytnmoiolddfboiaa.TZ.draw_e2 s A n c b o xs w hw (by omega) hc fr tz fi la h hbt va (by omega) a2)
    by_cases a3 : (n : Int) ≤ fi
    · exact good_err (k := 5) (by omega) (Go.Proofs.Ytnmoiolddfboiaa.TZ.draw_e3 s A n c b o xs w hw (by omega) hc fr tz fi la h hbt va (by omega) (by omega) a3)
    by_cases a4 : tz < -h ∨ h - 1 < tz
    · exact good_err (k := 5) (by omega) (Go.Proofs.Ytnmoiolddfboiaa.TZ.draw_e4 s A n c b o xs w hw (by omega) hc fr tz fi la h hbt va (by omega) (by omega) (by omega) a4)
    by_cases a5 : la < -h ∨ h - 1 < la
    · exact good_err (k := 5) (by omega) (Go.Proofs.Ytnmoiolddfboiaa.TZ.draw_e5 s A n c b o xs w hw (by omega) hc fr tz fi la h hbt va (by omega) (by omega) (by omega) (by omega) a5)
    obtain ⟨f, rfl⟩ := Int.eq_ofNat_of_zero_le (show 0 ≤ fr by omega)
    obtain ⟨z, rfl⟩ := Int.eq_ofNat_of_zero_le (show 0 ≤ fi by omega)
    refine good_ok va (Nat.le_refl _) f1 hbt (fun i hi => ?_) (Go.Proofs.Ytnmoiolddfboiaa.TZ.draw_ok s A n c b o xs w hw (by omega) hc tz la f z h hbt va (by omega) (by omega) (by omega) (by omega) (by omega))
    unfold Go.Proofs.Ytnmoiolddfboiaa.TZ.dG
    by_cases e : f ≤ i ∧ i < z + 1
    · rw [if_pos e]
      unfold Go.Proofs.Ytnmoiolddfboiaa.TZ.dv
      by_cases e2 : f < z
      · rw [if_pos e2]
        have := Go.Proofs.Ytnmoiolddfboiaa.TZ.line_facts (n := n) (bits_bd hbt) (show -h ≤ tz ∧ tz ≤ h - 1 by omega) (show -h ≤ la ∧ la ≤ h - 1 by omega) e.1 e.2 e2 (by omega) (by omega) _ rfl
        exact this.2.2.2.2.2.2.2
      · rw [if_neg e2]
        omega
    · rw [if_neg e]
      exact hx i hi
  · exact good_err (k := 1) (by omega) (Go.Proofs.Ytnmoiolddfboiaa.TZ.draw_bad s A n c b o xs w hw (by omega) hc fr tz fi la (Go.Proofs.Ytnmoiolddfboiaa.TX.vS_no va))
theorem good_mix (s s' : S) (A D : Option Addr) (n c m d b o b' o' : Nat) (xs ys : Nat → Int) (t : Int) (hn : n ≤ 5000) (hm : m ≤ 5000) (hc : n ≤ c) (hd : m ≤ d) (w : World) (hw : DataAt w A n b o xs) (hw2 : DataAt w D m b' o' ys) : Good 55 #[.agg (s.cs A n c), .agg (s'.cs D m d), iv t] w s := by
  by_cases va : vS s n xs = true
  · by_cases vb : vS s' m ys = true
    · by_cases hb : s'.a2 = s.a2
      · obtain ⟨f1, -, ⟨h, hbt, hx⟩, -⟩ := Go.Proofs.Ytnmoiolddfboiaa.TX.vS_facts va
        obtain ⟨f2, -, ⟨h', hbt', hy⟩, -⟩ := Go.Proofs.Ytnmoiolddfboiaa.TX.vS_facts vb
        have hh : h' = h := by
          rcases hbt with ⟨e1, rfl⟩ | ⟨e1, rfl⟩ <;> rcases hbt' with ⟨e2, rfl⟩ | ⟨e2, rfl⟩ <;> first | rfl | (exfalso; omega)
        subst hh
        by_cases ht : t < 0 ∨ (n : Int) < t
        · exact good_err (k := 5) (by omega) (Go.Proofs.Ytnmoiolddfboiaa.TX.mix_range s s' A D n c m d b o b' o' xs ys w hw hw2 (by omega) (by omega) hc hd t va vb hb ht)
        · by_cases hN : 4096 < t + m
          · exact good_err (k := 4) (by omega) (Go.Proofs.Ytnmoiolddfboiaa.TX.mix_limit s s' A D n c m d b o b' o' xs ys w hw hw2 (by omega) (by omega) hc hd t va vb hb (by omega) (by omega) hN)
          · obtain ⟨u, rfl⟩ := Int.eq_ofNat_of_zero_le (by omega : 0 ≤ t)
            by_cases hlt : n < u + m
            · exact good_ok va (N := u + m) (by omega) (by omega) hbt (fun i _ => clp_bd (bits_bd hbt).1 _) (Go.Proofs.Ytnmoiolddfboiaa.TX.mix_okA s s' A D n c m d b o b' o' xs ys w hw hw2 (by omega) (by omega) hc hd u h' hbt hx hy va vb hb (by omega) (by omega) (by omega) (u + m) (by rw [if_pos hlt]) hlt)
            · exact good_ok va (Nat.le_refl _) f1 hbt (fun i _ => clp_bd (bits_bd hbt).1 _) (Go.Proofs.Ytnmoiolddfboiaa.TX.mix_okB s s' A D n c m d b o b' o' xs ys w hw hw2 (by omega) (by omega) hc hd u h' hbt hx hy va vb hb (by omega) (by omega) (by omega) n (by rw [if_neg hlt]) hlt)
      · exact good_err (k := 1) (by omega) (Go.Proofs.Ytnmoiolddfboiaa.TX.mix_bad3 s s' A D n c m d b o b' o' xs ys w hw hw2 (by omega) (by omega) hc hd t va vb hb)
    · exact good_err (k := 1) (by omega) (Go.Proofs.Ytnmoiolddfboiaa.TX.mix_bad2 s s' A D n c m d b o b' o' xs ys w hw hw2 (by omega) (by omega) hc hd t va (Go.Proofs.Ytnmoiolddfboiaa.TX.vS_no vb))
  · exact good_err (k := 1) (by omega) (Go.Proofs.Ytnmoiolddfboiaa.TX.mix_bad1 s s' A D n c m d b o b' o' xs ys w hw hw2 (by omega) (by omega) hc hd t (Go.Proofs.Ytnmoiolddfboiaa.TX.vS_no va))
theorem sclK_ok {k a b num den : Int} {n m : Nat} (h : LpOk k a b n) (hn : 1 ≤ num) (hd : 1 ≤ den) (hm : (n : Int) * num / den = m) : LpOk (sclK k a b num den).1 (sclK k a b num den).2.1 (sclK k a b num den).2.2 m := by
  unfold LpOk at h
  by_cases c : k = 0 ∨ b * num / den ≤ a * num / den
  · rw [show sclK k a b num den = (0, 0, 0) from if_pos c]
    exact .inl ⟨rfl, rfl, rfl⟩
  · rw [show sclK k a b num den = (k, a * num / den, b * num / den) from if_neg c]
    have q0 : 0 ≤ a * num / den := Int.ediv_nonneg (Int.mul_nonneg (by omega) (by omega)) (by omega)
    have q1 : b * num / den ≤ (n : Int) * num / den := Int.ediv_le_ediv (by omega) (Int.mul_le_mul_of_nonneg_right (by omega) (by omega))
    rw [hm] at q1
    refine .inr ⟨?_, q0, ?_, q1⟩
    · show k = 1 ∨ k = 2
      omega
    · show a * num / den < b * num / den
      omega
theorem rsm_valid {s : S} {n m : Nat} {xs : Nat → Int} (hv : vS s n xs = true) {num den : Int} (hn : 1 ≤ num) (hd : 1 ≤ den) (hm : (n : Int) * num / den = m) (hm4 : m ≤ 4096) (K : Nat) : vS (rsmS s num den) m (rsmF s n xs num den K) = true := by
  obtain ⟨h1, h2, h3, h4, h5, h6, h7, h8⟩ := vS_yes hv
  unfold RgOk at h6
  refine decide_eq_true ⟨h1, h2, hm4, h4, fun i hi => clp_bd (bits_bd (limit_hb hv)).1 _, ?_, sclK_ok h7 hn hd hm, sclK_ok h8 hn hd hm⟩
  refine ⟨?_, ?_, h6.2.2⟩
  · show 1 ≤ rateR _
    unfold rateR
    repeat' split
    all_goals omega
  · show rateR _ ≤ 65535
    unfold rateR
    repeat' split
    all_goals omega
def GivesE (F : FuncId) (args : Array Value) (w : World) (t : S) (m : Nat) (ys : Nat → Int) (er : Int) : Prop :=
  Calls Try.prog F args w fun e w' => ∃ A' c' b' o', e = .returned (.tuple #[.agg (t.cs A' m c'), iv er]) ∧ DataAt w' A' m b' o' ys ∧ Below w.heap.size w w'
theorem gives_E {F : FuncId} {args : Array Value} {w : World} {t : S} {m : Nat} {ys : Nat → Int} {er : Int} (h : Gives F args w t m ys er) : GivesE F args w t m ys er := by
  unfold Gives at h
  unfold GivesE
  refine h.mono ?_
  rintro e w' ⟨A', c', h1, h2, h3⟩
  obtain ⟨A2, c2, g, e2, hd, _⟩ := ownDataV h2
  simp only [Value.slice.injEq, true_and] at e2
  obtain ⟨rfl, rfl⟩ := e2
  exact ⟨A', c', g, 0, h1, hd, h3⟩
theorem good_of {F : FuncId} {args : Array Value} {w : World} {s t : S} {m : Nat} {ys : Nat → Int} {er : Int} (h : GivesE F args w t m ys er) (ho : er = 0 → vS t m ys = true ∧ t.a2 = s.a2 ∧ t.nm = s.nm) (hm : m ≤ 1000000) : Good F args w s := by
  unfold GivesE at h
  exact h.mono fun e w' ⟨A', c', b', o', h1, h2, h3⟩ => ⟨t, A', m, c', b', o', ys, er, h1, h2, ho, hm, h3⟩
theorem good_res (s : S) (A : Option Addr) (n c0 b o : Nat) (xs : Nat → Int) (num den kind : Int) (hn : n ≤ 9223372036854775807) (hc0 : n ≤ c0) (w : World) (hA : DataAt w A n b o xs) : Good 47 #[.agg (s.cs A n c0), iv num, iv den, iv kind] w s := by
  cases hv : vS s n xs
  · exact good_of (gives_E (tres_bad s A n c0 b o xs num den kind hv hn hc0 w hA)) (fun h => by omega) (by omega)
  by_cases hk : kind < 0 ∨ 4 < kind
  · exact good_of (gives_E (tres_kind s A n c0 b o xs num den kind hv hk hn hc0 w hA)) (fun h => by omega) (by omega)
  have hk2 : 0 ≤ kind ∧ kind ≤ 4 := by omega
  by_cases hr : num < 1 ∨ 10000 < num
  · exact good_of (gives_E (tres_num s A n c0 b o xs num den kind hv hk2 hr hn hc0 w hA)) (fun h => by omega) (by omega)
  have hr1 : 1 ≤ num ∧ num ≤ 10000 := by omega
  by_cases hd : den < 1 ∨ 10000 < den
  · exact good_of (gives_E (tres_den s A n c0 b o xs num den kind hv hk2 hr1 hd hn hc0 w hA)) (fun h => by omega) (by omega)
  have hd1 : 1 ≤ den ∧ den ≤ 10000 := by omega
  by_cases hq : 4096 < (n : Int) * num / den
  · exact good_of (gives_E (tres_long s A n c0 b o xs num den kind hv hk2 hr1 hd1 _ rfl hq hn hc0 w hA)) (fun h => by omega) (by omega)
  · have q0 : 0 ≤ (n : Int) * num / den := Int.ediv_nonneg (Int.mul_nonneg (by omega) (by omega)) (by omega)
    obtain ⟨m, hm⟩ := Int.eq_ofNat_of_zero_le q0
    obtain ⟨K, rfl⟩ := Int.eq_ofNat_of_zero_le hk2.1
    have hm4 : m ≤ 4096 := by omega
    exact good_of (gives_E (tres_ok s A n c0 b o xs num den K m hv (by omega) hr1 hd1 hm hm4 hn hc0 w hA)) (fun _ => ⟨rsm_valid hv hr1.1 hd1.1 hm hm4 K, rfl, rfl⟩) (by omega)
end Go.Proofs.Ytnmoiolddfboiaa.SX
