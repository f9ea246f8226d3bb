/- Four operators: the program's Sound. -/
import Derived.Test.YtfodpoccjdaaaaaReJ
import Derived.Test.YtfodpoccjdaaaaaReK
namespace Go.Proofs.Ytfodpoccjdaaaaa.CS
open Go.RowKit Go.Proofs.YtfodpoccjdaaaaaW.PrintLast Go.Proofs.Ytfodpoccjdaaaaa.TX Go.Proofs.Ytfodpoccjdaaaaa.PG
set_option linter.unusedVariables false
set_option linter.unusedSimpArgs false
def RP.pt (p : RP) : PT := ⟨p.al.toNat, p.fb, p.o⟩
/-- the cells of the four voices -/
def vcF (p : RP) (s : ST) (j : Nat) : Value := if j % 9 < 6 then opF (p.o (j / 9)) (j % 9) else if j % 9 = 6 then iv (s.l (j / 9)) else if j % 9 = 7 then iv (s.ph (j / 9)) else .bool (s.f (j / 9))
def vcI (p : RP) (i j : Nat) : Value := if j % 9 < 6 ∧ i ≤ j / 9 then iv 0 else vcF p ST.zero j
theorem vcF_op (p : RP) (s : ST) {i k : Nat} (hk : k < 6) : vcF p s (i * 9 + k) = opF (p.o i) k := by
  unfold vcF
  rw [show (i * 9 + k) % 9 = k by omega, show (i * 9 + k) / 9 = i by omega, if_pos hk]
theorem vcF_l (p : RP) (s : ST) (i : Nat) : vcF p s (i * 9 + 6) = iv (s.l i) := by
  unfold vcF
  rw [show (i * 9 + 6) % 9 = 6 by omega, show (i * 9 + 6) / 9 = i by omega]
  rfl
theorem vcF_p (p : RP) (s : ST) (i : Nat) : vcF p s (i * 9 + 7) = iv (s.ph i) := by
  unfold vcF
  rw [show (i * 9 + 7) % 9 = 7 by omega, show (i * 9 + 7) / 9 = i by omega]
  rfl
theorem vcF_f (p : RP) (s : ST) (i : Nat) : vcF p s (i * 9 + 8) = .bool (s.f i) := by
  unfold vcF
  rw [show (i * 9 + 8) % 9 = 8 by omega, show (i * 9 + 8) / 9 = i by omega]
  rfl
/-- the operators before i have gone on -/
def mixS (s s' : ST) (i : Nat) : ST := ⟨fun j => if j < i then s'.l j else s.l j, fun j => if j < i then s'.ph j else s.ph j, fun j => if j < i then s'.f j else s.f j, s.y, s.bf⟩
theorem mix_set (p : RP) (s s' : ST) (i : Nat) (hi : i < 4) : (((fb_ (vcF p (mixS s s' i)) 36).setIfInBounds (i * 9 + 6) (iv (s'.l i))).setIfInBounds (i * 9 + 8) (.bool (s'.f i))).setIfInBounds (i * 9 + 7) (iv (s'.ph i)) = fb_ (vcF p (mixS s s' (i + 1))) 36 := by
  rw [fb_set, fb_set, fb_set]
  refine fb_congr fun j hj => ?_
  by_cases h7 : j = i * 9 + 7
  · subst h7
    rw [if_pos rfl, vcF_p]
    show iv (s'.ph i) = iv (if i < i + 1 then _ else _)
    rw [if_pos (by omega)]
  · rw [if_neg h7]
    by_cases h8 : j = i * 9 + 8
    · subst h8
      rw [if_pos rfl, vcF_f]
      show Value.bool (s'.f i) = .bool (if i < i + 1 then _ else _)
      rw [if_pos (by omega)]
    · rw [if_neg h8]
      by_cases h6 : j = i * 9 + 6
      · subst h6
        rw [if_pos rfl, vcF_l]
        show iv (s'.l i) = iv (if i < i + 1 then _ else _)
        rw [if_pos (by omega)]
      · rw [if_neg h6]
        unfold vcF
        by_cases c : j % 9 < 6
        · rw [if_pos c, if_pos c]
        · rw [if_neg c, if_neg c]
          have e : j / 9 < i ↔ j / 9 < i + 1 := by omega
          by_cases c6 : j % 9 = 6
          · rw [if_pos c6, if_pos c6]
            show iv (if j / 9 < i then _ else _) = iv (if j / 9 < i + 1 then _ else _)
            by_cases q : j / 9 < i
            · rw [if_pos q, if_pos (e.1 q)]
            · rw [if_neg q, if_neg (fun h => q (e.2 h))]
          · rw [if_neg c6, if_neg c6]
            by_cases c7 : j % 9 = 7
            · rw [if_pos c7, if_pos c7]
              show iv (if j / 9 < i then _ else _) = iv (if j / 9 < i + 1 then _ else _)
              by_cases q : j / 9 < i
              · rw [if_pos q, if_pos (e.1 q)]
              · rw [if_neg q, if_neg (fun h => q (e.2 h))]
            · rw [if_neg c7, if_neg c7]
              show Value.bool (if j / 9 < i then _ else _) = .bool (if j / 9 < i + 1 then _ else _)
              by_cases q : j / 9 < i
              · rw [if_pos q, if_pos (e.1 q)]
              · rw [if_neg q, if_neg (fun h => q (e.2 h))]
theorem mix_zero (p : RP) (s s' : ST) : fb_ (vcF p (mixS s s' 0)) 36 = fb_ (vcF p s) 36 := fb_congr fun j _ => by
  unfold vcF mixS
  simp
theorem mix_all (p : RP) (s s' : ST) : fb_ (vcF p (mixS s s' 4)) 36 = fb_ (vcF p s') 36 := fb_congr fun j hj => by
  unfold vcF mixS
  have e : j / 9 < 4 := by omega
  simp [e]
theorem init_zero (p : RP) : fb_ (vcI p 0) 36 = #[iv 0, iv 0, iv 0, iv 0, iv 0, iv 0, iv 0, iv 0, .bool false, iv 0, iv 0, iv 0, iv 0, iv 0, iv 0, iv 0, iv 0, .bool false, iv 0, iv 0, iv 0, iv 0, iv 0, iv 0, iv 0, iv 0, .bool false, iv 0, iv 0, iv 0, iv 0, iv 0, iv 0, iv 0, iv 0, .bool false] := by kernel_rfl
theorem init_all (p : RP) : fb_ (vcI p 4) 36 = fb_ (vcF p ST.zero) 36 := fb_congr fun j hj => by
  unfold vcI
  rw [if_neg (by omega)]
set_option maxHeartbeats 4000000 in
theorem init_step (p : RP) (i : Nat) (hi : i < 4) : ((((((fb_ (vcI p i) 36).setIfInBounds (i * 9) (iv (p.o i).mu)).setIfInBounds (i * 9 + 1) (iv (p.o i).le)).setIfInBounds (i * 9 + 1 + 1) (iv (p.o i).at_)).setIfInBounds (i * 9 + 1 + 1 + 1) (iv (p.o i).de)).setIfInBounds (i * 9 + 1 + 1 + 1 + 1) (iv (p.o i).su)).setIfInBounds (i * 9 + 1 + 1 + 1 + 1 + 1) (iv (p.o i).re) = fb_ (vcI p (i + 1)) 36 := by
  simp only [fb_set]
  refine fb_congr fun j hj => ?_
  have key : ∀ k, k < 6 → vcI p (i + 1) (i * 9 + k) = opF (p.o i) k := fun k hk => by
    unfold vcI
    rw [if_neg (by omega), vcF_op _ _ hk]
  by_cases h5 : j = i * 9 + 1 + 1 + 1 + 1 + 1
  · rw [if_pos h5, show j = i * 9 + 5 by omega, key 5 (by omega)]; rfl
  rw [if_neg h5]
  by_cases h4 : j = i * 9 + 1 + 1 + 1 + 1
  · rw [if_pos h4, show j = i * 9 + 4 by omega, key 4 (by omega)]; rfl
  rw [if_neg h4]
  by_cases h3 : j = i * 9 + 1 + 1 + 1
  · rw [if_pos h3, show j = i * 9 + 3 by omega, key 3 (by omega)]; rfl
  rw [if_neg h3]
  by_cases h2 : j = i * 9 + 1 + 1
  · rw [if_pos h2, show j = i * 9 + 2 by omega, key 2 (by omega)]; rfl
  rw [if_neg h2]
  by_cases h1 : j = i * 9 + 1
  · rw [if_pos h1, show j = i * 9 + 1 by omega, key 1 (by omega)]; rfl
  rw [if_neg h1]
  by_cases h0 : j = i * 9
  · rw [if_pos h0, show j = i * 9 + 0 by omega, key 0 (by omega)]; rfl
  rw [if_neg h0]
  unfold vcI
  by_cases c : j % 9 < 6 ∧ i ≤ j / 9
  · rw [if_pos c, if_pos (by omega)]
  · rw [if_neg c, if_neg (by omega)]
theorem there_voice {w : World} {g : Nat} {F : Nat → Value} (hg : w.heap[g]? = some (.cells (fb_ F 36) 109 (0, 0))) {i : Nat} (hi : i < 4) : w.there g (i * 9) 6 := by
  intro j hj
  refine ⟨?_, bkFrozen hg _⟩
  rw [bkCell hg, fb_get (by omega)]
  rfl
theorem bk6 {w : World} {g : Nat} {cs : Array Value} {t : TypeId} (hg : w.heap[g]? = some (.cells cs t (0, 0))) (o : OP) (b : Nat) : (w.setCells g b o.cs.toList).heap[g]? = some (.cells ((((((cs.setIfInBounds b (iv o.mu)).setIfInBounds (b + 1) (iv o.le)).setIfInBounds (b + 1 + 1) (iv o.at_)).setIfInBounds (b + 1 + 1 + 1) (iv o.de)).setIfInBounds (b + 1 + 1 + 1 + 1) (iv o.su)).setIfInBounds (b + 1 + 1 + 1 + 1 + 1) (iv o.re)) t (0, 0)) :=
  bkSet (bkSet (bkSet (bkSet (bkSet (bkSet hg b _) _ _) _ _) _ _) _ _) _ _
theorem gr6 (w : World) (g : Nat) (o : OP) (b : Nat) : w.grownBy (w.setCells g b o.cs.toList) (some g) := by
  show w.grownBy ((((((w.setCell ⟨g, b, none⟩ (iv o.mu)).setCell ⟨g, b + 1, none⟩ (iv o.le)).setCell ⟨g, b + 1 + 1, none⟩ (iv o.at_)).setCell ⟨g, b + 1 + 1 + 1, none⟩ (iv o.de)).setCell ⟨g, b + 1 + 1 + 1 + 1, none⟩ (iv o.su)).setCell ⟨g, b + 1 + 1 + 1 + 1 + 1, none⟩ (iv o.re)) (some g)
  have h1 := only_setCell (p := ⟨g, b, none⟩) (only_refl w (some g)) rfl (iv o.mu)
  have h2 := only_setCell (p := ⟨g, b + 1, none⟩) h1 rfl (iv o.le)
  have h3 := only_setCell (p := ⟨g, b + 1 + 1, none⟩) h2 rfl (iv o.at_)
  have h4 := only_setCell (p := ⟨g, b + 1 + 1 + 1, none⟩) h3 rfl (iv o.de)
  have h5 := only_setCell (p := ⟨g, b + 1 + 1 + 1 + 1, none⟩) h4 rfl (iv o.su)
  exact only_setCell (p := ⟨g, b + 1 + 1 + 1 + 1 + 1, none⟩) h5 rfl (iv o.re)
end Go.Proofs.Ytfodpoccjdaaaaa.CS
