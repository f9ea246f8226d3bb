/- How far two windows of a sample differ: both packages. -/
import Derived.Test.YtfodpoccjdaaaaaTxD
import Derived.Test.YtfodpoccjdaaaaaSxW
namespace Go.Proofs.Ytfodpoccjdaaaaa.SX
open Go.RowKit Go.Proofs.YtfodpoccjdaaaaaW.PrintLast Go.Proofs.Ytfodpoccjdaaaaa.TX
set_option linter.unusedVariables false
set_option linter.unusedSimpArgs false
def ab (x : Int) : Int := if x < 0 then -x else x
theorem ab_nn (x : Int) : 0 ≤ ab x := by unfold ab; split <;> omega
theorem ab_hi {x : Int} (h : -65535 ≤ x ∧ x ≤ 65535) : ab x ≤ 65535 := by unfold ab; split <;> omega
theorem dist_any (a b : Int) (ha : -32768 ≤ a ∧ a ≤ 32767) (hb : -32768 ≤ b ∧ b ≤ 32767) (w : World) : Calls Try.prog 99 #[iv a, iv b] w fun e w' => e = .returned (iv (ab (a - b))) ∧ w = w' := by
  obtain ⟨a0, a1⟩ := ha
  obtain ⟨b0, b1⟩ := hb
  go_enter Try.func99, Try.ntmps99
  go_wp2
  all_goals
    go_ret
    exact ⟨congrArg (fun x => Ending.returned (iv x)) (by unfold ab; split <;> omega), rfl⟩
theorem abs_any (a : Int) (h0 : -65535 ≤ a) (h1 : a ≤ 65535) (w : World) : Calls Try.prog 98 #[iv a] w fun e w' => e = .returned (iv (ab a)) ∧ w = w' := by
  go_enter Try.func98, Try.ntmps98
  go_wp2
  all_goals
    go_ret
    exact ⟨congrArg (fun x => Ending.returned (iv x)) (by unfold ab; split <;> omega), rfl⟩
/-- the sum of the first k differences -/
def dsm (F G : Nat → Int) : Nat → Int
  | 0 => 0
  | k + 1 => dsm F G k + ab (F k - G k)
def FrB (F : Nat → Int) (n : Nat) : Prop := ∀ i, i < n → -32768 ≤ F i ∧ F i ≤ 32767
theorem dsm_bd {F G : Nat → Int} {n : Nat} (hF : FrB F n) (hG : FrB G n) : ∀ k, k ≤ n → 0 ≤ dsm F G k ∧ dsm F G k ≤ 65535 * k
  | 0, _ => by simp [dsm]
  | k + 1, h => by
    have h1 := dsm_bd hF hG k (by omega)
    have h2 := hF k (by omega)
    have h3 := hG k (by omega)
    have h4 := ab_nn (F k - G k)
    have h5 := ab_hi (x := F k - G k) (by omega)
    show 0 ≤ dsm F G k + ab (F k - G k) ∧ dsm F G k + ab (F k - G k) ≤ 65535 * ((k + 1 : Nat) : Int)
    omega
theorem dsm_le (F G : Nat → Int) (k : Nat) : ∀ d, dsm F G k ≤ dsm F G (k + d)
  | 0 => Int.le_refl _
  | d + 1 => by
    have h1 := dsm_le F G k d
    have h2 := ab_nn (F (k + d) - G (k + d))
    show dsm F G k ≤ dsm F G (k + d) + ab (F (k + d) - G (k + d))
    omega
/-- what apart answers, from the frame k on: the sum so far is d -/
def apf (F G : Nat → Int) (bd : Int) : Nat → Nat → Int → Int
  | 0, _, d => d
  | r + 1, k, d => if 0 ≤ bd ∧ bd < d + ab (F k - G k) then d + ab (F k - G k) else apf F G bd r (k + 1) (d + ab (F k - G k))
def apv (F G : Nat → Int) (bd : Int) (n : Nat) : Int := apf F G bd n 0 0
theorem apf_ap (F G : Nat → Int) (bd : Int) : ∀ r k, (apf F G bd r k (dsm F G k) = dsm F G (k + r) ∨ 0 ≤ bd ∧ bd < apf F G bd r k (dsm F G k) ∧ apf F G bd r k (dsm F G k) ≤ dsm F G (k + r))
  | 0, k => .inl rfl
  | r + 1, k => by
    have e : k + (r + 1) = k + 1 + r := by omega
    rw [e]
    unfold apf
    by_cases c : 0 ≤ bd ∧ bd < dsm F G k + ab (F k - G k)
    · rw [if_pos c]
      exact .inr ⟨c.1, c.2, dsm_le F G (k + 1) r⟩
    · rw [if_neg c]
      exact apf_ap F G bd r (k + 1)
/-- the sum, or a part of it that is above the bound -/
theorem apv_ap (F G : Nat → Int) (bd : Int) (n : Nat) : apv F G bd n = dsm F G n ∨ 0 ≤ bd ∧ bd < apv F G bd n ∧ apv F G bd n ≤ dsm F G n := by
  have := apf_ap F G bd n 0
  rwa [Nat.zero_add] at this
set_option maxHeartbeats 4000000 in
set_option maxRecDepth 100000 in
theorem apart_any (A B : Option Addr) (n ca cb b o b' o' : Nat) (F G : Nat → Int) (bd : Int) (hn : n ≤ 256) (hF : FrB F n) (hG : FrB G n) (w : World) (hA : DataAt w A n b o F) (hB : DataAt w B n b' o' G) :
    Calls Try.prog 97 #[.slice A n ca, .slice B n cb, iv bd] w fun e w' => e = .returned (iv (apv F G bd n)) ∧ ∃ m, w' = w.drewN m := by
  have HA := Lib.hid hA
  have HD := Lib.hid hB
  have TA := Lib.hid hA.top
  have TD := Lib.hid hB.top
  have BB := Lib.hid (dsm_bd hF hG)
  have LE := Lib.hid (dsm_le F G)
  have HF := Lib.hid hF
  have HG := Lib.hid hG
  clear hA hB hF hG
  have l0 : (0 : Int) ≤ (n : Int) := by omega
  go_enter Try.func97, Try.ntmps97
  go_wp2
  go_loopw [7, 12] (fun d v wr => ∃ k : Nat, k ≤ n ∧ v = iv k ∧ d = iv (dsm F G k) ∧ Hid (apv F G bd n = apf F G bd (n - k) k (dsm F G k)) ∧ ∃ m, wr = w.drewN m) (fun _ v _ => n - (intOf v).toNat)
  case atStart => exact ⟨0, by omega, rfl, rfl, Lib.hid rfl, 0, rfl⟩
  case round =>
    obtain ⟨k, hk, rfl, rfl, HE, m, rfl⟩ := hrel
    by_cases hlt : k < n
    · have tA := TA.out (by omega)
      have tD := TD.out (by omega)
      subst tA tD
      have ha := HA.out.cell k hlt
      have hb := HD.out.cell k hlt
      obtain ⟨f0, f1⟩ := HF.out k hlt
      obtain ⟨g0, g1⟩ := HG.out k hlt
      obtain ⟨d0, d1⟩ := BB.out k (by omega)
      have a0 := ab_nn (F k - G k)
      have a1 := ab_hi (x := F k - G k) (by omega)
      have DC := Lib.hid fun (W : World) => dist_any (F k) (G k) ⟨f0, f1⟩ ⟨g0, g1⟩ W
      have SE := Lib.hid (show dsm F G (k + 1) = dsm F G k + ab (F k - G k) from rfl)
      have HS := Lib.hid (show apf F G bd (n - k) k (dsm F G k) = if 0 ≤ bd ∧ bd < dsm F G k + ab (F k - G k) then dsm F G k + ab (F k - G k) else apf F G bd (n - (k + 1)) (k + 1) (dsm F G k + ab (F k - G k)) from by
        obtain ⟨r, hr⟩ : ∃ r, n - k = r + 1 := ⟨n - k - 1, by omega⟩
        rw [hr, show n - (k + 1) = r by omega]
        rfl)
      generalize ab (F k - G k) = z at *
      generalize dsm F G k = D at *
      generalize F k = x at *
      generalize G k = y at *
      have h0 : (0 : Int) ≤ (k : Int) := by omega
      have h1 : (k : Int) < (n : Int) := by omega
      have hz : D + z ≤ 33554432 := by omega
      by_cases b0 : bd < 0
      · have e0 : decide (0 ≤ bd) = false := decide_eq_false (by omega)
        rw [if_neg (by omega)] at HS
        clear b0
        go_wp2_with (go_at_call 99; (with_reducible refine (DC.out _).mono ?_); rintro e w2 ⟨rfl, rfl⟩)
        go_roundw
        case rel => exact ⟨k + 1, by omega, by go_num, by rw [SE.out], Lib.hid (HE.out.trans (by rw [SE.out]; exact HS.out)), m, rfl⟩
        case measure => simp [intOf]; omega
      · have e0 : decide (0 ≤ bd) = true := decide_eq_true (by omega)
        by_cases c0 : bd < D + z
        · have e1 : decide (bd < D + z) = true := decide_eq_true c0
          rw [if_pos (by omega)] at HS
          clear b0 c0
          go_wp2_with (go_at_call 99; (with_reducible refine (DC.out _).mono ?_); rintro e w2 ⟨rfl, rfl⟩)
          go_ret
          exact ⟨(congrArg (fun x => Ending.returned (iv x)) (HE.out.trans HS.out)).symm, m, rfl⟩
        · have e1 : decide (bd < D + z) = false := decide_eq_false c0
          rw [if_neg (by omega)] at HS
          clear b0 c0
          go_wp2_with (go_at_call 99; (with_reducible refine (DC.out _).mono ?_); rintro e w2 ⟨rfl, rfl⟩)
          go_roundw
          case rel => exact ⟨k + 1, by omega, by go_num, by rw [SE.out], Lib.hid (HE.out.trans (by rw [SE.out]; exact HS.out)), m, rfl⟩
          case measure => simp [intOf]; omega
    · have h1 : decide ((k : Int) < (n : Int)) = false := decide_eq_false (by omega)
      have hv := HE.out
      rw [show n - k = 0 by omega, show k = n by omega] at hv
      have HV := Lib.hid (hv.trans (show apf F G bd 0 n (dsm F G n) = dsm F G k from by rw [show k = n by omega]; rfl))
      clear hv
      go_wp2
      go_ret
      exact ⟨(congrArg (fun x => Ending.returned (iv x)) HV.out).symm, m, rfl⟩
def win (xs : Nat → Int) (a : Nat) : Nat → Int := fun i => xs (a + i)
set_option maxHeartbeats 4000000 in
set_option maxRecDepth 100000 in
theorem diff_any (s : S) (A : Option Addr) (n c b o : Nat) (xs : Nat → Int) (wi st en : Nat) (hw1 : 1 ≤ wi) (hw : wi ≤ 256) (hn : n ≤ 5000) (h1 : st + wi ≤ n) (h2 : en + wi ≤ n) (hx : FrB xs n) (w : World) (hA : DataAt w A n b o xs) :
    Calls Try.prog 36 #[.agg (s.cs A n c), iv wi, iv st, iv en] w fun e w' => e = .returned (iv (dsm (win xs st) (win xs en) wi)) ∧ Below w.heap.size w w' := by
  have hF : FrB (win xs st) wi := fun i hi => hx _ (by omega)
  have hG : FrB (win xs en) wi := fun i hi => hx _ (by omega)
  have B0 : Below w.heap.size w (w.alloc (Obj.cells (s.cs A n c) 31)) := (Below.refl _ _).alloc (Nat.le_refl _) _
  have y1 := (bkCell (heap_alloc_new w (Obj.cells (s.cs A n c) 31)) 1).trans (show _ = some (Value.slice A n c) from rfl)
  have HA := Lib.hid (hA.later B0)
  have tA := hA.top (by omega)
  subst tA
  have BB := Lib.hid (dsm_bd hF hG)
  have HF := Lib.hid hF
  have HG := Lib.hid hG
  clear hA hF hG hx
  have l0 : (0 : Int) ≤ (wi : Int) := by omega
  have l1 : (0 : Int) ≤ (st : Int) := by omega
  have l2 : (0 : Int) ≤ (en : Int) := by omega
  go_enter Try.func36, Try.ntmps36
  go_wp2
  generalize w.alloc (Obj.cells (s.cs (some ⟨b, o, none⟩) n c) 31) = w0 at *
  go_loopw [9, 10] (fun d v wr => ∃ k : Nat, k ≤ wi ∧ v = iv k ∧ d = iv (dsm (win xs st) (win xs en) k) ∧ ∃ m, wr = w0.drewN m) (fun _ v _ => wi - (intOf v).toNat)
  case atStart => exact ⟨0, by omega, rfl, rfl, 0, rfl⟩
  case round =>
    obtain ⟨k, hk, rfl, rfl, m, rfl⟩ := hrel
    by_cases hlt : k < wi
    · have ha := HA.out.cell (st + k) (by omega)
      have hb := HA.out.cell (en + k) (by omega)
      obtain ⟨f0, f1⟩ := HF.out k hlt
      obtain ⟨g0, g1⟩ := HG.out k hlt
      obtain ⟨d0, d1⟩ := BB.out k (by omega)
      have SE := Lib.hid (show dsm (win xs st) (win xs en) (k + 1) = dsm (win xs st) (win xs en) k + ab (win xs st k - win xs en k) from rfl)
      have a0 := ab_nn (win xs st k - win xs en k)
      have a1 := ab_hi (x := win xs st k - win xs en k) (by omega)
      have DC := Lib.hid fun (W : World) => abs_any (win xs st k - win xs en k) (by omega) (by omega) W
      change _ = some (iv (win xs st k)) at ha
      change _ = some (iv (win xs en k)) at hb
      generalize ab (win xs st k - win xs en k) = z at *
      generalize dsm (win xs st) (win xs en) k = D at *
      generalize win xs st k = x at *
      generalize win xs en k = y at *
      have h0 : (0 : Int) ≤ (k : Int) := by omega
      have h3 : (k : Int) < (wi : Int) := by omega
      have hz : D + z ≤ 33554432 := by omega
      have q1 : (st : Int) + k < (n : Int) := by omega
      have q2 : (en : Int) + k < (n : Int) := by omega
      have w1 : IntKind.i64.wrap ((st : Int) + k) = (st : Int) + k := IntWalk.i64_in _ (by omega)
      have w2 : IntKind.i64.wrap ((en : Int) + k) = (en : Int) + k := IntWalk.i64_in _ (by omega)
      have w3 : IntKind.i64.wrap (x - y) = x - y := IntWalk.i64_in _ (by omega)
      have w4 : IntKind.i64.wrap (D + z) = D + z := IntWalk.i64_in _ (by omega)
      have t1 : ((st : Int) + k).toNat = st + k := by omega
      have t2 : ((en : Int) + k).toNat = en + k := by omega
      have p1 : (0 : Int) ≤ (st : Int) + k := by omega
      have p2 : (0 : Int) ≤ (en : Int) + k := by omega
      go_wp2
      go_quiet ((go_at_call 98; first | exact quietL (DC.out _) | exact Calls.quiet_of_same (DC.out _)))
      clear w1 w2 w3 w4 t1 t2
      go_wp2
      go_roundw
      case rel => exact ⟨k + 1, by omega, by go_num, by rw [SE.out], _, rfl⟩
      case measure => simp [intOf]; omega
    · have h1 : decide ((k : Int) < (wi : Int)) = false := decide_eq_false (by omega)
      obtain rfl : k = wi := by omega
      go_wp2
      go_ret
      exact ⟨rfl, bdN B0 m⟩
/-- what a loop may be -/
def alB (n wi : Nat) (least st en : Int) : Bool := decide (0 ≤ st ∧ st < en ∧ en ≤ (n : Int) - wi ∧ least ≤ en - st ∧ (n ≤ 512 ∨ st % 8 = 0 ∧ en % 8 = 0))
set_option maxHeartbeats 4000000 in
set_option maxRecDepth 100000 in
theorem allowed_any (s : S) (A : Option Addr) (n c wi : Nat) (least st en : Int) (hw : wi ≤ 256) (hn : n ≤ 5000) (hl : 1 ≤ least) (hs : -9223372036854775808 ≤ st ∧ st ≤ 9223372036854775807) (he : -9223372036854775808 ≤ en ∧ en ≤ 9223372036854775807) (w : World) :
    Calls Try.prog 35 #[.agg (s.cs A n c), iv wi, iv least, iv st, iv en] w fun e w' => e = .returned (.bool (alB n wi least st en)) ∧ Below w.heap.size w w' := by
  have B0 : Below w.heap.size w (w.alloc (Obj.cells (s.cs A n c) 31)) := (Below.refl _ _).alloc (Nat.le_refl _) _
  have y1 := (bkCell (heap_alloc_new w (Obj.cells (s.cs A n c) 31)) 1).trans (show _ = some (Value.slice A n c) from rfl)
  have l0 : (0 : Int) ≤ (wi : Int) := by omega
  have l1 : (0 : Int) ≤ (n : Int) := by omega
  by_cases c1 : st < 0
  · have d1 : decide (st < 0) = true := decide_eq_true (by omega)
    rw [show alB n wi least st en = false from decide_eq_false (by omega)]
    clear c1 hs he
    go_enter Try.func35, Try.ntmps35
    go_wp2
    go_ret
    exact ⟨rfl, B0⟩
  have d1 : decide (st < 0) = false := decide_eq_false (by omega)
  by_cases c2 : en ≤ st
  · have d2 : decide (en ≤ st) = true := decide_eq_true (by omega)
    rw [show alB n wi least st en = false from decide_eq_false (by omega)]
    clear c1 c2 hs he
    go_enter Try.func35, Try.ntmps35
    go_wp2
    go_ret
    exact ⟨rfl, B0⟩
  have d2 : decide (en ≤ st) = false := decide_eq_false (by omega)
  by_cases c3 : (n : Int) - wi < en
  · have d3 : decide ((n : Int) - wi < en) = true := decide_eq_true (by omega)
    rw [show alB n wi least st en = false from decide_eq_false (by omega)]
    clear c1 c2 c3 hs he
    go_enter Try.func35, Try.ntmps35
    go_wp2
    go_ret
    exact ⟨rfl, B0⟩
  have d3 : decide ((n : Int) - wi < en) = false := decide_eq_false (by omega)
  have e1 : en ≤ 5000 := by omega
  have e2 : 0 ≤ st := by omega
  have e3 : st ≤ 5000 := by omega
  have e4 : 0 ≤ en := by omega
  by_cases c4 : en - st < least
  · have d4 : decide (en - st < least) = true := decide_eq_true (by omega)
    rw [show alB n wi least st en = false from decide_eq_false (by omega)]
    clear c1 c2 c3 c4 hs he
    go_enter Try.func35, Try.ntmps35
    go_wp2
    go_ret
    exact ⟨rfl, B0⟩
  have d4 : decide (en - st < least) = false := decide_eq_false (by omega)
  by_cases c5 : n ≤ 512
  · have d5 : decide ((n : Int) ≤ 512) = true := decide_eq_true (by omega)
    rw [show alB n wi least st en = true from decide_eq_true (by omega)]
    clear c1 c2 c3 c4 c5 hs he
    go_enter Try.func35, Try.ntmps35
    go_wp2
    go_ret
    exact ⟨rfl, B0⟩
  have d5 : decide ((n : Int) ≤ 512) = false := decide_eq_false (by omega)
  by_cases c6 : st % 8 = 0
  · have d6 : (st % 8 == 0) = true := by simp [c6]
    by_cases c7 : en % 8 = 0
    · have d7 : (en % 8 == 0) = true := by simp [c7]
      rw [show alB n wi least st en = true from decide_eq_true (by omega)]
      clear c1 c2 c3 c4 c5 c6 c7 hs he
      go_enter Try.func35, Try.ntmps35
      go_wp2
      go_ret
      exact ⟨rfl, B0⟩
    · have d7 : (en % 8 == 0) = false := by simp [c7]
      rw [show alB n wi least st en = false from decide_eq_false (by omega)]
      clear c1 c2 c3 c4 c5 c6 c7 hs he
      go_enter Try.func35, Try.ntmps35
      go_wp2
      go_ret
      exact ⟨rfl, B0⟩
  · have d6 : (st % 8 == 0) = false := by simp [c6]
    rw [show alB n wi least st en = false from decide_eq_false (by omega)]
    clear c1 c2 c3 c4 c5 c6 hs he
    go_enter Try.func35, Try.ntmps35
    go_wp2
    go_ret
    exact ⟨rfl, B0⟩
end Go.Proofs.Ytfodpoccjdaaaaa.SX
