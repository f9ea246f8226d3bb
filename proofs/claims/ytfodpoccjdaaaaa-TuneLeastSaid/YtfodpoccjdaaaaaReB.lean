/- The loop that is found: none that is allowed differs less. -/
import Derived.Test.YtfodpoccjdaaaaaReA
namespace Go.Proofs.Ytfodpoccjdaaaaa.SX
open Go.RowKit Go.Proofs.YtfodpoccjdaaaaaW.PrintLast Go.Proofs.Ytfodpoccjdaaaaa.TX
set_option linter.unusedVariables false
set_option linter.unusedSimpArgs false
theorem results_tmp4 {fn : Func} {t u v x : Tmp} (h : fn.results = #[.tmp t, .tmp u, .tmp v, .tmp x]) (tmps : Array Value) (P : Program) (w : World) :
    (results fn tmps).run P w = .ok (.tuple #[tmps.getD t undef, tmps.getD u undef, tmps.getD v undef, tmps.getD x undef]) w := by simp [results, h]
/-- the places where a loop may lie -/
def Alw (n wi L bs p q : Nat) : Prop := p % bs = 0 ∧ q % bs = 0 ∧ p + L ≤ q ∧ q + wi ≤ n
/-- the least difference among the places that were looked at -/
def FIp (D : Nat → Nat → Int) (Al Bf : Nat → Nat → Prop) (best st en : Int) : Prop :=
  (best = -1 ∧ ∀ p q, Al p q → ¬ Bf p q) ∨ (0 ≤ best ∧ ∃ p q : Nat, st = p ∧ en = q ∧ Al p q ∧ D p q = best ∧ ∀ p' q', Al p' q' → Bf p' q' → best ≤ D p' q')
theorem FIp.imp {D : Nat → Nat → Int} {Al Bf Bf' : Nat → Nat → Prop} {b s e : Int} (h : FIp D Al Bf b s e) (i : ∀ p q, Al p q → Bf' p q → Bf p q) : FIp D Al Bf' b s e := by
  rcases h with ⟨h0, h1⟩ | ⟨h0, p, q, h1, h2, h3, h4, h5⟩
  · exact .inl ⟨h0, fun p q ha hb => h1 p q ha (i p q ha hb)⟩
  · exact .inr ⟨h0, p, q, h1, h2, h3, h4, fun p' q' ha hb => h5 p' q' ha (i p' q' ha hb)⟩
theorem FIp.skip {D : Nat → Nat → Int} {Al Bf Bf' : Nat → Nat → Prop} {b s e : Int} (h : FIp D Al Bf b s e) (x y : Nat) (hb : 0 ≤ b) (hd : b ≤ D x y) (i : ∀ p q, Al p q → Bf' p q → Bf p q ∨ (p = x ∧ q = y)) : FIp D Al Bf' b s e := by
  rcases h with ⟨h0, h1⟩ | ⟨h0, p, q, h1, h2, h3, h4, h5⟩
  · omega
  · refine .inr ⟨h0, p, q, h1, h2, h3, h4, fun p' q' ha hb => ?_⟩
    rcases i p' q' ha hb with h | ⟨rfl, rfl⟩
    · exact h5 p' q' ha h
    · exact hd
theorem FIp.take {D : Nat → Nat → Int} {Al Bf Bf' : Nat → Nat → Prop} {b s e : Int} (h : FIp D Al Bf b s e) (x y : Nat) (hA : Al x y) (d : Int) (h0 : 0 ≤ d) (hD : D x y = d) (hb : b < 0 ∨ d ≤ b) (i : ∀ p q, Al p q → Bf' p q → Bf p q ∨ (p = x ∧ q = y)) : FIp D Al Bf' d x y := by
  refine .inr ⟨h0, x, y, rfl, rfl, hA, hD, fun p' q' ha hb' => ?_⟩
  rcases i p' q' ha hb' with h6 | ⟨rfl, rfl⟩
  · rcases h with ⟨h7, h1⟩ | ⟨h7, p, q, h1, h2, h3, h4, h5⟩
    · exact absurd h6 (h1 p' q' ha)
    · have := h5 p' q' ha h6
      omega
  · omega
def DD (xs : Nat → Int) (wi a b : Nat) : Int := dsm (win xs a) (win xs b) wi
theorem quietD {P : Program} {f : FuncId} {args : Array Value} {w : World} {a n : Nat} {v : Value}
    (h : Calls P f args (w.drewN (a + n)) fun e w' => e = .returned v ∧ ∃ m, w' = (w.drewN (a + n)).drewN m) :
    Calls P f args (w.drewN (a + n)) fun e w'' => e = .returned v ∧ ∃ m, w'' = w.drewN (a + m) :=
  h.mono fun _ _ ⟨he, m, hm⟩ => ⟨he, n + m, by rw [hm, World.drewN_drewN, Nat.add_assoc]⟩
theorem DataAt_win {w : World} {n b o : Nat} {xs : Nat → Int} (h : DataAt w (some ⟨b, o, none⟩) n b o xs) (a wi : Nat) (hi : a + wi ≤ n) : DataAt w (some ⟨b, o + a, none⟩) wi b (o + a) (win xs a) where
  top _ := rfl
  low hp := h.low (by omega)
  cell i hi' := by rw [Nat.add_assoc]; exact h.cell (a + i) (by omega)
def FRes (D : Nat → Nat → Int) (Al : Nat → Nat → Prop) (st en best er : Int) : Prop :=
  (er = 7 ∧ ∀ p q, ¬ Al p q) ∨ (er = 0 ∧ 0 ≤ best ∧ ∃ p q : Nat, st = p ∧ en = q ∧ Al p q ∧ D p q = best ∧ ∀ p' q', Al p' q' → best ≤ D p' q')
theorem FIp.none_ {D : Nat → Nat → Int} {Al Bf : Nat → Nat → Prop} {b s e : Int} (h : FIp D Al Bf b s e) (hb : b < 0) (hall : ∀ p q, Al p q → Bf p q) (x y z : Int) : FRes D Al x y z 7 := by
  rcases h with ⟨h0, h1⟩ | ⟨h0, _⟩
  · exact .inl ⟨rfl, fun p q ha => h1 p q ha (hall p q ha)⟩
  · omega
theorem FIp.some_ {D : Nat → Nat → Int} {Al Bf : Nat → Nat → Prop} {b s e : Int} (h : FIp D Al Bf b s e) (hb : 0 ≤ b) (hall : ∀ p q, Al p q → Bf p q) : FRes D Al s e b 0 := by
  rcases h with ⟨h0, h1⟩ | ⟨h0, p, q, h1, h2, h3, h4, h5⟩
  · omega
  · exact .inr ⟨rfl, h0, p, q, h1, h2, h3, h4, fun p' q' ha => h5 p' q' ha (hall p' q' ha)⟩
set_option maxHeartbeats 16000000 in
set_option maxRecDepth 100000 in
theorem find_1 (s : S) (A : Option Addr) (n c b o : Nat) (xs : Nat → Int) (wi L : Nat) (hv : vS s n xs = true) (hby : n ≤ 512) (hw1 : 1 ≤ wi) (hw2 : wi ≤ 256) (hL1 : 1 ≤ L) (hL2 : L ≤ 4096) (hn : n ≤ 4096) (hc : n ≤ c) (hx : FrB xs n) (w : World) (hA : DataAt w A n b o xs) :
    Calls Try.prog 34 #[.agg (s.cs A n c), iv wi, iv L] w fun e w' => ∃ st en best er : Int, e = .returned (.tuple #[iv st, iv en, iv best, iv er]) ∧ FRes (DD xs wi) (Alw n wi L 1) st en best er ∧ Below w.heap.size w w' := by
  have B0 : Below w.heap.size w (w.alloc (Obj.cells (s.cs A n c) 31)) := (Below.refl _ _).alloc (Nat.le_refl _) _
  have P0 := Lib.hid (heap_alloc_new w (Obj.cells (s.cs A n c) 31))
  have D0 := Lib.hid (hA.later B0)
  have VC := Lib.hid fun (W : World) (h : DataAt W A n b o xs) => (show Calls Try.prog 95 #[.agg (s.cs A n c)] W fun e w' => e = .returned (.bool true) ∧ Below W.heap.size W w' from hv ▸ valid_any s A n c b o xs (by omega) hc W h)
  have HX := Lib.hid hx
  have TA := Lib.hid hA.top
  have y1 : (s.cs A n c)[1]? = some (Value.slice A n c) := rfl
  have Y1 := Lib.hid y1
  clear hv hA hx y1
  have dn : decide (512 < (n : Int)) = false := decide_eq_false (by omega)
  have dn2 : decide (512 < n) = false := decide_eq_false (by omega)
  go_enter Try.func34, Try.ntmps34
  go_upto_region 3 with (first
    | (refine wpList_load_row rfl 31 (.tmp 3) rfl (w.heap.size) rfl 31 _ (0, 0) _ P0.out Try.underlying31 rfl (S.i24 _ _ _ _) ?_)
    | (go_at_call 95; (with_reducible refine (VC.out _ D0.out).mono ?_); rintro e w1 ⟨rfl, hb1⟩; have P1 := Lib.hid (bkBelow P0.out hb1); have D1 := Lib.hid (D0.out.later hb1); have B1 := bdT B0 B0.size hb1; clear hb1))
  have z1 := (bkCell P1.out 1).trans Y1.out
  go_wp2_with (first
    | (go_at_call 96; (with_reducible refine (in_yes (wi : Int) 1 256 _ (by omega) (by omega)).mono ?_); rintro e w9 ⟨rfl, rfl⟩)
    | (go_at_call 96; (with_reducible refine (in_yes (L : Int) 1 4096 _ (by omega) (by omega)).mono ?_); rintro e w9 ⟨rfl, rfl⟩))
  clear dn dn2 z1
  go_loopw [6, 7, 11, 12] (fun st en be v wr => ∃ (a : Nat) (be' st' en' : Int), v = iv a ∧ a % 1 = 0 ∧ a ≤ n + 8 ∧ st = iv st' ∧ en = iv en' ∧ be = iv be' ∧ Hid (FIp (DD xs wi) (Alw n wi L 1) (fun p q => p < a) be' st' en') ∧ ∃ m, wr = w1.drewN m) (fun _ _ _ v _ => n + 16 - (intOf v).toNat)
  case atStart => exact ⟨0, -1, 0, 0, rfl, rfl, by omega, rfl, rfl, rfl, Lib.hid (.inl ⟨rfl, fun p q _ h => by omega⟩), 0, rfl⟩
  case round =>
    obtain ⟨a, be, st, en, rfl, ha8, han, rfl, rfl, rfl, HF, m, rfl⟩ := hrel
    have z1 := (bkCell P1.out 1).trans Y1.out
    have g0 : (0 : Int) ≤ (a : Int) := by omega
    by_cases hlt : a + L + wi ≤ n
    · have d1 : decide ((a : Int) + L ≤ (n : Int) - wi) = true := decide_eq_true (by omega)
      obtain ⟨b0, hb0, hb8, hb1, hb2⟩ : ∃ b0 : Nat, ((a : Int) + L : Int) = (b0 : Int) ∧ b0 % 1 = 0 ∧ a + L ≤ b0 ∧ b0 ≤ a + L + 0 := ⟨(a + L + 1 - 1) / 1 * 1, by omega, by omega, by omega, by omega⟩
      have HB0 := Lib.hid hb0
      clear hb0
      go_wp2
      clear d1
      go_loopw [6, 7, 11, 13] (fun st en be v wr => ∃ (b_ : Nat) (be' st' en' : Int), v = iv b_ ∧ b_ % 1 = 0 ∧ a + L ≤ b_ ∧ b_ ≤ n + 8 ∧ st = iv st' ∧ en = iv en' ∧ be = iv be' ∧ Hid (FIp (DD xs wi) (Alw n wi L 1) (fun p q => p < a ∨ p = a ∧ q < b_) be' st' en') ∧ ∃ m, wr = w1.drewN m) (fun _ _ _ v _ => n + 16 - (intOf v).toNat)
      case atStart => exact ⟨b0, be, st, en, congrArg (fun x => Value.int .i64 x) HB0.out, hb8, hb1, by omega, rfl, rfl, rfl, Lib.hid (HF.out.imp (fun p q ha hb => by have := ha.2.1; have := ha.2.2.1; omega)), _, rfl⟩
      case round =>
        obtain ⟨b_, be2, st2, en2, rfl, hq8, hql, hqn, rfl, rfl, rfl, HF2, m2, rfl⟩ := hrel
        clear HF HB0
        have g1 : (0 : Int) ≤ (b_ : Int) := by omega
        by_cases hb : b_ + wi ≤ n
        · have d1 : decide ((b_ : Int) ≤ (n : Int) - wi) = true := decide_eq_true (by omega)
          have tA := TA.out (by omega)
          subst tA
          have hFa : FrB (win xs a) wi := fun i hi => HX.out _ (by omega)
          have hFb : FrB (win xs b_) wi := fun i hi => HX.out _ (by omega)
          have AC := Lib.hid fun (k : Nat) => apart_any (some ⟨b, o + a, none⟩) (some ⟨b, o + b_, none⟩) wi (c - a) (c - b_) b (o + a) b (o + b_) (win xs a) (win xs b_) be2 hw2 hFa hFb (w1.drewN k) ((DataAt_win D1.out a wi (by omega)).later (bdN (Below.refl _ _) k)) ((DataAt_win D1.out b_ wi hb).later (bdN (Below.refl _ _) k))
          have HAl := Lib.hid (show Alw n wi L 1 a b_ from ⟨ha8, hq8, hql, hb⟩)
          have HZ := Lib.hid (show 0 ≤ apv (win xs a) (win xs b_) be2 wi ∧ apv (win xs a) (win xs b_) be2 wi ≤ DD xs wi a b_ ∧ ((be2 < 0 ∨ apv (win xs a) (win xs b_) be2 wi ≤ be2) → DD xs wi a b_ = apv (win xs a) (win xs b_) be2 wi) from by
            have h1 := apv_ap (win xs a) (win xs b_) be2 wi
            have h2 := dsm_bd hFa hFb wi (Nat.le_refl _)
            unfold DD
            omega)
          clear hFa hFb
          generalize apv (win xs a) (win xs b_) be2 wi = V at *
          have w1' : IntKind.i64.wrap ((a : Int) + wi) = (a : Int) + wi := IntWalk.i64_in _ (by omega)
          have w2' : IntKind.i64.wrap ((b_ : Int) + wi) = (b_ : Int) + wi := IntWalk.i64_in _ (by omega)
          have t1 : ((a : Int) + wi).toNat = a + wi := by omega
          have t2 : ((b_ : Int) + wi).toNat = b_ + wi := by omega
          have p1 : (0 : Int) ≤ (a : Int) + wi := by omega
          have p2 : (0 : Int) ≤ (b_ : Int) + wi := by omega
          have p3 : (a : Int) ≤ (a : Int) + wi := by omega
          have p4 : (b_ : Int) ≤ (b_ : Int) + wi := by omega
          have p5 : (a : Int) + wi ≤ (c : Int) := by omega
          have p6 : (b_ : Int) + wi ≤ (c : Int) := by omega
          go_wp2
          go_quiet ((go_at_call 97; exact quietD (AC.out _)))
          clear w1' w2' t1 t2 p1 p2 p3 p4 p5 p6 AC d1
          by_cases x1 : be2 < 0
          · have q1 : decide (be2 < 0) = true := decide_eq_true (by omega)
            have HN := Lib.hid (show FIp (DD xs wi) (Alw n wi L 1) (fun p q => p < a ∨ p = a ∧ q < b_ + 1) V a b_ from (HF2.out.take a b_ HAl.out V HZ.out.1 (HZ.out.2.2 (by omega)) (by omega) (fun p q ha hb => by have := ha.2.1; omega)))
            clear HF2 HZ HAl x1
            go_wp2
            go_roundw
            case rel => exact ⟨b_ + 1, V, a, b_, by go_num, by omega, by omega, by omega, rfl, rfl, rfl, HN, _, rfl⟩
            case measure => simp [intOf]; omega
          · have q1 : decide (be2 < 0) = false := decide_eq_false (by omega)
            by_cases x2 : V < be2
            · have q2 : decide (V < be2) = true := decide_eq_true (by omega)
              have HN := Lib.hid (show FIp (DD xs wi) (Alw n wi L 1) (fun p q => p < a ∨ p = a ∧ q < b_ + 1) V a b_ from (HF2.out.take a b_ HAl.out V HZ.out.1 (HZ.out.2.2 (by omega)) (by omega) (fun p q ha hb => by have := ha.2.1; omega)))
              clear HF2 HZ HAl x1 x2
              go_wp2
              go_roundw
              case rel => exact ⟨b_ + 1, V, a, b_, by go_num, by omega, by omega, by omega, rfl, rfl, rfl, HN, _, rfl⟩
              case measure => simp [intOf]; omega
            · have q2 : decide (V < be2) = false := decide_eq_false (by omega)
              by_cases x3 : V = be2
              · have q3 : (V == be2) = true := by simp [x3]
                by_cases x4 : en2 < b_
                · have q4 : decide (en2 < (b_ : Int)) = true := decide_eq_true (by omega)
                  have HN := Lib.hid (show FIp (DD xs wi) (Alw n wi L 1) (fun p q => p < a ∨ p = a ∧ q < b_ + 1) V a b_ from (HF2.out.take a b_ HAl.out V HZ.out.1 (HZ.out.2.2 (by omega)) (by omega) (fun p q ha hb => by have := ha.2.1; omega)))
                  clear HF2 HZ HAl x1 x2 x3 x4
                  go_wp2
                  go_roundw
                  case rel => exact ⟨b_ + 1, V, a, b_, by go_num, by omega, by omega, by omega, rfl, rfl, rfl, HN, _, rfl⟩
                  case measure => simp [intOf]; omega
                · have q4 : decide (en2 < (b_ : Int)) = false := decide_eq_false (by omega)
                  by_cases x5 : (b_ : Int) = en2
                  · have q5 : ((b_ : Int) == en2) = true := by simp [x5]
                    by_cases x6 : st2 < a
                    · have q6 : decide (st2 < (a : Int)) = true := decide_eq_true (by omega)
                      have HN := Lib.hid (show FIp (DD xs wi) (Alw n wi L 1) (fun p q => p < a ∨ p = a ∧ q < b_ + 1) V a b_ from (HF2.out.take a b_ HAl.out V HZ.out.1 (HZ.out.2.2 (by omega)) (by omega) (fun p q ha hb => by have := ha.2.1; omega)))
                      clear HF2 HZ HAl x1 x2 x3 x4 x5 x6
                      go_wp2
                      go_roundw
                      case rel => exact ⟨b_ + 1, V, a, b_, by go_num, by omega, by omega, by omega, rfl, rfl, rfl, HN, _, rfl⟩
                      case measure => simp [intOf]; omega
                    · have q6 : decide (st2 < (a : Int)) = false := decide_eq_false (by omega)
                      have HN := Lib.hid (show FIp (DD xs wi) (Alw n wi L 1) (fun p q => p < a ∨ p = a ∧ q < b_ + 1) be2 st2 en2 from (HF2.out.skip a b_ (by omega) (Int.le_trans (by omega) HZ.out.2.1) (fun p q ha hb => by have := ha.2.1; omega)))
                      clear HF2 HZ HAl x1 x2 x3 x4 x5 x6
                      go_wp2
                      go_roundw
                      case rel => exact ⟨b_ + 1, be2, st2, en2, by go_num, by omega, by omega, by omega, rfl, rfl, rfl, HN, _, rfl⟩
                      case measure => simp [intOf]; omega
                  · have q5 : ((b_ : Int) == en2) = false := by simp [x5]
                    have HN := Lib.hid (show FIp (DD xs wi) (Alw n wi L 1) (fun p q => p < a ∨ p = a ∧ q < b_ + 1) be2 st2 en2 from (HF2.out.skip a b_ (by omega) (Int.le_trans (by omega) HZ.out.2.1) (fun p q ha hb => by have := ha.2.1; omega)))
                    clear HF2 HZ HAl x1 x2 x3 x4 x5
                    go_wp2
                    go_roundw
                    case rel => exact ⟨b_ + 1, be2, st2, en2, by go_num, by omega, by omega, by omega, rfl, rfl, rfl, HN, _, rfl⟩
                    case measure => simp [intOf]; omega
              · have q3 : (V == be2) = false := by simp [x3]
                have HN := Lib.hid (show FIp (DD xs wi) (Alw n wi L 1) (fun p q => p < a ∨ p = a ∧ q < b_ + 1) be2 st2 en2 from (HF2.out.skip a b_ (by omega) (Int.le_trans (by omega) HZ.out.2.1) (fun p q ha hb => by have := ha.2.1; omega)))
                clear HF2 HZ HAl x1 x2 x3
                go_wp2
                go_roundw
                case rel => exact ⟨b_ + 1, be2, st2, en2, by go_num, by omega, by omega, by omega, rfl, rfl, rfl, HN, _, rfl⟩
                case measure => simp [intOf]; omega
        · have d1 : decide ((b_ : Int) ≤ (n : Int) - wi) = false := decide_eq_false (by omega)
          go_wp2
          go_roundw
          case rel => exact ⟨a + 1, be2, st2, en2, by go_num, by omega, by omega, rfl, rfl, rfl, Lib.hid (HF2.out.imp (fun p q ha hb => by have := ha.1; have := ha.2.2.2; omega)), _, rfl⟩
          case measure => simp [intOf]; omega
    · have d1 : decide ((a : Int) + L ≤ (n : Int) - wi) = false := decide_eq_false (by omega)
      have hall : ∀ p q, Alw n wi L 1 p q → p < a := fun p q h => by have := h.2.2.1; have := h.2.2.2; omega
      by_cases hb : be < 0
      · have e1 : decide (be < 0) = true := decide_eq_true hb
        have HR := Lib.hid (HF.out.none_ hb hall 0 0 0)
        clear hall HF
        go_wp2
        refine bodyPost_ret (results_tmp4 rfl _ _ _) rfl ?_
        exact ⟨0, 0, 0, 7, rfl, HR.out, bdN B1 m⟩
      · have e1 : decide (be < 0) = false := decide_eq_false hb
        have HR := Lib.hid (HF.out.some_ (by omega) hall)
        clear hall HF
        go_wp2
        refine bodyPost_ret (results_tmp4 rfl _ _ _) rfl ?_
        exact ⟨st, en, be, 0, rfl, HR.out, bdN B1 m⟩
set_option maxHeartbeats 16000000 in
set_option maxRecDepth 100000 in
theorem find_8 (s : S) (A : Option Addr) (n c b o : Nat) (xs : Nat → Int) (wi L : Nat) (hv : vS s n xs = true) (hby : 512 < n) (hw1 : 1 ≤ wi) (hw2 : wi ≤ 256) (hL1 : 1 ≤ L) (hL2 : L ≤ 4096) (hn : n ≤ 4096) (hc : n ≤ c) (hx : FrB xs n) (w : World) (hA : DataAt w A n b o xs) :
    Calls Try.prog 34 #[.agg (s.cs A n c), iv wi, iv L] w fun e w' => ∃ st en best er : Int, e = .returned (.tuple #[iv st, iv en, iv best, iv er]) ∧ FRes (DD xs wi) (Alw n wi L 8) st en best er ∧ Below w.heap.size w w' := by
  have B0 : Below w.heap.size w (w.alloc (Obj.cells (s.cs A n c) 31)) := (Below.refl _ _).alloc (Nat.le_refl _) _
  have P0 := Lib.hid (heap_alloc_new w (Obj.cells (s.cs A n c) 31))
  have D0 := Lib.hid (hA.later B0)
  have VC := Lib.hid fun (W : World) (h : DataAt W A n b o xs) => (show Calls Try.prog 95 #[.agg (s.cs A n c)] W fun e w' => e = .returned (.bool true) ∧ Below W.heap.size W w' from hv ▸ valid_any s A n c b o xs (by omega) hc W h)
  have HX := Lib.hid hx
  have TA := Lib.hid hA.top
  have y1 : (s.cs A n c)[1]? = some (Value.slice A n c) := rfl
  have Y1 := Lib.hid y1
  clear hv hA hx y1
  have dn : decide (512 < (n : Int)) = true := decide_eq_true (by omega)
  have dn2 : decide (512 < n) = true := decide_eq_true (by omega)
  go_enter Try.func34, Try.ntmps34
  go_upto_region 3 with (first
    | (refine wpList_load_row rfl 31 (.tmp 3) rfl (w.heap.size) rfl 31 _ (0, 0) _ P0.out Try.underlying31 rfl (S.i24 _ _ _ _) ?_)
    | (go_at_call 95; (with_reducible refine (VC.out _ D0.out).mono ?_); rintro e w1 ⟨rfl, hb1⟩; have P1 := Lib.hid (bkBelow P0.out hb1); have D1 := Lib.hid (D0.out.later hb1); have B1 := bdT B0 B0.size hb1; clear hb1))
  have z1 := (bkCell P1.out 1).trans Y1.out
  go_wp2_with (first
    | (go_at_call 96; (with_reducible refine (in_yes (wi : Int) 1 256 _ (by omega) (by omega)).mono ?_); rintro e w9 ⟨rfl, rfl⟩)
    | (go_at_call 96; (with_reducible refine (in_yes (L : Int) 1 4096 _ (by omega) (by omega)).mono ?_); rintro e w9 ⟨rfl, rfl⟩))
  clear dn dn2 z1
  go_loopw [6, 7, 11, 12] (fun st en be v wr => ∃ (a : Nat) (be' st' en' : Int), v = iv a ∧ a % 8 = 0 ∧ a ≤ n + 8 ∧ st = iv st' ∧ en = iv en' ∧ be = iv be' ∧ Hid (FIp (DD xs wi) (Alw n wi L 8) (fun p q => p < a) be' st' en') ∧ ∃ m, wr = w1.drewN m) (fun _ _ _ v _ => n + 16 - (intOf v).toNat)
  case atStart => exact ⟨0, -1, 0, 0, rfl, rfl, by omega, rfl, rfl, rfl, Lib.hid (.inl ⟨rfl, fun p q _ h => by omega⟩), 0, rfl⟩
  case round =>
    obtain ⟨a, be, st, en, rfl, ha8, han, rfl, rfl, rfl, HF, m, rfl⟩ := hrel
    have z1 := (bkCell P1.out 1).trans Y1.out
    have g0 : (0 : Int) ≤ (a : Int) := by omega
    by_cases hlt : a + L + wi ≤ n
    · have d1 : decide ((a : Int) + L ≤ (n : Int) - wi) = true := decide_eq_true (by omega)
      obtain ⟨b0, hb0, hb8, hb1, hb2⟩ : ∃ b0 : Nat, (((a : Int) + L + 8 - 1) / 8 * 8 : Int) = (b0 : Int) ∧ b0 % 8 = 0 ∧ a + L ≤ b0 ∧ b0 ≤ a + L + 7 := ⟨(a + L + 8 - 1) / 8 * 8, by omega, by omega, by omega, by omega⟩
      have HB0 := Lib.hid hb0
      clear hb0
      go_wp2
      clear d1
      go_loopw [6, 7, 11, 13] (fun st en be v wr => ∃ (b_ : Nat) (be' st' en' : Int), v = iv b_ ∧ b_ % 8 = 0 ∧ a + L ≤ b_ ∧ b_ ≤ n + 8 ∧ st = iv st' ∧ en = iv en' ∧ be = iv be' ∧ Hid (FIp (DD xs wi) (Alw n wi L 8) (fun p q => p < a ∨ p = a ∧ q < b_) be' st' en') ∧ ∃ m, wr = w1.drewN m) (fun _ _ _ v _ => n + 16 - (intOf v).toNat)
      case atStart => exact ⟨b0, be, st, en, congrArg (fun x => Value.int .i64 x) HB0.out, hb8, hb1, by omega, rfl, rfl, rfl, Lib.hid (HF.out.imp (fun p q ha hb => by have := ha.2.1; have := ha.2.2.1; omega)), _, rfl⟩
      case round =>
        obtain ⟨b_, be2, st2, en2, rfl, hq8, hql, hqn, rfl, rfl, rfl, HF2, m2, rfl⟩ := hrel
        clear HF HB0
        have g1 : (0 : Int) ≤ (b_ : Int) := by omega
        by_cases hb : b_ + wi ≤ n
        · have d1 : decide ((b_ : Int) ≤ (n : Int) - wi) = true := decide_eq_true (by omega)
          have tA := TA.out (by omega)
          subst tA
          have hFa : FrB (win xs a) wi := fun i hi => HX.out _ (by omega)
          have hFb : FrB (win xs b_) wi := fun i hi => HX.out _ (by omega)
          have AC := Lib.hid fun (k : Nat) => apart_any (some ⟨b, o + a, none⟩) (some ⟨b, o + b_, none⟩) wi (c - a) (c - b_) b (o + a) b (o + b_) (win xs a) (win xs b_) be2 hw2 hFa hFb (w1.drewN k) ((DataAt_win D1.out a wi (by omega)).later (bdN (Below.refl _ _) k)) ((DataAt_win D1.out b_ wi hb).later (bdN (Below.refl _ _) k))
          have HAl := Lib.hid (show Alw n wi L 8 a b_ from ⟨ha8, hq8, hql, hb⟩)
          have HZ := Lib.hid (show 0 ≤ apv (win xs a) (win xs b_) be2 wi ∧ apv (win xs a) (win xs b_) be2 wi ≤ DD xs wi a b_ ∧ ((be2 < 0 ∨ apv (win xs a) (win xs b_) be2 wi ≤ be2) → DD xs wi a b_ = apv (win xs a) (win xs b_) be2 wi) from by
            have h1 := apv_ap (win xs a) (win xs b_) be2 wi
            have h2 := dsm_bd hFa hFb wi (Nat.le_refl _)
            unfold DD
            omega)
          clear hFa hFb
          generalize apv (win xs a) (win xs b_) be2 wi = V at *
          have w1' : IntKind.i64.wrap ((a : Int) + wi) = (a : Int) + wi := IntWalk.i64_in _ (by omega)
          have w2' : IntKind.i64.wrap ((b_ : Int) + wi) = (b_ : Int) + wi := IntWalk.i64_in _ (by omega)
          have t1 : ((a : Int) + wi).toNat = a + wi := by omega
          have t2 : ((b_ : Int) + wi).toNat = b_ + wi := by omega
          have p1 : (0 : Int) ≤ (a : Int) + wi := by omega
          have p2 : (0 : Int) ≤ (b_ : Int) + wi := by omega
          have p3 : (a : Int) ≤ (a : Int) + wi := by omega
          have p4 : (b_ : Int) ≤ (b_ : Int) + wi := by omega
          have p5 : (a : Int) + wi ≤ (c : Int) := by omega
          have p6 : (b_ : Int) + wi ≤ (c : Int) := by omega
          go_wp2
          go_quiet ((go_at_call 97; exact quietD (AC.out _)))
          clear w1' w2' t1 t2 p1 p2 p3 p4 p5 p6 AC d1
          by_cases x1 : be2 < 0
          · have q1 : decide (be2 < 0) = true := decide_eq_true (by omega)
            have HN := Lib.hid (show FIp (DD xs wi) (Alw n wi L 8) (fun p q => p < a ∨ p = a ∧ q < b_ + 8) V a b_ from (HF2.out.take a b_ HAl.out V HZ.out.1 (HZ.out.2.2 (by omega)) (by omega) (fun p q ha hb => by have := ha.2.1; omega)))
            clear HF2 HZ HAl x1
            go_wp2
            go_roundw
            case rel => exact ⟨b_ + 8, V, a, b_, by go_num, by omega, by omega, by omega, rfl, rfl, rfl, HN, _, rfl⟩
            case measure => simp [intOf]; omega
          · have q1 : decide (be2 < 0) = false := decide_eq_false (by omega)
            by_cases x2 : V < be2
            · have q2 : decide (V < be2) = true := decide_eq_true (by omega)
              have HN := Lib.hid (show FIp (DD xs wi) (Alw n wi L 8) (fun p q => p < a ∨ p = a ∧ q < b_ + 8) V a b_ from (HF2.out.take a b_ HAl.out V HZ.out.1 (HZ.out.2.2 (by omega)) (by omega) (fun p q ha hb => by have := ha.2.1; omega)))
              clear HF2 HZ HAl x1 x2
              go_wp2
              go_roundw
              case rel => exact ⟨b_ + 8, V, a, b_, by go_num, by omega, by omega, by omega, rfl, rfl, rfl, HN, _, rfl⟩
              case measure => simp [intOf]; omega
            · have q2 : decide (V < be2) = false := decide_eq_false (by omega)
              by_cases x3 : V = be2
              · have q3 : (V == be2) = true := by simp [x3]
                by_cases x4 : en2 < b_
                · have q4 : decide (en2 < (b_ : Int)) = true := decide_eq_true (by omega)
                  have HN := Lib.hid (show FIp (DD xs wi) (Alw n wi L 8) (fun p q => p < a ∨ p = a ∧ q < b_ + 8) V a b_ from (HF2.out.take a b_ HAl.out V HZ.out.1 (HZ.out.2.2 (by omega)) (by omega) (fun p q ha hb => by have := ha.2.1; omega)))
                  clear HF2 HZ HAl x1 x2 x3 x4
                  go_wp2
                  go_roundw
                  case rel => exact ⟨b_ + 8, V, a, b_, by go_num, by omega, by omega, by omega, rfl, rfl, rfl, HN, _, rfl⟩
                  case measure => simp [intOf]; omega
                · have q4 : decide (en2 < (b_ : Int)) = false := decide_eq_false (by omega)
                  by_cases x5 : (b_ : Int) = en2
                  · have q5 : ((b_ : Int) == en2) = true := by simp [x5]
                    by_cases x6 : st2 < a
                    · have q6 : decide (st2 < (a : Int)) = true := decide_eq_true (by omega)
                      have HN := Lib.hid (show FIp (DD xs wi) (Alw n wi L 8) (fun p q => p < a ∨ p = a ∧ q < b_ + 8) V a b_ from (HF2.out.take a b_ HAl.out V HZ.out.1 (HZ.out.2.2 (by omega)) (by omega) (fun p q ha hb => by have := ha.2.1; omega)))
                      clear HF2 HZ HAl x1 x2 x3 x4 x5 x6
                      go_wp2
                      go_roundw
                      case rel => exact ⟨b_ + 8, V, a, b_, by go_num, by omega, by omega, by omega, rfl, rfl, rfl, HN, _, rfl⟩
                      case measure => simp [intOf]; omega
                    · have q6 : decide (st2 < (a : Int)) = false := decide_eq_false (by omega)
                      have HN := Lib.hid (show FIp (DD xs wi) (Alw n wi L 8) (fun p q => p < a ∨ p = a ∧ q < b_ + 8) be2 st2 en2 from (HF2.out.skip a b_ (by omega) (Int.le_trans (by omega) HZ.out.2.1) (fun p q ha hb => by have := ha.2.1; omega)))
                      clear HF2 HZ HAl x1 x2 x3 x4 x5 x6
                      go_wp2
                      go_roundw
                      case rel => exact ⟨b_ + 8, be2, st2, en2, by go_num, by omega, by omega, by omega, rfl, rfl, rfl, HN, _, rfl⟩
                      case measure => simp [intOf]; omega
                  · have q5 : ((b_ : Int) == en2) = false := by simp [x5]
                    have HN := Lib.hid (show FIp (DD xs wi) (Alw n wi L 8) (fun p q => p < a ∨ p = a ∧ q < b_ + 8) be2 st2 en2 from (HF2.out.skip a b_ (by omega) (Int.le_trans (by omega) HZ.out.2.1) (fun p q ha hb => by have := ha.2.1; omega)))
                    clear HF2 HZ HAl x1 x2 x3 x4 x5
                    go_wp2
                    go_roundw
                    case rel => exact ⟨b_ + 8, be2, st2, en2, by go_num, by omega, by omega, by omega, rfl, rfl, rfl, HN, _, rfl⟩
                    case measure => simp [intOf]; omega
              · have q3 : (V == be2) = false := by simp [x3]
                have HN := Lib.hid (show FIp (DD xs wi) (Alw n wi L 8) (fun p q => p < a ∨ p = a ∧ q < b_ + 8) be2 st2 en2 from (HF2.out.skip a b_ (by omega) (Int.le_trans (by omega) HZ.out.2.1) (fun p q ha hb => by have := ha.2.1; omega)))
                clear HF2 HZ HAl x1 x2 x3
                go_wp2
                go_roundw
                case rel => exact ⟨b_ + 8, be2, st2, en2, by go_num, by omega, by omega, by omega, rfl, rfl, rfl, HN, _, rfl⟩
                case measure => simp [intOf]; omega
        · have d1 : decide ((b_ : Int) ≤ (n : Int) - wi) = false := decide_eq_false (by omega)
          go_wp2
          go_roundw
          case rel => exact ⟨a + 8, be2, st2, en2, by go_num, by omega, by omega, rfl, rfl, rfl, Lib.hid (HF2.out.imp (fun p q ha hb => by have := ha.1; have := ha.2.2.2; omega)), _, rfl⟩
          case measure => simp [intOf]; omega
    · have d1 : decide ((a : Int) + L ≤ (n : Int) - wi) = false := decide_eq_false (by omega)
      have hall : ∀ p q, Alw n wi L 8 p q → p < a := fun p q h => by have := h.2.2.1; have := h.2.2.2; omega
      by_cases hb : be < 0
      · have e1 : decide (be < 0) = true := decide_eq_true hb
        have HR := Lib.hid (HF.out.none_ hb hall 0 0 0)
        clear hall HF
        go_wp2
        refine bodyPost_ret (results_tmp4 rfl _ _ _) rfl ?_
        exact ⟨0, 0, 0, 7, rfl, HR.out, bdN B1 m⟩
      · have e1 : decide (be < 0) = false := decide_eq_false hb
        have HR := Lib.hid (HF.out.some_ (by omega) hall)
        clear hall HF
        go_wp2
        refine bodyPost_ret (results_tmp4 rfl _ _ _) rfl ?_
        exact ⟨st, en, be, 0, rfl, HR.out, bdN B1 m⟩
end Go.Proofs.Ytfodpoccjdaaaaa.SX
