/- The reference's Play. -/
import Derived.Test.YtfpgidflaaefeaaChW
namespace Go.Proofs.Ytfpgidflaaefeaa.CH
open Go.RowKit Go.Proofs.YtfpgidflaaefeaaW.PrintLast
set_option linter.unusedVariables false
set_option linter.unusedSimpArgs false
section
variable {P : Program} {ops : Array Oper} {o : Oper} {a : Act} {Q : Exit → Act → World → Prop} {K : Act → World → Prop} {w : World}
/-- append of a whole slice to a row of one's own, as one step of a region that draws its order -/
theorem step_append_own (hw : Region.wanted o (yielded ops a.tmps) = true) (s x : Operand) (t : TypeId)
    (ho : o.op = .call { callee := .builtin .append, args := #[s, x], argTypes := #[t, t] })
    (base : Nat) (e : TypeId) (i : TypeInfo) (z : Value) (size bytes : Nat) (ht : P.underlying t = some (.slice e)) (hi : P.info? e = some i) (hz : i.zero = some z)
    (hsize : i.size = size) (hby : i.bytes = bytes) (hzs : z.cells.size = size) (hsz : 0 < size)
    (v : Value) (n : Nat) (xs : List Value) (hs : a.eval s = v) (hown : w.ownsRow base e size v n xs)
    (ad : Addr) (m c : Nat) (news : List Value) (hx : a.eval x = .slice (some ad) m c) (hl : news.length = m * size) (hnews : ∀ j u, news[j]? = some u → w.cell? (ad.add j) = some u) (h1 : ∀ u ∈ news, u.oneCell' = true)
    (h63 : n + m ≤ maxLen) (hbytes : (n + m) * bytes ≤ 140737488355328) (hbase : base ≤ w.heap.size)
    (h : ∀ v' w', w'.ownsRow base e size v' (n + m) (xs ++ news) → w.grownBy w' v.ownBlock → K (a.put o.dst v') w') :
    if Region.wanted o (yielded ops a.tmps) = true then Oper.wp P o a w K Q else K (a.put o.dst undef) w := by
  rw [if_pos hw]
  obtain ⟨v', w', hr, h2, h3, h4, h5⟩ := run_append_own_at (P := P) w base t o.type e i z size bytes ht hi hz hsize hby hzs hsz v n xs hown ad m c news hl hnews h1 h63 hbytes hbase
  unfold Oper.wp execOp
  simp only [ho, resolve, invoke, builtin, Sem.run_bind, Sem.run_pure, Result.andThen_ok, List.map_toArray, List.map_cons, List.map_nil, hs, hx, hr]
  exact h v' w' h2 h3
end
theorem ownLt {w : World} {B n : Nat} {v : Value} {xs : List Value} (h : w.ownsRow B 3 1 v n xs) : ∀ k, v.ownBlock = some k → k < w.heap.size := by
  intro k hk
  rcases h.2 with ⟨rfl, _⟩ | ⟨g, cap, cur, rfl, h1, hg, h2⟩
  · simp [Value.ownBlock] at hk
  · simp [Value.ownBlock] at hk
    subst hk
    exact bkLt hg
set_option maxHeartbeats 16000000 in
set_option maxRecDepth 100000 in
theorem rplay_bad (a : Option Addr) (len cap : Nat) (A : Nat → Option Addr) (L C : Nat → Nat) (b off : Nat) (bb oo : Nat → Nat) (z : Nat → Nat → Int) (w : World) (h : LogAt w a len A L C b off bb oo z) (hlen : len ≤ 100) (hL : ∀ r, r < len → L r ≤ 40) (n : Int) (hG : ¬ Good L z len) :
    Calls Try.prog 29 #[.slice a len cap, iv n] w fun e w' => e = .returned (.tuple #[.slice none 0 0, iv 1]) ∧ Below w.heap.size w w' := by
  have H := Lib.hid h
  have HL := Lib.hid hL
  have HA := Lib.hid h.top
  have HG := Lib.hid hG
  clear h hL hG
  have l0 : (0 : Int) ≤ (len : Int) := by omega
  go_enter Try.func29, Try.ntmps29
  go_wp2_with (go_at_call 55; (with_reducible refine (rightlog_any _ len cap A L C b off bb oo z _ H.out hlen HL.out).mono ?_); rintro e w1 ⟨⟨v, rfl, hv⟩, hb1⟩; obtain rfl : v = false := (by cases v; rfl; exact absurd (hv.1 rfl) HG.out); clear hv)
  refine bodyPost_ret (results_tmp2 rfl _ _ _) rfl ⟨rfl, hb1⟩
set_option maxHeartbeats 16000000 in
set_option maxRecDepth 100000 in
theorem rplay_neg (a : Option Addr) (len cap : Nat) (A : Nat → Option Addr) (L C : Nat → Nat) (b off : Nat) (bb oo : Nat → Nat) (z : Nat → Nat → Int) (w : World) (h : LogAt w a len A L C b off bb oo z) (hlen : len ≤ 100) (hL : ∀ r, r < len → L r ≤ 40) (n : Int) (hG : Good L z len) (h0 : 0 < len) (hn : n < 0) :
    Calls Try.prog 29 #[.slice a len cap, iv n] w fun e w' => e = .returned (.tuple #[.slice none 0 0, iv 5]) ∧ Below w.heap.size w w' := by
  have H := Lib.hid h
  have HL := Lib.hid hL
  have HA := Lib.hid h.top
  have HG := Lib.hid hG
  clear h hL hG
  have l0 : (0 : Int) ≤ (len : Int) := by omega
  have g0 : decide (0 < (len : Int)) = true := decide_eq_true (by omega)
  have g1 : decide (n < 0) = true := decide_eq_true hn
  go_enter Try.func29, Try.ntmps29
  have ha := HA.out h0
  subst ha
  go_wp2_with (go_at_call 55; (with_reducible refine (rightlog_any _ len cap A L C b off bb oo z _ H.out hlen HL.out).mono ?_); rintro e w1 ⟨⟨v, rfl, hv⟩, hb1⟩; obtain rfl : v = true := (by exact hv.2 HG.out); clear hv)
  refine bodyPost_ret (results_tmp2 rfl _ _ _) rfl ⟨rfl, hb1⟩
set_option maxHeartbeats 16000000 in
set_option maxRecDepth 100000 in
theorem rplay_zero (a : Option Addr) (len cap : Nat) (A : Nat → Option Addr) (L C : Nat → Nat) (b off : Nat) (bb oo : Nat → Nat) (z : Nat → Nat → Int) (w : World) (h : LogAt w a len A L C b off bb oo z) (hlen : len ≤ 100) (hL : ∀ r, r < len → L r ≤ 40) (n : Int) (hG : Good L z len) (h0 : len = 0) :
    Calls Try.prog 29 #[.slice a len cap, iv n] w fun e w' => e = .returned (.tuple #[.slice none 0 0, iv 0]) ∧ Below w.heap.size w w' := by
  have H := Lib.hid h
  have HL := Lib.hid hL
  have HA := Lib.hid h.top
  have HG := Lib.hid hG
  clear h hL hG
  have l0 : (0 : Int) ≤ (len : Int) := by omega
  have g0 : decide (0 < (len : Int)) = false := decide_eq_false (by omega)
  subst h0
  go_enter Try.func29, Try.ntmps29
  go_upto_region 8 with (first
    | (go_at_call 55; (with_reducible refine (rightlog_any _ 0 cap A L C b off bb oo z _ H.out hlen HL.out).mono ?_); rintro e w1 ⟨⟨v, rfl, hv⟩, hb1⟩; obtain rfl : v = true := (by exact hv.2 HG.out); clear hv)
    | (go_at_call 30; (with_reducible refine (rnew_any _).mono ?_); rintro e w2 ⟨rfl, hb2⟩; have Z2 := Lib.hid (heap_alloc_new w2 (Obj.cells #[iv 0, iv 0, iv 0, iv 0, iv 0, iv 0, iv 0, iv 0, iv 0, iv 0, iv 0, iv 0, iv 0, iv 0, iv 0, iv 0, iv 0, iv 0, iv 0, iv 0, iv 0, iv 0, iv 0, iv 0] 35)); have B2 := bdT hb1 hb1.size hb2; have L2 := Lib.hid B2.size)
    | (refine wpList_store_row rfl 35 (.tmp 7) (.tmp 30) rfl (w2.heap.size) T.new.cs rfl rfl 35 _ Z2.out (T.i35 _) (T.sz T.zero _) (T.one _) ?_; have P3 := Lib.hid (setRow_heap _ _ _ T.new.cs _ _ Z2.out); have B3 := below_setRow (B2.alloc B2.size (Obj.cells #[iv 0, iv 0, iv 0, iv 0, iv 0, iv 0, iv 0, iv 0, iv 0, iv 0, iv 0, iv 0, iv 0, iv 0, iv 0, iv 0, iv 0, iv 0, iv 0, iv 0, iv 0, iv 0, iv 0, iv 0] 35)) (g := w2.heap.size) B2.size T.new.cs; clear Z2))
  go_loopw [6, 33] (fun s v wr => s = .slice none 0 0 ∧ v = iv 0 ∧ Below w.heap.size w wr) (fun _ _ _ => 0)
  case atStart => exact ⟨rfl, rfl, B3⟩
  case round =>
    obtain ⟨rfl, rfl, hB⟩ := hrel
    go_wp2
    refine bodyPost_ret (results_tmp2 rfl _ _ _) rfl ⟨rfl, hB⟩
set_option maxHeartbeats 16000000 in
set_option maxRecDepth 100000 in
theorem rplay_fine (a : Option Addr) (len cap : Nat) (A : Nat → Option Addr) (L C : Nat → Nat) (b off : Nat) (bb oo : Nat → Nat) (z : Nat → Nat → Int) (w : World) (h : LogAt w a len A L C b off bb oo z) (hlen : len ≤ 100) (hL : ∀ r, r < len → L r ≤ 40) (n : Nat) (hn : n ≤ 100) (h0 : 0 < len) (hG : Good L z len) :
    Calls Try.prog 29 #[.slice a len cap, iv n] w fun e w' => ∃ v, e = .returned (.tuple #[v, iv 0]) ∧ w'.ownsRow w.heap.size 3 1 v (n * len) ((song z n len).map iv) ∧ Below w.heap.size w w' := by
  have H := Lib.hid h
  have HL := Lib.hid hL
  have HA := Lib.hid h.top
  have HG := Lib.hid hG
  clear h hL hG
  have l0 : (0 : Int) ≤ (len : Int) := by omega
  obtain ⟨i0, hi, hz0, hz1, hz2⟩ := info_parts info3
  have hn0 : (0 : Int) ≤ (n : Int) := by omega
  have g0 : decide (0 < (len : Int)) = true := decide_eq_true (by omega)
  have g1 : decide ((n : Int) < 0) = false := decide_eq_false (by omega)
  have g2 : decide (200000 / (len : Int) < (n : Int)) = false := decide_eq_false (by
    have : (n : Int) ≤ 200000 / (len : Int) := Int.le_trans (by omega : (n : Int) ≤ 100) (Int.le_ediv_of_mul_le (by omega) (by omega))
    omega)
  have g3 : (0 : Int) ≤ 200000 := by omega
  have ha := HA.out h0
  subst ha
  go_enter Try.func29, Try.ntmps29
  go_upto_region 8 with (first
    | (go_at_call 55; (with_reducible refine (rightlog_any _ len cap A L C b off bb oo z _ H.out hlen HL.out).mono ?_); rintro e w1 ⟨⟨v, rfl, hv⟩, hb1⟩; obtain rfl : v = true := (by exact hv.2 HG.out); clear hv)
    | (go_at_call 30; (with_reducible refine (rnew_any _).mono ?_); rintro e w2 ⟨rfl, hb2⟩; have Z2 := Lib.hid (heap_alloc_new w2 (Obj.cells #[iv 0, iv 0, iv 0, iv 0, iv 0, iv 0, iv 0, iv 0, iv 0, iv 0, iv 0, iv 0, iv 0, iv 0, iv 0, iv 0, iv 0, iv 0, iv 0, iv 0, iv 0, iv 0, iv 0, iv 0] 35)); have B2 := bdT hb1 hb1.size hb2; have L2 := Lib.hid B2.size)
    | (refine wpList_store_row rfl 35 (.tmp 7) (.tmp 30) rfl (w2.heap.size) T.new.cs rfl rfl 35 _ Z2.out (T.i35 _) (T.sz T.zero _) (T.one _) ?_; have P3 := Lib.hid (setRow_heap _ _ _ T.new.cs _ _ Z2.out); have B3 := below_setRow (B2.alloc B2.size (Obj.cells #[iv 0, iv 0, iv 0, iv 0, iv 0, iv 0, iv 0, iv 0, iv 0, iv 0, iv 0, iv 0, iv 0, iv 0, iv 0, iv 0, iv 0, iv 0, iv 0, iv 0, iv 0, iv 0, iv 0, iv 0] 35)) (g := w2.heap.size) B2.size T.new.cs; clear Z2))
  have L0 := Lib.hid B3.size
  go_loopw [6, 33] (fun s v wr => ∃ r : Nat, r ≤ len ∧ v = iv r ∧ wr.ownsRow (w2.heap.size + 1) 3 1 s (n * r) ((song z n r).map iv) ∧ wr.heap[w2.heap.size]? = some (.cells (chips z n r).cs 35 (0, 0)) ∧ Below w.heap.size w wr) (fun _ v _ => len - (intOf v).toNat)
  case atStart => exact ⟨0, by omega, rfl, ⟨by simp [song], .inl ⟨rfl, by simp⟩⟩, P3.out, B3⟩
  case round =>
    clear P3 B3
    obtain ⟨r, hr, rfl, hO, hP, hB⟩ := hrel
    have HO := Lib.hid hO
    have HP := Lib.hid hP
    clear hO hP
    by_cases hlt : r < len
    · have hlt' : (r : Int) < (len : Int) := by omega
      have hr0 : (0 : Int) ≤ (r : Int) := by omega
      have c0 := (hB.cell (p := ⟨b, off + r, none⟩) (H.out.low (by omega))).trans (H.out.row r hlt)
      obtain ⟨ea, eb⟩ := H.out.at_ r hlt (by have := (HG.out r hlt).1; omega)
      rw [ea, (HG.out r hlt).1] at c0
      clear ea
      go_upto_region 11 with (fail)
      go_loopw [10] (fun v w3 => ∃ c : Nat, c ≤ 14 ∧ v = iv c ∧ w3.ownsRow (w2.heap.size + 1) 3 1 u6 (n * r) ((song z n r).map iv) ∧ w3.heap[w2.heap.size]? = some (.cells (puts z r (chips z n r) c).cs 35 (0, 0)) ∧ Below w.heap.size w w3) (fun v _ => 14 - (intOf v).toNat)
      case atStart => exact ⟨0, by omega, rfl, HO.out, HP.out, hB⟩
      case round =>
        clear HO HP hB c0
        obtain ⟨c, hc, rfl, hO, hP, hB⟩ := hrel
        have HO := Lib.hid hO
        have HP := Lib.hid hP
        clear hO hP
        by_cases hc14 : c < 14
        · have hc0 : (0 : Int) ≤ (c : Int) := by omega
          have hc1 : (c : Int) < 14 := by omega
          have c1 := (hB.cell (p := ⟨bb r, oo r + c, none⟩) eb).trans (H.out.cell r hlt c (by have := (HG.out r hlt).1; omega))
          by_cases hr00 : r = 0
          · have e1 : ((r : Int) == 0) = true := by simp; omega
            have HR0 := Lib.hid hr00
            clear hr00
            go_upto_region 13 with (fail)
            refine start_ (n := 17) (S := fun w' => w'.heap[w2.heap.size]? = some (.cells (puts z r (chips z n r) c).cs 35 (0, 0)) ∧ w'.ownsRow (w2.heap.size + 1) 3 1 u6 (n * r) ((song z n r).map iv) ∧ Below w.heap.size w w') (ds := []) #[false, false, false, false, false, false, false, false, false, false, false, false, false, false, false, false, false] (by kernel_rfl) rfl rfl ⟨HP.out, HO.out.drew, hB.drew⟩ (fun hHeld => ?_)
            refine pure_ (i := 0) (N := some 42) (v := ?_) (a' := ?_) #[true, false, false, false, false, false, false, false, false, false, false, false, false, false, false, false, false] rfl rfl (by kernel_rfl) (fun _ _ _ h => h) (Or.inl ⟨by rfl, ?_⟩) ?_ ?_
            rotate_left
            · intro w'
              go_simp
              with_reducible rfl
            rotate_left
            · simp only [Act.put, List.setIfInBounds_toArray, List.set_cons_zero, List.set_cons_succ, i64_w, i32_w]
              rfl
            refine pure_ (i := 1) (N := some 43) (v := ?_) (a' := ?_) #[true, true, false, false, false, false, false, false, false, false, false, false, false, false, false, false, false] rfl rfl (by kernel_rfl) (fun _ _ _ h => h) (Or.inl ⟨by rfl, ?_⟩) ?_ ?_
            rotate_left
            · intro w'
              go_simp
              with_reducible rfl
            rotate_left
            · simp only [Act.put, List.setIfInBounds_toArray, List.set_cons_zero, List.set_cons_succ, i64_w, i32_w]
              rfl
            refine pure_ (i := 2) (N := some 44) (v := ?_) (a' := ?_) #[true, true, true, false, false, false, false, false, false, false, false, false, false, false, false, false, false] rfl rfl (by kernel_rfl) (fun _ _ _ h => h) (Or.inl ⟨by rfl, ?_⟩) ?_ ?_
            rotate_left
            · intro w'
              go_simp
              with_reducible rfl
            rotate_left
            · simp only [Act.put, List.setIfInBounds_toArray, List.set_cons_zero, List.set_cons_succ, i64_w, i32_w]
              rfl
            refine pure_ (i := 3) (N := some 45) (v := undef) (a' := ?_) #[true, true, true, true, false, false, false, false, false, false, false, false, false, false, false, false, false] rfl rfl (by kernel_rfl) (fun _ _ _ h => h) (Or.inr ⟨by rfl, rfl⟩) ?_ ?_
            rotate_left
            · simp only [Act.put, List.setIfInBounds_toArray, List.set_cons_zero, List.set_cons_succ, i64_w, i32_w]
              rfl
            refine pure_ (i := 4) (N := some 46) (v := undef) (a' := ?_) #[true, true, true, true, true, false, false, false, false, false, false, false, false, false, false, false, false] rfl rfl (by kernel_rfl) (fun _ _ _ h => h) (Or.inr ⟨by rfl, rfl⟩) ?_ ?_
            rotate_left
            · simp only [Act.put, List.setIfInBounds_toArray, List.set_cons_zero, List.set_cons_succ, i64_w, i32_w]
              rfl
            refine pure_ (i := 5) (N := some 47) (v := undef) (a' := ?_) #[true, true, true, true, true, true, false, false, false, false, false, false, false, false, false, false, false] rfl rfl (by kernel_rfl) (fun _ _ _ h => h) (Or.inr ⟨by rfl, rfl⟩) ?_ ?_
            rotate_left
            · simp only [Act.put, List.setIfInBounds_toArray, List.set_cons_zero, List.set_cons_succ, i64_w, i32_w]
              rfl
            refine pure_ (i := 6) (N := some 48) (v := undef) (a' := ?_) #[true, true, true, true, true, true, true, false, false, false, false, false, false, false, false, false, false] rfl rfl (by kernel_rfl) (fun _ _ _ h => h) (Or.inr ⟨by rfl, rfl⟩) ?_ ?_
            rotate_left
            · simp only [Act.put, List.setIfInBounds_toArray, List.set_cons_zero, List.set_cons_succ, i64_w, i32_w]
              rfl
            refine pure_ (i := 7) (N := some 49) (v := undef) (a' := ?_) #[true, true, true, true, true, true, true, true, false, false, false, false, false, false, false, false, false] rfl rfl (by kernel_rfl) (fun _ _ _ h => h) (Or.inr ⟨by rfl, rfl⟩) ?_ ?_
            rotate_left
            · simp only [Act.put, List.setIfInBounds_toArray, List.set_cons_zero, List.set_cons_succ, i64_w, i32_w]
              rfl
            refine pure_ (i := 8) (N := some 50) (v := undef) (a' := ?_) #[true, true, true, true, true, true, true, true, true, false, false, false, false, false, false, false, false] rfl rfl (by kernel_rfl) (fun _ _ _ h => h) (Or.inr ⟨by rfl, rfl⟩) ?_ ?_
            rotate_left
            · simp only [Act.put, List.setIfInBounds_toArray, List.set_cons_zero, List.set_cons_succ, i64_w, i32_w]
              rfl
            refine pure_ (i := 9) (N := some 51) (v := undef) (a' := ?_) #[true, true, true, true, true, true, true, true, true, true, false, false, false, false, false, false, false] rfl rfl (by kernel_rfl) (fun _ _ _ h => h) (Or.inr ⟨by rfl, rfl⟩) ?_ ?_
            rotate_left
            · simp only [Act.put, List.setIfInBounds_toArray, List.set_cons_zero, List.set_cons_succ, i64_w, i32_w]
              rfl
            refine pure_ (i := 10) (N := some 52) (v := undef) (a' := ?_) #[true, true, true, true, true, true, true, true, true, true, true, false, false, false, false, false, false] rfl rfl (by kernel_rfl) (fun _ _ _ h => h) (Or.inr ⟨by rfl, rfl⟩) ?_ ?_
            rotate_left
            · simp only [Act.put, List.setIfInBounds_toArray, List.set_cons_zero, List.set_cons_succ, i64_w, i32_w]
              rfl
            refine pure_ (i := 11) (N := some 53) (v := undef) (a' := ?_) #[true, true, true, true, true, true, true, true, true, true, true, true, false, false, false, false, false] rfl rfl (by kernel_rfl) (fun _ _ _ h => h) (Or.inr ⟨by rfl, rfl⟩) ?_ ?_
            rotate_left
            · simp only [Act.put, List.setIfInBounds_toArray, List.set_cons_zero, List.set_cons_succ, i64_w, i32_w]
              rfl
            refine pure_ (i := 12) (N := some 54) (v := undef) (a' := ?_) #[true, true, true, true, true, true, true, true, true, true, true, true, true, false, false, false, false] rfl rfl (by kernel_rfl) (fun _ _ _ h => h) (Or.inr ⟨by rfl, rfl⟩) ?_ ?_
            rotate_left
            · simp only [Act.put, List.setIfInBounds_toArray, List.set_cons_zero, List.set_cons_succ, i64_w, i32_w]
              rfl
            refine pure_ (i := 13) (N := some 55) (v := undef) (a' := ?_) #[true, true, true, true, true, true, true, true, true, true, true, true, true, true, false, false, false] rfl rfl (by kernel_rfl) (fun _ _ _ h => h) (Or.inr ⟨by rfl, rfl⟩) ?_ ?_
            rotate_left
            · simp only [Act.put, List.setIfInBounds_toArray, List.set_cons_zero, List.set_cons_succ, i64_w, i32_w]
              rfl
            refine pure_ (i := 14) (N := some 56) (v := undef) (a' := ?_) #[true, true, true, true, true, true, true, true, true, true, true, true, true, true, true, false, false] rfl rfl (by kernel_rfl) (fun _ _ _ h => h) (Or.inr ⟨by rfl, rfl⟩) ?_ ?_
            rotate_left
            · simp only [Act.put, List.setIfInBounds_toArray, List.set_cons_zero, List.set_cons_succ, i64_w, i32_w]
              rfl
            refine pure_ (i := 15) (N := some 57) (v := undef) (a' := ?_) #[true, true, true, true, true, true, true, true, true, true, true, true, true, true, true, true, false] rfl rfl (by kernel_rfl) (fun _ _ _ h => h) (Or.inr ⟨by rfl, rfl⟩) ?_ ?_
            rotate_left
            · simp only [Act.put, List.setIfInBounds_toArray, List.set_cons_zero, List.set_cons_succ, i64_w, i32_w]
              rfl
            refine pure_ (i := 16) (N := some 58) (v := ?_) (a' := ?_) #[true, true, true, true, true, true, true, true, true, true, true, true, true, true, true, true, true] rfl rfl (by kernel_rfl) (fun _ _ _ h => h) (Or.inl ⟨by rfl, ?_⟩) ?_ ?_
            rotate_left
            · intro w'
              go_simp
              with_reducible rfl
            rotate_left
            · simp only [Act.put, List.setIfInBounds_toArray, List.set_cons_zero, List.set_cons_succ, i64_w, i32_w]
              rfl
            refine done_ (by kernel_rfl) ?_
            go_upto_region 14 with (fail)
            refine start_ (n := 8) (S := fun w' => w'.heap[w2.heap.size]? = some (.cells (puts z r (chips z n r) c).cs 35 (0, 0)) ∧ w'.ownsRow (w2.heap.size + 1) 3 1 u6 (n * r) ((song z n r).map iv) ∧ Below w.heap.size w w' ∧ w'.cell? ⟨bb r, oo r + c, none⟩ = some (iv (z r c))) (ds := [7]) #[false, false, false, false, false, false, false, false] (by kernel_rfl) rfl rfl ⟨HP.out, HO.out.drew.drew, hB.drew.drew, c1⟩ (fun hHeld => ?_)
            refine pure_ (i := 1) (N := some 60) (v := ?_) (a' := ?_) #[false, true, false, false, false, false, false, false] rfl rfl (by kernel_rfl) (fun _ _ _ h => h) (Or.inl ⟨by rfl, ?_⟩) ?_ ?_
            rotate_left
            · intro w'
              go_simp
              with_reducible rfl
            rotate_left
            · simp only [Act.put, List.setIfInBounds_toArray, List.set_cons_zero, List.set_cons_succ, i64_w, i32_w]
              rfl
            refine pure_ (i := 2) (N := some 61) (v := ?_) (a' := ?_) #[false, true, true, false, false, false, false, false] rfl rfl (by kernel_rfl) (fun _ _ _ h => h) (Or.inl ⟨by rfl, ?_⟩) ?_ ?_
            rotate_left
            · intro w'
              go_simp
              with_reducible rfl
            rotate_left
            · simp only [Act.put, List.setIfInBounds_toArray, List.set_cons_zero, List.set_cons_succ, i64_w, i32_w]
              rfl
            refine pure_ (i := 3) (N := some 62) (v := ?_) (a' := ?_) #[false, true, true, true, false, false, false, false] rfl rfl (by kernel_rfl) (fun _ _ _ h => h) (Or.inl ⟨by rfl, ?_⟩) ?_ ?_
            rotate_left
            · intro w'
              go_simp
              with_reducible rfl
            rotate_left
            · simp only [Act.put, List.setIfInBounds_toArray, List.set_cons_zero, List.set_cons_succ, i64_w, i32_w]
              rfl
            refine pure_ (i := 4) (N := some 63) (v := ?_) (a' := ?_) #[false, true, true, true, true, false, false, false] rfl rfl (by kernel_rfl) (fun _ _ _ h => h) (Or.inl ⟨by rfl, ?_⟩) ?_ ?_
            rotate_left
            · intro w'
              go_simp
              with_reducible rfl
            rotate_left
            · simp only [Act.put, List.setIfInBounds_toArray, List.set_cons_zero, List.set_cons_succ, i64_w, i32_w]
              rfl
            refine take_ (i := 0) (N := some 59) (v := ?_) (a' := ?_) #[true, true, true, true, true, false, false, false] rfl rfl (by kernel_rfl) (fun _ _ _ h => h) (Or.inl ⟨by rfl, ?_⟩) hHeld ?_ ?_
            rotate_left
            · rintro w' ⟨s0, s1, s2, s3⟩
              refine exec_load_row 35 (.tmp 7) ?_ w2.heap.size ?_ 35 _ _ _ s0 Try.underlying35 rfl (T.i35 _) <;> rfl
            rotate_left
            · simp only [Act.put, List.setIfInBounds_toArray, List.set_cons_zero, List.set_cons_succ, i64_w, i32_w]
              rfl
            refine take_ (i := 5) (N := some 64) (v := ?_) (a' := ?_) #[true, true, true, true, true, true, false, false] rfl rfl (by kernel_rfl) (fun _ _ _ h => h) (Or.inl ⟨by rfl, ?_⟩) hHeld ?_ ?_
            rotate_left
            · rintro w' ⟨s0, s1, s2, s3⟩
              clear s0 s1 s2
              go_simp
              with_reducible rfl
            rotate_left
            · simp only [Act.put, List.setIfInBounds_toArray, List.set_cons_zero, List.set_cons_succ, i64_w, i32_w]
              rfl
            refine one_ (i := 6) (N := some 65) #[true, true, true, true, true, true, true, false] rfl rfl (by kernel_rfl) (by decide) (fun K hK => ?_)
            obtain ⟨s0, s1, s2, s3⟩ := hHeld
            refine goes_ Try.func31 (by kernel_rfl) rfl #[.agg (puts z r (chips z n r) c).cs, iv c, iv (z r c)] (by rfl) rfl rfl (by simp only [List.map_toArray, List.map_cons, List.map_nil]; rfl) ?_
            with_reducible refine (rwritten_any (puts z r (chips z n r) c) (c : Int) (z r c) (by omega) (by omega) _).mono ?_
            rintro e w5 ⟨rfl, hb5⟩
            refine ⟨_, rfl, ?_⟩
            refine hK.out _ _ ⟨bkBelow s0 hb5, ownLater s1 hb5, bdT s2 s2.size hb5, (hb5.cell (p := ⟨bb r, oo r + c, none⟩) (Nat.lt_of_lt_of_le eb s2.size)).trans s3⟩ (fun hHeld => ?_)
            clear hK K
            refine norm_ (a' := ?_) ?_ ?_
            rotate_left
            · show Act.put _ (some 65) _ = _
              simp only [Act.put, List.setIfInBounds_toArray, List.set_cons_zero, List.set_cons_succ, i64_w, i32_w]
              rfl
            refine last_ (i := 7) (N := none) #[true, true, true, true, true, true, true, true] rfl rfl (by kernel_rfl) (by decide) (fun K hK => ?_)
            obtain ⟨T9, O9, B9, -⟩ := hHeld
            refine skip_ (w1 := ?_) (by rfl) rfl ?_ ?_
            rotate_left
            · refine exec_store_row 35 (.tmp 7) (.tmp 65) ?_ w2.heap.size (T.put (puts z r (chips z n r) c) c (z r c)).cs ?_ ?_ 35 _ T9 (T.i35 _) (T.sz T.zero _) (T.one _) <;> rfl
            refine hK.out _ _ ?_
            clear hK K
            refine done_ (by kernel_rfl) ?_
            go_wp2
            exact ⟨⟨c + 1, by omega, by go_num, ownFarG O9 w2.heap.size (by omega) _, by rw [puts_put (.inl HR0.out)]; exact setRow_heap _ _ _ _ _ _ T9, below_setRow B9 (g := w2.heap.size) L2.out _⟩, by simp [intOf]; omega⟩
          · have e1 : ((r : Int) == 0) = false := by simp; omega
            have HR0 := Lib.hid hr00
            have j0 : (0 : Int) ≤ (r : Int) - 1 := by omega
            have j1 : (r : Int) - 1 < (len : Int) := by omega
            have j2 : 1 ≤ (r : Int) := by omega
            have wn : wrap64 ((r : Int) - 1) = (r : Int) - 1 := by unfold wrap64; omega
            have tn : ((r : Int) - 1).toNat = r - 1 := by omega
            have c2 := (hB.cell (p := ⟨b, off + (r - 1), none⟩) (H.out.low (by omega))).trans (H.out.row (r - 1) (by omega))
            obtain ⟨fa, fb⟩ := H.out.at_ (r - 1) (by omega) (by have := (HG.out (r - 1) (by omega)).1; omega)
            rw [fa, (HG.out (r - 1) (by omega)).1] at c2
            have c3 := (hB.cell (p := ⟨bb (r - 1), oo (r - 1) + c, none⟩) fb).trans (H.out.cell (r - 1) (by omega) c (by have := (HG.out (r - 1) (by omega)).1; omega))
            clear hr00 fa
            by_cases hz : z r c = z (r - 1) c
            · have hz1 : (z (r - 1) c != z r c) = false := by simp [hz]
              have HZ := Lib.hid hz
              clear hz
              go_upto_region 13 with (fail)
              refine start_ (n := 17) (S := fun w' => w'.cell? ⟨bb r, oo r + c, none⟩ = some (iv (z r c)) ∧ w'.cell? ⟨b, off + (r - 1), none⟩ = some (.slice (some ⟨bb (r - 1), oo (r - 1), none⟩) 14 (C (r - 1))) ∧ w'.cell? ⟨bb (r - 1), oo (r - 1) + c, none⟩ = some (iv (z (r - 1) c)) ∧ w'.heap[w2.heap.size]? = some (.cells (puts z r (chips z n r) c).cs 35 (0, 0)) ∧ w'.ownsRow (w2.heap.size + 1) 3 1 u6 (n * r) ((song z n r).map iv) ∧ Below w.heap.size w w') (ds := []) #[false, false, false, false, false, false, false, false, false, false, false, false, false, false, false, false, false] (by kernel_rfl) rfl rfl ⟨c1, c2, c3, HP.out, HO.out.drew, hB.drew⟩ (fun hHeld => ?_)
              refine pure_ (i := 0) (N := some 42) (v := ?_) (a' := ?_) #[true, false, false, false, false, false, false, false, false, false, false, false, false, false, false, false, false] rfl rfl (by kernel_rfl) (fun _ _ _ h => h) (Or.inl ⟨by rfl, ?_⟩) ?_ ?_
              rotate_left
              · intro w'
                go_simp
                with_reducible rfl
              rotate_left
              · simp only [Act.put, List.setIfInBounds_toArray, List.set_cons_zero, List.set_cons_succ, i64_w, i32_w, wn]
                rfl
              refine pure_ (i := 1) (N := some 43) (v := ?_) (a' := ?_) #[true, true, false, false, false, false, false, false, false, false, false, false, false, false, false, false, false] rfl rfl (by kernel_rfl) (fun _ _ _ h => h) (Or.inl ⟨by rfl, ?_⟩) ?_ ?_
              rotate_left
              · intro w'
                go_simp
                with_reducible rfl
              rotate_left
              · simp only [Act.put, List.setIfInBounds_toArray, List.set_cons_zero, List.set_cons_succ, i64_w, i32_w, wn]
                rfl
              refine pure_ (i := 2) (N := some 44) (v := ?_) (a' := ?_) #[true, true, true, false, false, false, false, false, false, false, false, false, false, false, false, false, false] rfl rfl (by kernel_rfl) (fun _ _ _ h => h) (Or.inl ⟨by rfl, ?_⟩) ?_ ?_
              rotate_left
              · intro w'
                go_simp
                with_reducible rfl
              rotate_left
              · simp only [Act.put, List.setIfInBounds_toArray, List.set_cons_zero, List.set_cons_succ, i64_w, i32_w, wn]
                rfl
              refine pure_ (i := 3) (N := some 45) (v := ?_) (a' := ?_) #[true, true, true, true, false, false, false, false, false, false, false, false, false, false, false, false, false] rfl rfl (by kernel_rfl) (fun _ _ _ h => h) (Or.inl ⟨by rfl, ?_⟩) ?_ ?_
              rotate_left
              · intro w'
                go_simp
                with_reducible rfl
              rotate_left
              · simp only [Act.put, List.setIfInBounds_toArray, List.set_cons_zero, List.set_cons_succ, i64_w, i32_w, wn]
                rfl
              refine pure_ (i := 4) (N := some 46) (v := ?_) (a' := ?_) #[true, true, true, true, true, false, false, false, false, false, false, false, false, false, false, false, false] rfl rfl (by kernel_rfl) (fun _ _ _ h => h) (Or.inl ⟨by rfl, ?_⟩) ?_ ?_
              rotate_left
              · intro w'
                go_simp
                with_reducible rfl
              rotate_left
              · simp only [Act.put, List.setIfInBounds_toArray, List.set_cons_zero, List.set_cons_succ, i64_w, i32_w, wn]
                rfl
              refine pure_ (i := 5) (N := some 47) (v := ?_) (a' := ?_) #[true, true, true, true, true, true, false, false, false, false, false, false, false, false, false, false, false] rfl rfl (by kernel_rfl) (fun _ _ _ h => h) (Or.inl ⟨by rfl, ?_⟩) ?_ ?_
              rotate_left
              · intro w'
                go_simp
                with_reducible rfl
              rotate_left
              · simp only [Act.put, List.setIfInBounds_toArray, List.set_cons_zero, List.set_cons_succ, i64_w, i32_w, wn]
                rfl
              refine pure_ (i := 6) (N := some 48) (v := ?_) (a' := ?_) #[true, true, true, true, true, true, true, false, false, false, false, false, false, false, false, false, false] rfl rfl (by kernel_rfl) (fun _ _ _ h => h) (Or.inl ⟨by rfl, ?_⟩) ?_ ?_
              rotate_left
              · intro w'
                go_simp
                with_reducible rfl
              rotate_left
              · simp only [Act.put, List.setIfInBounds_toArray, List.set_cons_zero, List.set_cons_succ, i64_w, i32_w, wn]
                rfl
              refine pure_ (i := 8) (N := some 50) (v := ?_) (a' := ?_) #[true, true, true, true, true, true, true, false, true, false, false, false, false, false, false, false, false] rfl rfl (by kernel_rfl) (fun _ _ _ h => h) (Or.inl ⟨by rfl, ?_⟩) ?_ ?_
              rotate_left
              · intro w'
                go_simp
                with_reducible rfl
              rotate_left
              · simp only [Act.put, List.setIfInBounds_toArray, List.set_cons_zero, List.set_cons_succ, i64_w, i32_w, wn]
                rfl
              refine pure_ (i := 11) (N := some 53) (v := ?_) (a' := ?_) #[true, true, true, true, true, true, true, false, true, false, false, true, false, false, false, false, false] rfl rfl (by kernel_rfl) (fun _ _ _ h => h) (Or.inl ⟨by rfl, ?_⟩) ?_ ?_
              rotate_left
              · intro w'
                go_simp
                with_reducible rfl
              rotate_left
              · simp only [Act.put, List.setIfInBounds_toArray, List.set_cons_zero, List.set_cons_succ, i64_w, i32_w, wn]
                rfl
              refine pure_ (i := 12) (N := some 54) (v := ?_) (a' := ?_) #[true, true, true, true, true, true, true, false, true, false, false, true, true, false, false, false, false] rfl rfl (by kernel_rfl) (fun _ _ _ h => h) (Or.inl ⟨by rfl, ?_⟩) ?_ ?_
              rotate_left
              · intro w'
                go_simp
                with_reducible rfl
              rotate_left
              · simp only [Act.put, List.setIfInBounds_toArray, List.set_cons_zero, List.set_cons_succ, i64_w, i32_w, wn]
                rfl
              refine pure_ (i := 13) (N := some 55) (v := ?_) (a' := ?_) #[true, true, true, true, true, true, true, false, true, false, false, true, true, true, false, false, false] rfl rfl (by kernel_rfl) (fun _ _ _ h => h) (Or.inl ⟨by rfl, ?_⟩) ?_ ?_
              rotate_left
              · intro w'
                go_simp
                with_reducible rfl
              rotate_left
              · simp only [Act.put, List.setIfInBounds_toArray, List.set_cons_zero, List.set_cons_succ, i64_w, i32_w, wn]
                rfl
              refine take_ (i := 7) (N := some 49) (v := ?_) (a' := ?_) #[true, true, true, true, true, true, true, true, true, false, false, true, true, true, false, false, false] rfl rfl (by kernel_rfl) (fun _ _ _ h => h) (Or.inl ⟨by rfl, ?_⟩) hHeld ?_ ?_
              rotate_left
              · rintro w' ⟨s0, s1, s2, s3, s4, s5⟩
                clear s0 s2 s3 s4 s5
                go_simp
                with_reducible rfl
              rotate_left
              · simp only [Act.put, List.setIfInBounds_toArray, List.set_cons_zero, List.set_cons_succ, i64_w, i32_w, wn]
                rfl
              refine pure_ (i := 9) (N := some 51) (v := ?_) (a' := ?_) #[true, true, true, true, true, true, true, true, true, true, false, true, true, true, false, false, false] rfl rfl (by kernel_rfl) (fun _ _ _ h => h) (Or.inl ⟨by rfl, ?_⟩) ?_ ?_
              rotate_left
              · intro w'
                go_simp
                with_reducible rfl
              rotate_left
              · simp only [Act.put, List.setIfInBounds_toArray, List.set_cons_zero, List.set_cons_succ, i64_w, i32_w, wn]
                rfl
              refine take_ (i := 10) (N := some 52) (v := ?_) (a' := ?_) #[true, true, true, true, true, true, true, true, true, true, true, true, true, true, false, false, false] rfl rfl (by kernel_rfl) (fun _ _ _ h => h) (Or.inl ⟨by rfl, ?_⟩) hHeld ?_ ?_
              rotate_left
              · rintro w' ⟨s0, s1, s2, s3, s4, s5⟩
                clear s0 s1 s3 s4 s5
                go_simp
                with_reducible rfl
              rotate_left
              · simp only [Act.put, List.setIfInBounds_toArray, List.set_cons_zero, List.set_cons_succ, i64_w, i32_w, wn]
                rfl
              refine take_ (i := 14) (N := some 56) (v := ?_) (a' := ?_) #[true, true, true, true, true, true, true, true, true, true, true, true, true, true, true, false, false] rfl rfl (by kernel_rfl) (fun _ _ _ h => h) (Or.inl ⟨by rfl, ?_⟩) hHeld ?_ ?_
              rotate_left
              · rintro w' ⟨s0, s1, s2, s3, s4, s5⟩
                clear s1 s2 s3 s4 s5
                go_simp
                with_reducible rfl
              rotate_left
              · simp only [Act.put, List.setIfInBounds_toArray, List.set_cons_zero, List.set_cons_succ, i64_w, i32_w, wn]
                rfl
              refine pure_ (i := 15) (N := some 57) (v := ?_) (a' := ?_) #[true, true, true, true, true, true, true, true, true, true, true, true, true, true, true, true, false] rfl rfl (by kernel_rfl) (fun _ _ _ h => h) (Or.inl ⟨by rfl, ?_⟩) ?_ ?_
              rotate_left
              · intro w'
                go_simp
                with_reducible rfl
              rotate_left
              · simp only [Act.put, List.setIfInBounds_toArray, List.set_cons_zero, List.set_cons_succ, i64_w, i32_w, wn]
                rfl
              refine pure_ (i := 16) (N := some 58) (v := ?_) (a' := ?_) #[true, true, true, true, true, true, true, true, true, true, true, true, true, true, true, true, true] rfl rfl (by kernel_rfl) (fun _ _ _ h => h) (Or.inl ⟨by rfl, ?_⟩) ?_ ?_
              rotate_left
              · intro w'
                go_simp
                with_reducible rfl
              rotate_left
              · simp only [Act.put, List.setIfInBounds_toArray, List.set_cons_zero, List.set_cons_succ, i64_w, i32_w, wn]
                rfl
              refine done_ (by kernel_rfl) ?_
              go_wp2
              exact ⟨⟨c + 1, by omega, by go_num, HO.out.drew, by rw [puts_skip (by rw [not_or]; exact ⟨HR0.out, fun h => h HZ.out⟩)]; exact HP.out, hB.drew⟩, by simp [intOf]; omega⟩
            · have hz1 : (z (r - 1) c != z r c) = true := by simp [Ne.symm hz]
              have HZ := Lib.hid hz
              clear hz
              go_upto_region 13 with (fail)
              refine start_ (n := 17) (S := fun w' => w'.cell? ⟨bb r, oo r + c, none⟩ = some (iv (z r c)) ∧ w'.cell? ⟨b, off + (r - 1), none⟩ = some (.slice (some ⟨bb (r - 1), oo (r - 1), none⟩) 14 (C (r - 1))) ∧ w'.cell? ⟨bb (r - 1), oo (r - 1) + c, none⟩ = some (iv (z (r - 1) c)) ∧ w'.heap[w2.heap.size]? = some (.cells (puts z r (chips z n r) c).cs 35 (0, 0)) ∧ w'.ownsRow (w2.heap.size + 1) 3 1 u6 (n * r) ((song z n r).map iv) ∧ Below w.heap.size w w') (ds := []) #[false, false, false, false, false, false, false, false, false, false, false, false, false, false, false, false, false] (by kernel_rfl) rfl rfl ⟨c1, c2, c3, HP.out, HO.out.drew, hB.drew⟩ (fun hHeld => ?_)
              refine pure_ (i := 0) (N := some 42) (v := ?_) (a' := ?_) #[true, false, false, false, false, false, false, false, false, false, false, false, false, false, false, false, false] rfl rfl (by kernel_rfl) (fun _ _ _ h => h) (Or.inl ⟨by rfl, ?_⟩) ?_ ?_
              rotate_left
              · intro w'
                go_simp
                with_reducible rfl
              rotate_left
              · simp only [Act.put, List.setIfInBounds_toArray, List.set_cons_zero, List.set_cons_succ, i64_w, i32_w, wn]
                rfl
              refine pure_ (i := 1) (N := some 43) (v := ?_) (a' := ?_) #[true, true, false, false, false, false, false, false, false, false, false, false, false, false, false, false, false] rfl rfl (by kernel_rfl) (fun _ _ _ h => h) (Or.inl ⟨by rfl, ?_⟩) ?_ ?_
              rotate_left
              · intro w'
                go_simp
                with_reducible rfl
              rotate_left
              · simp only [Act.put, List.setIfInBounds_toArray, List.set_cons_zero, List.set_cons_succ, i64_w, i32_w, wn]
                rfl
              refine pure_ (i := 2) (N := some 44) (v := ?_) (a' := ?_) #[true, true, true, false, false, false, false, false, false, false, false, false, false, false, false, false, false] rfl rfl (by kernel_rfl) (fun _ _ _ h => h) (Or.inl ⟨by rfl, ?_⟩) ?_ ?_
              rotate_left
              · intro w'
                go_simp
                with_reducible rfl
              rotate_left
              · simp only [Act.put, List.setIfInBounds_toArray, List.set_cons_zero, List.set_cons_succ, i64_w, i32_w, wn]
                rfl
              refine pure_ (i := 3) (N := some 45) (v := ?_) (a' := ?_) #[true, true, true, true, false, false, false, false, false, false, false, false, false, false, false, false, false] rfl rfl (by kernel_rfl) (fun _ _ _ h => h) (Or.inl ⟨by rfl, ?_⟩) ?_ ?_
              rotate_left
              · intro w'
                go_simp
                with_reducible rfl
              rotate_left
              · simp only [Act.put, List.setIfInBounds_toArray, List.set_cons_zero, List.set_cons_succ, i64_w, i32_w, wn]
                rfl
              refine pure_ (i := 4) (N := some 46) (v := ?_) (a' := ?_) #[true, true, true, true, true, false, false, false, false, false, false, false, false, false, false, false, false] rfl rfl (by kernel_rfl) (fun _ _ _ h => h) (Or.inl ⟨by rfl, ?_⟩) ?_ ?_
              rotate_left
              · intro w'
                go_simp
                with_reducible rfl
              rotate_left
              · simp only [Act.put, List.setIfInBounds_toArray, List.set_cons_zero, List.set_cons_succ, i64_w, i32_w, wn]
                rfl
              refine pure_ (i := 5) (N := some 47) (v := ?_) (a' := ?_) #[true, true, true, true, true, true, false, false, false, false, false, false, false, false, false, false, false] rfl rfl (by kernel_rfl) (fun _ _ _ h => h) (Or.inl ⟨by rfl, ?_⟩) ?_ ?_
              rotate_left
              · intro w'
                go_simp
                with_reducible rfl
              rotate_left
              · simp only [Act.put, List.setIfInBounds_toArray, List.set_cons_zero, List.set_cons_succ, i64_w, i32_w, wn]
                rfl
              refine pure_ (i := 6) (N := some 48) (v := ?_) (a' := ?_) #[true, true, true, true, true, true, true, false, false, false, false, false, false, false, false, false, false] rfl rfl (by kernel_rfl) (fun _ _ _ h => h) (Or.inl ⟨by rfl, ?_⟩) ?_ ?_
              rotate_left
              · intro w'
                go_simp
                with_reducible rfl
              rotate_left
              · simp only [Act.put, List.setIfInBounds_toArray, List.set_cons_zero, List.set_cons_succ, i64_w, i32_w, wn]
                rfl
              refine pure_ (i := 8) (N := some 50) (v := ?_) (a' := ?_) #[true, true, true, true, true, true, true, false, true, false, false, false, false, false, false, false, false] rfl rfl (by kernel_rfl) (fun _ _ _ h => h) (Or.inl ⟨by rfl, ?_⟩) ?_ ?_
              rotate_left
              · intro w'
                go_simp
                with_reducible rfl
              rotate_left
              · simp only [Act.put, List.setIfInBounds_toArray, List.set_cons_zero, List.set_cons_succ, i64_w, i32_w, wn]
                rfl
              refine pure_ (i := 11) (N := some 53) (v := ?_) (a' := ?_) #[true, true, true, true, true, true, true, false, true, false, false, true, false, false, false, false, false] rfl rfl (by kernel_rfl) (fun _ _ _ h => h) (Or.inl ⟨by rfl, ?_⟩) ?_ ?_
              rotate_left
              · intro w'
                go_simp
                with_reducible rfl
              rotate_left
              · simp only [Act.put, List.setIfInBounds_toArray, List.set_cons_zero, List.set_cons_succ, i64_w, i32_w, wn]
                rfl
              refine pure_ (i := 12) (N := some 54) (v := ?_) (a' := ?_) #[true, true, true, true, true, true, true, false, true, false, false, true, true, false, false, false, false] rfl rfl (by kernel_rfl) (fun _ _ _ h => h) (Or.inl ⟨by rfl, ?_⟩) ?_ ?_
              rotate_left
              · intro w'
                go_simp
                with_reducible rfl
              rotate_left
              · simp only [Act.put, List.setIfInBounds_toArray, List.set_cons_zero, List.set_cons_succ, i64_w, i32_w, wn]
                rfl
              refine pure_ (i := 13) (N := some 55) (v := ?_) (a' := ?_) #[true, true, true, true, true, true, true, false, true, false, false, true, true, true, false, false, false] rfl rfl (by kernel_rfl) (fun _ _ _ h => h) (Or.inl ⟨by rfl, ?_⟩) ?_ ?_
              rotate_left
              · intro w'
                go_simp
                with_reducible rfl
              rotate_left
              · simp only [Act.put, List.setIfInBounds_toArray, List.set_cons_zero, List.set_cons_succ, i64_w, i32_w, wn]
                rfl
              refine take_ (i := 7) (N := some 49) (v := ?_) (a' := ?_) #[true, true, true, true, true, true, true, true, true, false, false, true, true, true, false, false, false] rfl rfl (by kernel_rfl) (fun _ _ _ h => h) (Or.inl ⟨by rfl, ?_⟩) hHeld ?_ ?_
              rotate_left
              · rintro w' ⟨s0, s1, s2, s3, s4, s5⟩
                clear s0 s2 s3 s4 s5
                go_simp
                with_reducible rfl
              rotate_left
              · simp only [Act.put, List.setIfInBounds_toArray, List.set_cons_zero, List.set_cons_succ, i64_w, i32_w, wn]
                rfl
              refine pure_ (i := 9) (N := some 51) (v := ?_) (a' := ?_) #[true, true, true, true, true, true, true, true, true, true, false, true, true, true, false, false, false] rfl rfl (by kernel_rfl) (fun _ _ _ h => h) (Or.inl ⟨by rfl, ?_⟩) ?_ ?_
              rotate_left
              · intro w'
                go_simp
                with_reducible rfl
              rotate_left
              · simp only [Act.put, List.setIfInBounds_toArray, List.set_cons_zero, List.set_cons_succ, i64_w, i32_w, wn]
                rfl
              refine take_ (i := 10) (N := some 52) (v := ?_) (a' := ?_) #[true, true, true, true, true, true, true, true, true, true, true, true, true, true, false, false, false] rfl rfl (by kernel_rfl) (fun _ _ _ h => h) (Or.inl ⟨by rfl, ?_⟩) hHeld ?_ ?_
              rotate_left
              · rintro w' ⟨s0, s1, s2, s3, s4, s5⟩
                clear s0 s1 s3 s4 s5
                go_simp
                with_reducible rfl
              rotate_left
              · simp only [Act.put, List.setIfInBounds_toArray, List.set_cons_zero, List.set_cons_succ, i64_w, i32_w, wn]
                rfl
              refine take_ (i := 14) (N := some 56) (v := ?_) (a' := ?_) #[true, true, true, true, true, true, true, true, true, true, true, true, true, true, true, false, false] rfl rfl (by kernel_rfl) (fun _ _ _ h => h) (Or.inl ⟨by rfl, ?_⟩) hHeld ?_ ?_
              rotate_left
              · rintro w' ⟨s0, s1, s2, s3, s4, s5⟩
                clear s1 s2 s3 s4 s5
                go_simp
                with_reducible rfl
              rotate_left
              · simp only [Act.put, List.setIfInBounds_toArray, List.set_cons_zero, List.set_cons_succ, i64_w, i32_w, wn]
                rfl
              refine pure_ (i := 15) (N := some 57) (v := ?_) (a' := ?_) #[true, true, true, true, true, true, true, true, true, true, true, true, true, true, true, true, false] rfl rfl (by kernel_rfl) (fun _ _ _ h => h) (Or.inl ⟨by rfl, ?_⟩) ?_ ?_
              rotate_left
              · intro w'
                go_simp
                with_reducible rfl
              rotate_left
              · simp only [Act.put, List.setIfInBounds_toArray, List.set_cons_zero, List.set_cons_succ, i64_w, i32_w, wn]
                rfl
              refine pure_ (i := 16) (N := some 58) (v := ?_) (a' := ?_) #[true, true, true, true, true, true, true, true, true, true, true, true, true, true, true, true, true] rfl rfl (by kernel_rfl) (fun _ _ _ h => h) (Or.inl ⟨by rfl, ?_⟩) ?_ ?_
              rotate_left
              · intro w'
                go_simp
                with_reducible rfl
              rotate_left
              · simp only [Act.put, List.setIfInBounds_toArray, List.set_cons_zero, List.set_cons_succ, i64_w, i32_w, wn]
                rfl
              refine done_ (by kernel_rfl) ?_
              go_upto_region 14 with (fail)
              refine start_ (n := 8) (S := fun w' => w'.heap[w2.heap.size]? = some (.cells (puts z r (chips z n r) c).cs 35 (0, 0)) ∧ w'.ownsRow (w2.heap.size + 1) 3 1 u6 (n * r) ((song z n r).map iv) ∧ Below w.heap.size w w' ∧ w'.cell? ⟨bb r, oo r + c, none⟩ = some (iv (z r c))) (ds := [7]) #[false, false, false, false, false, false, false, false] (by kernel_rfl) rfl rfl ⟨HP.out, HO.out.drew.drew, hB.drew.drew, c1⟩ (fun hHeld => ?_)
              refine pure_ (i := 1) (N := some 60) (v := ?_) (a' := ?_) #[false, true, false, false, false, false, false, false] rfl rfl (by kernel_rfl) (fun _ _ _ h => h) (Or.inl ⟨by rfl, ?_⟩) ?_ ?_
              rotate_left
              · intro w'
                go_simp
                with_reducible rfl
              rotate_left
              · simp only [Act.put, List.setIfInBounds_toArray, List.set_cons_zero, List.set_cons_succ, i64_w, i32_w]
                rfl
              refine pure_ (i := 2) (N := some 61) (v := ?_) (a' := ?_) #[false, true, true, false, false, false, false, false] rfl rfl (by kernel_rfl) (fun _ _ _ h => h) (Or.inl ⟨by rfl, ?_⟩) ?_ ?_
              rotate_left
              · intro w'
                go_simp
                with_reducible rfl
              rotate_left
              · simp only [Act.put, List.setIfInBounds_toArray, List.set_cons_zero, List.set_cons_succ, i64_w, i32_w]
                rfl
              refine pure_ (i := 3) (N := some 62) (v := ?_) (a' := ?_) #[false, true, true, true, false, false, false, false] rfl rfl (by kernel_rfl) (fun _ _ _ h => h) (Or.inl ⟨by rfl, ?_⟩) ?_ ?_
              rotate_left
              · intro w'
                go_simp
                with_reducible rfl
              rotate_left
              · simp only [Act.put, List.setIfInBounds_toArray, List.set_cons_zero, List.set_cons_succ, i64_w, i32_w]
                rfl
              refine pure_ (i := 4) (N := some 63) (v := ?_) (a' := ?_) #[false, true, true, true, true, false, false, false] rfl rfl (by kernel_rfl) (fun _ _ _ h => h) (Or.inl ⟨by rfl, ?_⟩) ?_ ?_
              rotate_left
              · intro w'
                go_simp
                with_reducible rfl
              rotate_left
              · simp only [Act.put, List.setIfInBounds_toArray, List.set_cons_zero, List.set_cons_succ, i64_w, i32_w]
                rfl
              refine take_ (i := 0) (N := some 59) (v := ?_) (a' := ?_) #[true, true, true, true, true, false, false, false] rfl rfl (by kernel_rfl) (fun _ _ _ h => h) (Or.inl ⟨by rfl, ?_⟩) hHeld ?_ ?_
              rotate_left
              · rintro w' ⟨s0, s1, s2, s3⟩
                refine exec_load_row 35 (.tmp 7) ?_ w2.heap.size ?_ 35 _ _ _ s0 Try.underlying35 rfl (T.i35 _) <;> rfl
              rotate_left
              · simp only [Act.put, List.setIfInBounds_toArray, List.set_cons_zero, List.set_cons_succ, i64_w, i32_w]
                rfl
              refine take_ (i := 5) (N := some 64) (v := ?_) (a' := ?_) #[true, true, true, true, true, true, false, false] rfl rfl (by kernel_rfl) (fun _ _ _ h => h) (Or.inl ⟨by rfl, ?_⟩) hHeld ?_ ?_
              rotate_left
              · rintro w' ⟨s0, s1, s2, s3⟩
                clear s0 s1 s2
                go_simp
                with_reducible rfl
              rotate_left
              · simp only [Act.put, List.setIfInBounds_toArray, List.set_cons_zero, List.set_cons_succ, i64_w, i32_w]
                rfl
              refine one_ (i := 6) (N := some 65) #[true, true, true, true, true, true, true, false] rfl rfl (by kernel_rfl) (by decide) (fun K hK => ?_)
              obtain ⟨s0, s1, s2, s3⟩ := hHeld
              refine goes_ Try.func31 (by kernel_rfl) rfl #[.agg (puts z r (chips z n r) c).cs, iv c, iv (z r c)] (by rfl) rfl rfl (by simp only [List.map_toArray, List.map_cons, List.map_nil]; rfl) ?_
              with_reducible refine (rwritten_any (puts z r (chips z n r) c) (c : Int) (z r c) (by omega) (by omega) _).mono ?_
              rintro e w5 ⟨rfl, hb5⟩
              refine ⟨_, rfl, ?_⟩
              refine hK.out _ _ ⟨bkBelow s0 hb5, ownLater s1 hb5, bdT s2 s2.size hb5, (hb5.cell (p := ⟨bb r, oo r + c, none⟩) (Nat.lt_of_lt_of_le eb s2.size)).trans s3⟩ (fun hHeld => ?_)
              clear hK K
              refine norm_ (a' := ?_) ?_ ?_
              rotate_left
              · show Act.put _ (some 65) _ = _
                simp only [Act.put, List.setIfInBounds_toArray, List.set_cons_zero, List.set_cons_succ, i64_w, i32_w]
                rfl
              refine last_ (i := 7) (N := none) #[true, true, true, true, true, true, true, true] rfl rfl (by kernel_rfl) (by decide) (fun K hK => ?_)
              obtain ⟨T9, O9, B9, -⟩ := hHeld
              refine skip_ (w1 := ?_) (by rfl) rfl ?_ ?_
              rotate_left
              · refine exec_store_row 35 (.tmp 7) (.tmp 65) ?_ w2.heap.size (T.put (puts z r (chips z n r) c) c (z r c)).cs ?_ ?_ 35 _ T9 (T.i35 _) (T.sz T.zero _) (T.one _) <;> rfl
              refine hK.out _ _ ?_
              clear hK K
              refine done_ (by kernel_rfl) ?_
              go_wp2
              exact ⟨⟨c + 1, by omega, by go_num, ownFarG O9 w2.heap.size (by omega) _, by rw [puts_put (.inr HZ.out)]; exact setRow_heap _ _ _ _ _ _ T9, below_setRow B9 (g := w2.heap.size) L2.out _⟩, by simp [intOf]; omega⟩
        · obtain rfl : c = 14 := by omega
          have hp := puts_ok (chips_ok n HG.out r (by omega)) (HG.out r hlt).2 14 (Nat.le_refl _)
          have hnr : n * r ≤ 100 * 100 := Nat.mul_le_mul hn (by omega)
          go_upto_region 16 with (first
            | (refine wpList_load_row rfl 35 (.tmp 7) rfl (w2.heap.size) rfl 35 _ (0, 0) _ HP.out Try.underlying35 rfl (T.i35 _) ?_)
            | (go_at_call 22; (with_reducible refine (ran_any _ hp n (by omega) _).mono ?_); rintro e w5 ⟨g, rfl, N5, hb5⟩; have P5 := Lib.hid (bkBelow HP.out hb5); have S5 := Lib.hid (ownLater HO.out hb5); have B5 := bdT hB hB.size hb5; have hg5 := ownRowB N5 g rfl; have hl5 := bkLt HP.out; have Z5 := Lib.hid (heap_alloc_new w5 (Obj.cells #[iv 0, iv 0, iv 0, iv 0, iv 0, iv 0, iv 0, iv 0, iv 0, iv 0, iv 0, iv 0, iv 0, iv 0, iv 0, iv 0, iv 0, iv 0, iv 0, iv 0, iv 0, iv 0, iv 0, iv 0] 35)))
            | (refine wpList_store_row rfl 35 (.tmp 12) (.tmp 71) rfl (w5.heap.size) (T.run (puts z r (chips z n r) 14) n).cs rfl rfl 35 _ Z5.out (T.i35 _) (T.sz T.zero _) (T.one _) ?_; have K6 := below_setRow ((Below.refl w5.heap.size w5).alloc (Nat.le_refl _) (Obj.cells #[iv 0, iv 0, iv 0, iv 0, iv 0, iv 0, iv 0, iv 0, iv 0, iv 0, iv 0, iv 0, iv 0, iv 0, iv 0, iv 0, iv 0, iv 0, iv 0, iv 0, iv 0, iv 0, iv 0, iv 0] 35)) (g := w5.heap.size) (Nat.le_refl _) (T.run (puts z r (chips z n r) 14) n).cs; have E6 := Lib.hid (setRow_heap _ _ _ (T.run (puts z r (chips z n r) 14) n).cs _ _ Z5.out); have P6 := Lib.hid (bkBelow P5.out K6); have S6 := Lib.hid (ownLater S5.out K6); have N6 := ownLater N5 K6; have B6 := bdT B5 B5.size K6; have HS := Lib.hid (ownLt S5.out); have NW := Lib.hid (newsOf (Below.refl _ _) (ownFarA N6) (vals_len _ _) (cellsGet N6)); clear Z5 K6 N6 N5 S5 P5))
          have hs6 := B6.size
          have hl6 := bkLt P6.out
          refine start_ (n := 6) (S := fun w' => w'.heap[w5.heap.size]? = some (.cells (T.run (puts z r (chips z n r) 14) n).cs 35 (0, 0))) (ds := [5]) #[false, false, false, false, false, false] (by kernel_rfl) rfl rfl (E6.out) (fun hHeld => ?_)
          refine pure_ (i := 0) (N := some 72) (v := ?_) (a' := ?_) #[true, false, false, false, false, false] rfl rfl (by kernel_rfl) (fun _ _ _ h => h) (Or.inl ⟨by rfl, ?_⟩) ?_ ?_
          rotate_left
          · intro w'
            go_simp
            with_reducible rfl
          rotate_left
          · simp only [Act.put, List.setIfInBounds_toArray, List.set_cons_zero, List.set_cons_succ, i64_w, i32_w]
            rfl
          refine pure_ (i := 1) (N := some 73) (v := ?_) (a' := ?_) #[true, true, false, false, false, false] rfl rfl (by kernel_rfl) (fun _ _ _ h => h) (Or.inl ⟨by rfl, ?_⟩) ?_ ?_
          rotate_left
          · intro w'
            go_simp
            with_reducible rfl
          rotate_left
          · simp only [Act.put, List.setIfInBounds_toArray, List.set_cons_zero, List.set_cons_succ, i64_w, i32_w]
            rfl
          refine take_ (i := 3) (N := some 75) (v := ?_) (a' := ?_) #[true, true, false, true, false, false] rfl rfl (by kernel_rfl) (fun _ _ _ h => h) (Or.inl ⟨by rfl, ?_⟩) hHeld ?_ ?_
          rotate_left
          · intro w' s0
            refine exec_load_row 35 (.tmp 12) ?_ w5.heap.size ?_ 35 _ _ _ s0 Try.underlying35 rfl (T.i35 _) <;> rfl
          rotate_left
          · simp only [Act.put, List.setIfInBounds_toArray, List.set_cons_zero, List.set_cons_succ, i64_w, i32_w]
            rfl
          refine one_ (i := 2) (N := some 74) #[true, true, true, true, false, false] rfl rfl (by kernel_rfl) (by decide) (fun K hK => ?_)
          refine step_append_own (by rfl) _ _ 23 rfl (w2.heap.size + 1) 3 i0 (.int .i64 0) 1 8 Try.underlying23 hi hz0 hz1 hz2 rfl (by decide) u6 (n * r) ((song z n r).map iv) rfl S6.out.drew ⟨g, 0, none⟩ n n (((puts z r (chips z n r) 14).vals n).map iv) rfl (by simp [vals_len]) NW.out (by simp [Value.oneCell']) (by unfold maxLen; omega) (by omega) (by have := bkLt P6.out; show w2.heap.size + 1 ≤ _; exact this) ?_
          intro v' w7 hown7 hgrow7
          have P7 := grBlk (by exact P6.out) hgrow7 (by intro h; have := ownRowB S6.out _ h.symm; omega)
          refine hK.out _ _ (grBlk hHeld hgrow7 (by intro h; have := HS.out _ h.symm; omega)) (fun hHeld => ?_)
          clear hK K
          refine norm_ (a' := ?_) ?_ ?_
          rotate_left
          · show Act.put _ (some 74) _ = _
            simp only [Act.put, List.setIfInBounds_toArray, List.set_cons_zero, List.set_cons_succ, i64_w, i32_w]
            rfl
          refine pure_ (i := 4) (N := some 6) (v := ?_) (a' := ?_) #[true, true, true, true, true, false] rfl rfl (by kernel_rfl) (fun _ _ _ h => h) (Or.inl ⟨by rfl, ?_⟩) ?_ ?_
          rotate_left
          · intro w'
            go_simp
            with_reducible rfl
          rotate_left
          · simp only [Act.put, List.setIfInBounds_toArray, List.set_cons_zero, List.set_cons_succ, i64_w, i32_w]
            rfl
          refine last_ (i := 5) (N := none) #[true, true, true, true, true, true] rfl rfl (by kernel_rfl) (by decide) (fun K hK => ?_)
          refine skip_ (w1 := ?_) (by rfl) rfl ?_ ?_
          rotate_left
          · refine exec_store_row 35 (.tmp 7) (.tmp 75) ?_ w2.heap.size (T.run (puts z r (chips z n r) 14) n).cs ?_ ?_ 35 _ P7 (T.i35 _) (T.sz T.zero _) (T.one _) <;> rfl
          refine hK.out _ _ ?_
          clear hK K
          refine done_ (by kernel_rfl) ?_
          have B7 := B6.drew.grown hgrow7 hs6 (fun q hq => by have := ownRowB S6.out q hq; have := L2.out; omega)
          go_wp2
          exact ⟨⟨r + 1, by omega, by go_num, ownEq (ownFarG hown7 w2.heap.size (by omega) _) (by rw [Nat.mul_succ]) (by simp [song]), setRow_heap _ _ _ _ _ _ P7, below_setRow B7 (g := w2.heap.size) L2.out _⟩, by simp [intOf]; omega⟩
    · obtain rfl : r = len := by omega
      go_wp2
      refine bodyPost_ret (results_tmp2 rfl _ _ _) rfl ⟨_, rfl, ownBase2 HO.out (by have := L2.out; omega), hB⟩
end Go.Proofs.Ytfpgidflaaefeaa.CH
