/- The tone chip: words for the laws: guarded operations, slices that are equal, chips that are equal. -/
import Derived.Test.YtfpgidflaaefeaaChJ
import Derived.ChangeKeysEq
namespace Go.Proofs.Ytfpgidflaaefeaa.CH
open Go.RowKit Go.Proofs.YtfpgidflaaefeaaW.PrintLast
set_option linter.unusedVariables false
set_option linter.unusedSimpArgs false
section
variable {P : Program} {ops : Array Oper} {rest : List Oper} {o : Oper} {a : Act} {Q : Exit → Act → World → Prop} {W : World}
theorem gdOn (hw : Region.wanted o (yielded ops a.tmps) = true) (h : wpList P ops Q ({ o with guard := none } :: rest) a W) : wpList P ops Q (o :: rest) a W := by
  have h1 : Region.wanted { o with guard := none } (yielded ops a.tmps) = true := rfl
  unfold wpList at h ⊢
  rw [if_pos h1] at h
  rw [if_pos hw]
  exact h
end
theorem eqA (w : World) (d : Nat) (t n : Nat) (xs : Array Value) (hu : Try.prog.underlying t = some (.array n 3)) (l : List Int) (hx : xs = (l.map iv).toArray) (hn : l.length = n) : (Op.equalIn (d + 2) t (.agg xs) (.agg xs)).run Try.prog w = .ok true w := by
  obtain ⟨i0, hi, hz0, hz1, hz2⟩ := info_parts info3
  rw [run_equalIn_array w (d + 1) xs xs hu hi]
  have hc : Try.prog.cellsOf 3 = 1 := by kernel_rfl
  rw [hc]
  have : ∀ is : List Nat, (∀ j ∈ is, j < n) → (Op.eqItems (d + 1) 3 1 xs xs is).run Try.prog w = .ok true w := by
    intro is
    induction is with
    | nil => intro _; simp [Op.eqItems]
    | cons j is ih =>
      intro h
      have hj := h j (by simp)
      have hp : (part 3 xs (j * 1)).run Try.prog w = .ok (iv (l.getD j 0)) w := by
        have h2 : xs[j * 1]? = some (iv (l.getD j 0)) := by
          have hjl : j < l.length := by omega
          subst hx
          simp [hjl]
        have ha : (isAgg 3).run Try.prog w = .ok false w := by simp [go_sem]
        unfold part
        rw [Sem.run_bind, ha]
        simp only [Result.andThen_ok, Bool.false_eq_true, if_false, h2, Sem.run_pure]
      have he := run_equalIn_int (P := Try.prog) w d 3 .i64 .i64 (l.getD j 0) (l.getD j 0) Try.underlying3
      simp only [Op.eqItems, Sem.run_bind, hp, Result.andThen_ok, he]
      simp [ih (fun j hj => h j (by simp [hj]))]
  exact this _ (fun j hj => by simpa using hj)
section
variable {P : Program} {d : Nat} {xs ys : Array Value} {f : Field} {fs : List Field} {a b : Value} {w : World}
theorem eqfC (hn : (f.name == "_") = false) (ha : (part f.type xs f.offset).run P w = .ok a w) (hb : (part f.type ys f.offset).run P w = .ok b w) (he : (Op.equalIn d f.type a b).run P w = .ok true w) (hr : (Op.eqFields d xs ys fs).run P w = .ok true w) : (Op.eqFields d xs ys (f :: fs)).run P w = .ok true w := by
  have hn' : f.name ≠ "_" := by simpa using hn
  rw [Op.eqFields]
  simp only [if_pos hn', Sem.run_bind, ha, hb, he, Result.andThen_ok]
  simpa using hr
theorem eqfN : (Op.eqFields d xs ys []).run P w = .ok true w := by simp [Op.eqFields]
end
theorem eqTd (t : T) (w : World) (d : Nat) : (Op.equalIn (d + 2 + 1) 35 (.agg t.cs) (.agg t.cs)).run Try.prog w = .ok true w := by
  rw [run_equalIn_struct w (d + 2) 35 _ _ (by unfold Program.fieldsOf; rw [Try.underlying35]) Try.stoodInHeld35]
  have i0 : ∀ (a b : Int) , a = b → (Op.equalIn (d + 2) 3 (iv a) (iv b)).run Try.prog w = .ok true w := fun a b h => by rw [run_equalIn_int (P := Try.prog) w (d + 1) 3 .i64 .i64 a b Try.underlying3, h]; simp
  have e0 := eqA w d 32 14 (t.cs.extract 0 14) Try.underlying32 [t.r0, t.r1, t.r2, t.r3, t.r4, t.r5, t.r6, t.r7, t.r8, t.r9, t.r10, t.r11, t.r12, t.r13] (by simp [T.cs]) rfl
  have e1 := eqA w d 33 3 (t.cs.extract 14 17) Try.underlying33 [t.c0, t.c1, t.c2] (by simp [T.cs]) rfl
  have e2 := eqA w d 33 3 (t.cs.extract 17 20) Try.underlying33 [t.b0, t.b1, t.b2] (by simp [T.cs]) rfl
  have aa : ∀ k, k = 32 ∨ k = 33 → (isAgg k).run Try.prog w = .ok true w := by rintro k (rfl | rfl) <;> simp [go_sem]
  have a3 : (isAgg 3).run Try.prog w = .ok false w := by simp [go_sem]
  have s32 : (sizeOf 32).run Try.prog w = .ok 14 w := by simp [go_sem]
  have s33 : (sizeOf 33).run Try.prog w = .ok 3 w := by simp [go_sem]
  have p0 : (part 32 t.cs 0).run Try.prog w = .ok (.agg (t.cs.extract 0 14)) w := by unfold part; rw [Sem.run_bind, aa 32 (.inl rfl)]; simp only [Result.andThen_ok, if_true, Sem.run_bind, s32, Sem.run_pure]
  have p1 : (part 33 t.cs 14).run Try.prog w = .ok (.agg (t.cs.extract 14 17)) w := by unfold part; rw [Sem.run_bind, aa 33 (.inr rfl)]; simp only [Result.andThen_ok, if_true, Sem.run_bind, s33, Sem.run_pure]
  have p2 : (part 33 t.cs 17).run Try.prog w = .ok (.agg (t.cs.extract 17 20)) w := by unfold part; rw [Sem.run_bind, aa 33 (.inr rfl)]; simp only [Result.andThen_ok, if_true, Sem.run_bind, s33, Sem.run_pure]
  have pp : ∀ (k : Nat) (x : Int), t.cs[k]? = some (iv x) → (part 3 t.cs k).run Try.prog w = .ok (iv x) w := fun k x h => by unfold part; rw [Sem.run_bind, a3]; simp only [Result.andThen_ok, Bool.false_eq_true, if_false, h, Sem.run_pure]
  have p3 := pp 20 t.nc rfl
  have p4 := pp 21 t.n rfl
  have p5 := pp 22 t.ec rfl
  have p6 := pp 23 t.es rfl
  unfold Program.fieldsOf
  rw [Try.underlying35]
  have j3 := i0 t.nc t.nc rfl
  have j4 := i0 t.n t.n rfl
  have j5 := i0 t.ec t.ec rfl
  have j6 := i0 t.es t.es rfl
  exact eqfC (by decide) p0 p0 e0 (eqfC (by decide) p1 p1 e1 (eqfC (by decide) p2 p2 e2 (eqfC (by decide) p3 p3 j3 (eqfC (by decide) p4 p4 j4 (eqfC (by decide) p5 p5 j5 (eqfC (by decide) p6 p6 j6 eqfN))))))
theorem eqT (t : T) (w : World) : (Op.equalIn 10000 35 (.agg t.cs) (.agg t.cs)).run Try.prog w = .ok true w := eqTd t w 9997
set_option maxHeartbeats 2000000 in
theorem equal_any (g h n c d : Nat) (xs : List Int) (hn : n ≤ 1000000) (w : World) (hA : ∀ i, i < n → w.cell? ⟨g, i, none⟩ = some (iv (xs.getD i 0))) (hB : ∀ i, i < n → w.cell? ⟨h, i, none⟩ = some (iv (xs.getD i 0))) :
    Calls Try.prog 14 #[.slice (some ⟨g, 0, none⟩) n c, .slice (some ⟨h, 0, none⟩) n d] w fun e w' => e = .returned (.bool true) ∧ ∃ m, w' = w.drewN m := by
  have HA := Lib.hid hA
  have HB := Lib.hid hB
  clear hA hB
  have e0 : ((n : Int) == (n : Int)) = true := by simp
  go_enter Try.func14, Try.ntmps14
  go_wp2
  go_loopw [13] (fun v wr => ∃ k : Nat, k ≤ n ∧ v = iv k ∧ ∃ m, wr = w.drewN m) (fun v _ => n - (intOf v).toNat)
  case atStart => exact ⟨0, by omega, rfl, 0, rfl⟩
  case round =>
    obtain ⟨k, hk, rfl, m, rfl⟩ := hrel
    by_cases hlt : k < n
    · have ha := HA.out k hlt
      have hb := HB.out k hlt
      generalize xs.getD k 0 = x at ha hb
      have h0 : (0 : Int) ≤ (k : Int) := by omega
      have h1 : (k : Int) < (n : Int) := by omega
      go_wp2
      go_quiet (fail)
      go_wp2
      exact ⟨⟨k + 1, by omega, by go_num, _, rfl⟩, by simp [intOf]; omega⟩
    · have h1 : decide ((k : Int) < (n : Int)) = false := decide_eq_false (by omega)
      go_wp2
      go_ret
      exact ⟨rfl, m, rfl⟩
/-- a guarded operation by its own law -/
theorem cellsGet {w : World} {B g n c : Nat} {xs : List Int} (h : w.ownsRow B 3 1 (.slice (some ⟨g, 0, none⟩) n c) n (xs.map iv)) : ∀ i, i < n → w.cell? ⟨g, i, none⟩ = some (iv (xs.getD i 0)) := by
  intro i hi
  have hl := h.1
  rw [h.cellAt i (by omega)]
  simp only [List.length_map] at hl
  simp [show i < xs.length by omega]
end Go.Proofs.Ytfpgidflaaefeaa.CH
