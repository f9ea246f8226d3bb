/- What a sample's functions are asked, as one block; equal cursors. -/
import Derived.Test.YtnmoiolddfboiaaSxH
import Derived.Deep.MidRow
import Derived.Laws.StructEq
namespace Go.Proofs.Ytnmoiolddfboiaa.SX
open Go.RowKit Go.Proofs.YtnmoiolddfboiaaW.PrintLast Go.Proofs.Ytnmoiolddfboiaa.TX Go.Proofs.Ytnmoiolddfboiaa.Cu
set_option linter.unusedVariables false
set_option linter.unusedSimpArgs false
/-- what beside the sample is asked -/
structure Q where
  cur : Cur
  st : Int
  kk : Int
  nn : Int
  off : Int
  fr : Int
  tz : Int
  nu : Int
  de : Int
  bi : Int
  he : Bool
  ba : Bool
def Q.cs (q : Q) (s : S) (A : Option Addr) (n c : Nat) : Array Value := #[.string s.nm, .slice A n c, iv s.a2, iv s.a3, iv s.a4, iv s.a5, iv s.a6, iv s.a7, iv s.a8, iv s.a9, iv s.a10, iv s.a11, iv s.a12, iv q.cur.pos, iv q.cur.frac, .bool q.cur.back, .bool q.cur.done, iv q.st, iv q.kk, iv q.nn, iv q.off, iv q.fr, iv q.tz, iv q.nu, iv q.de, iv q.bi, .bool q.he, .bool q.ba]
section
variable {ops : Array Oper} {rest : List Oper} {o : Oper} {a : Act} {w : World} {K : Exit → Act → World → Prop}
/-- the sample at the head of such a block, loaded -/
theorem wpLoadAsk (hgd : o.guard = none) (x : Operand) (ho : o.op = .load 24 x) (g : Nat) (hx : a.eval x = .pointer (some ⟨g, 0, none⟩)) (q : Q) (s : S) (A : Option Addr) (n c : Nat) (hg : w.heap[g]? = some (.cells (q.cs s A n c) 28 (0, 0)))
    (h : wpList Try.prog ops K rest (a.put o.dst (.agg (s.cs A n c))) w) : wpList Try.prog ops K (o :: rest) a w := by
  refine wpList_load_mid hgd 24 x ho g 0 hx (s.cs A n c).toList _ (fun j v hj => ?_) Try.underlying24 rfl (by simpa using S.i24 s A n c) h
  rw [Nat.zero_add, bkCell hg j]
  have hl : j < 13 := by
    have := (List.getElem?_eq_some_iff.1 hj).1
    simpa [S.cs] using this
  have e : ∀ j, j < 13 → (q.cs s A n c)[j]? = (s.cs A n c).toList[j]? := by
    intro j hj
    rcases (by omega : j = 0 ∨ j = 1 ∨ j = 2 ∨ j = 3 ∨ j = 4 ∨ j = 5 ∨ j = 6 ∨ j = 7 ∨ j = 8 ∨ j = 9 ∨ j = 10 ∨ j = 11 ∨ j = 12) with rfl | rfl | rfl | rfl | rfl | rfl | rfl | rfl | rfl | rfl | rfl | rfl | rfl <;> rfl
  rw [e j hl]
  exact hj
/-- the cursor in it -/
theorem wpLoadAskCur (hgd : o.guard = none) (x : Operand) (ho : o.op = .load 26 x) (g : Nat) (hx : a.eval x = .pointer (some ⟨g, 13, none⟩)) (q : Q) (s : S) (A : Option Addr) (n c : Nat) (hg : w.heap[g]? = some (.cells (q.cs s A n c) 28 (0, 0)))
    (h : wpList Try.prog ops K rest (a.put o.dst (.agg (Cur.cs q.cur))) w) : wpList Try.prog ops K (o :: rest) a w := by
  refine wpList_load_mid hgd 26 x ho g 13 hx (Cur.cs q.cur).toList _ (fun j v hj => ?_) Try.underlying26 rfl (by simpa using Cur.i26 q.cur) h
  rw [bkCell hg (13 + j)]
  have hl : j < 4 := by
    have := (List.getElem?_eq_some_iff.1 hj).1
    simpa [Cur.cs] using this
  have e : ∀ j, j < 4 → (q.cs s A n c)[13 + j]? = (Cur.cs q.cur).toList[j]? := by
    intro j hj
    rcases (by omega : j = 0 ∨ j = 1 ∨ j = 2 ∨ j = 3) with rfl | rfl | rfl | rfl <;> rfl
  rw [e j hl]
  exact hj
end
theorem addPlain {w : World} {a : Addr} {v : Value} (i : Nat) (h : w.cell? (a.add i) = some v) : a.add i = ⟨a.block, a.off + i, none⟩ := by
  have hs := World.cell?_spot h
  obtain ⟨b, o, s⟩ := a
  unfold Addr.add at hs ⊢
  split <;> simp_all
theorem plainZero {w : World} {a : Addr} {v : Value} (h : w.cell? (a.add 0) = some v) : a = ⟨a.block, a.off, none⟩ := by
  have hs := World.cell?_spot h
  obtain ⟨b, o, s⟩ := a
  simp [Addr.add] at hs
  rw [hs]
def RowOf (w : World) (A : Option Addr) (len cap : Nat) (zs : List Int) : Prop := (A = none ∧ len = 0 ∧ cap = 0 ∧ zs = []) ∨ ∃ x, A = some x ∧ len ≤ cap ∧ cap ≤ maxLen ∧ zs.length = cap ∧ (∀ i, i < zs.length → w.cell? (x.add i) = some (.int .i64 (zs.getD i 0))) ∧ ∀ n ∈ zs, (Lit.int .i64 n).wf = true
theorem dataOf {w : World} {A : Option Addr} {len cap : Nat} {zs : List Int} (h : RowOf w A len cap zs) :
    len ≤ cap ∧ len ≤ 9223372036854775807 ∧ ∃ b o, DataAt w A len b o (fun i => zs.getD i 0) := by
  rcases h with ⟨rfl, rfl, rfl, rfl⟩ | ⟨x, rfl, hl, hmx, hz, hc, _⟩
  · exact ⟨Nat.le_refl _, by omega, 0, 0, fun h => by omega, fun h => by omega, fun i h => by omega⟩
  · refine ⟨hl, by unfold maxLen at hmx; omega, x.block, x.off, fun hp => congrArg some (plainZero (hc 0 (by omega))), fun hp => ?_, fun i hi => ?_⟩
    · have h0 := hc 0 (by omega)
      have := World.block_lt_of_cell? _ _ h0
      rwa [addPlain 0 h0] at this
    · have h0 := hc i (by omega)
      rwa [addPlain i h0] at h0
theorem wfR {x : Int} (h : (Lit.int .i64 x).wf = true) : -9223372036854775808 ≤ x ∧ x ≤ 9223372036854775807 := by
  simp [Lit.wf, IntKind.min, IntKind.max, IntKind.signed, IntKind.bits] at h
  omega
theorem eqCur (c : Cur) (w : World) : (Op.equalIn 10000 26 (.agg (Cur.cs c)) (.agg (Cur.cs c))).run Try.prog w = .ok true w := by
  unfold Cur.cs
  go_simp
end Go.Proofs.Ytnmoiolddfboiaa.SX
