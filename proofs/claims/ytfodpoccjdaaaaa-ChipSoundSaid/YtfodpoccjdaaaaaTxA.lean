/- Helpers for the laws about samples that are worked on: memory, small functions; no condition but ranges of numbers. -/
import Derived.Test.YtfodpoccjdaaaaaProg
import Derived.Below
import Derived.Tactics
import Derived.WalkKit
import Derived.KernelRfl
import Derived.RowKit3
import Derived.Deep.LoopGhost
import Derived.Deep.QuietTactic
import Derived.BigQuiet
import Derived.WideLaws
import Derived.Deep.DeepCutAuto
import Derived.Deep.CutBlock
import Derived.Laws.Rows
import Derived.Laws.BitsLemmas
import Derived.RowKit
import Derived.WalkLawsBesides
import Derived.WalkSpells
import Derived.Outline
import Derived.Laws.EntriesVeiled
import Derived.Lib.Hide
import Derived.Laws.Tables
import Derived.Laws.CopyOwn
import Derived.OwnWalk
import Derived.Laws.MakeOwn
import Derived.Laws.OwnMore
import Derived.Deep.OwnRows
import Derived.Laws.Cover3
import Derived.Test.YtfodpoccjdaaaaaWLast
import Derived.Deep.RegionWith
import Derived.Deep.RegionHeld3
namespace Go.Proofs.Ytfodpoccjdaaaaa.TX
open Go.RowKit Go.Proofs.YtfodpoccjdaaaaaW.PrintLast
set_option linter.unusedVariables false
set_option linter.unusedSimpArgs false
abbrev iv (x : Int) : Value := .int .i64 x
theorem bdN {B : Nat} {w W : World} (h : Below B w W) (n : Nat) : Below B w (W.drewN n) := ⟨h.os, h.tape, h.output, h.size, h.block⟩
theorem bdT {B : Nat} {w a b : World} (h : Below B w a) (hB : B ≤ a.heap.size) (k : Below a.heap.size a b) : Below B w b := h.trans (k.mono hB)
theorem bkLt {w : World} {g : Nat} {o : Obj} (h : w.heap[g]? = some o) : g < w.heap.size := (Array.getElem?_eq_some_iff.1 h).1
theorem bkBelow {w w1 : World} {g : Nat} {o : Obj} (h : w.heap[g]? = some o) (hb : Below w.heap.size w w1) : w1.heap[g]? = some o := (hb.block g (bkLt h)).trans h
theorem bkAlloc {w : World} {g : Nat} {o : Obj} (h : w.heap[g]? = some o) (o' : Obj) : (w.alloc o').heap[g]? = some o := (Below.heap_alloc w o' g (bkLt h)).trans h
theorem bkCell {w : World} {g : Nat} {t : TypeId} {cs : Array Value} (h : w.heap[g]? = some (.cells cs t (0, 0))) (i : Nat) : w.cell? ⟨g, i, none⟩ = cs[i]? := cell_of_row w g i cs t (0, 0) h
theorem bkFrozen {w : World} {g : Nat} {t : TypeId} {cs : Array Value} (h : w.heap[g]? = some (.cells cs t (0, 0))) (i : Nat) : w.frozen? ⟨g, i, none⟩ = false := by simp [World.frozen?, h]
theorem bkFar {w : World} {g : Nat} {o : Obj} (h : w.heap[g]? = some o) {p : Addr} (hp : g ≠ p.block) (u : Value) : (w.setCell p u).heap[g]? = some o := (Below.heap_setCell w p u g hp).trans h
theorem bkSet {w : World} {g : Nat} {t : TypeId} {cs : Array Value} (h : w.heap[g]? = some (.cells cs t (0, 0))) (i : Nat) (u : Value) : (w.setCell ⟨g, i, none⟩ u).heap[g]? = some (.cells (cs.setIfInBounds i u) t (0, 0)) := by
  simp [World.setCell, Array.getElem?_modify, h]
theorem bkPut {w : World} {g : Nat} {t : TypeId} {cs cs' : Array Value} (h : w.heap[g]? = some (.cells cs t (0, 0))) (i : Nat) (u : Value) (e : cs.setIfInBounds i u = cs') : (w.setCell ⟨g, i, none⟩ u).heap[g]? = some (.cells cs' t (0, 0)) := e ▸ bkSet h i u
theorem exec_load_row {P : Program} {oi : Oper} {a : Act} {w : World} (ty : TypeId) (x : Operand) (ho : oi.op = .load ty x) (g : Nat) (hx : a.eval x = .pointer (some ⟨g, 0, none⟩)) (t : TypeId) (cs : Array Value) (fr : Nat × Nat) (d : TypeDesc) (hg : w.heap[g]? = some (.cells cs t fr))
    (hu : P.underlying ty = some d) (hd : (match d with | .struct _ | .array _ _ => true | _ => false) = true) (hi : (P.info? ty).map (·.size) = some cs.size) : (execOp a.eval oi).run P w = .ok (.value (.agg cs)) w := by
  unfold execOp
  simp only [ho, hx, Instr.loadAt, Instr.sureAddr, Sem.run_bind, Sem.run_pure, Result.andThen_ok, run_loadVar_row w g t ty cs fr d hg hu hd hi]

section
variable {P : Program}
theorem exec_store_row {oi : Oper} {a : Act} {w : World} (ty : TypeId) (x y : Operand) (ho : oi.op = .store ty x y) (g : Nat) (cells : Array Value) (hx : a.eval x = .pointer (some ⟨g, 0, none⟩)) (hy : a.eval y = .agg cells)
    (t : TypeId) (old : Array Value) (hg : w.heap[g]? = some (.cells old t (0, 0))) (hi : (P.info? ty).map (·.size) = some cells.size)
    (hold : old.size = cells.size) (h1 : cells.all (·.oneCell') = true) : (execOp a.eval oi).run P w = .ok .skip (w.setRow g cells) := by
  unfold execOp
  simp only [ho, hx, hy, Instr.storeAt, Instr.sureAddr, Sem.run_bind, Sem.run_pure, Result.andThen_ok, run_storeVar_row w g t ty old cells hg hi hold h1]
theorem res_tc {fn : Func} {p q : Tmp} {ty : TypeId} (h : fn.results = #[.tmp p, .cell q ty]) (tmps : Array Value) (w : World) (g : Nat) (t : TypeId) (cs : Array Value) (fr : Nat × Nat) (d : TypeDesc)
    (hp : tmps.getD q undef = .pointer (some ⟨g, 0, none⟩)) (hg : w.heap[g]? = some (.cells cs t fr))
    (hu : P.underlying ty = some d) (hd : (match d with | .struct _ | .array _ _ => true | _ => false) = true) (hi : (P.info? ty).map (·.size) = some cs.size) :
    (results fn tmps).run P w = .ok (.tuple #[tmps.getD p undef, .agg cs]) w := by
  have hp' : tmps[q]?.getD undef = .pointer (some ⟨g, 0, none⟩) := by simpa using hp
  simp [results, h, hp', asAddr, run_loadVar_row w g t ty cs fr d hg hu hd hi]
theorem res_ct {fn : Func} {p q : Tmp} {ty : TypeId} (h : fn.results = #[.cell q ty, .tmp p]) (tmps : Array Value) (w : World) (g : Nat) (t : TypeId) (cs : Array Value) (fr : Nat × Nat) (d : TypeDesc)
    (hp : tmps.getD q undef = .pointer (some ⟨g, 0, none⟩)) (hg : w.heap[g]? = some (.cells cs t fr))
    (hu : P.underlying ty = some d) (hd : (match d with | .struct _ | .array _ _ => true | _ => false) = true) (hi : (P.info? ty).map (·.size) = some cs.size) :
    (results fn tmps).run P w = .ok (.tuple #[.agg cs, tmps.getD p undef]) w := by
  have hp' : tmps[q]?.getD undef = .pointer (some ⟨g, 0, none⟩) := by simpa using hp
  simp [results, h, hp', asAddr, run_loadVar_row w g t ty cs fr d hg hu hd hi]
theorem res_tct {fn : Func} {p q r : Tmp} {ty : TypeId} (h : fn.results = #[.tmp p, .cell q ty, .tmp r]) (tmps : Array Value) (w : World) (g : Nat) (t : TypeId) (cs : Array Value) (fr : Nat × Nat) (d : TypeDesc)
    (hp : tmps.getD q undef = .pointer (some ⟨g, 0, none⟩)) (hg : w.heap[g]? = some (.cells cs t fr))
    (hu : P.underlying ty = some d) (hd : (match d with | .struct _ | .array _ _ => true | _ => false) = true) (hi : (P.info? ty).map (·.size) = some cs.size) :
    (results fn tmps).run P w = .ok (.tuple #[tmps.getD p undef, .agg cs, tmps.getD r undef]) w := by
  have hp' : tmps[q]?.getD undef = .pointer (some ⟨g, 0, none⟩) := by simpa using hp
  simp [results, h, hp', asAddr, run_loadVar_row w g t ty cs fr d hg hu hd hi]
end
theorem info3 : (Try.prog.info? 3).map (fun i => (i.zero, i.size, i.bytes)) = some (some (.int .i64 0), 1, 8) := by kernel_rfl
theorem grBlk {w w' : World} {row : Option Nat} {g : Nat} {o : Obj} (h : w.heap[g]? = some o) (hg : w.grownBy w' row) (hne : some g ≠ row) : w'.heap[g]? = some o := (hg.block g (bkLt h) hne).trans h
theorem ownN {w : World} {B n : Nat} {v : Value} {xs ys : List Value} (h : w.ownsRow B 3 1 v n xs) (e : xs = ys) : w.ownsRow B 3 1 v n ys := e ▸ h
theorem ownBelow {w w1 : World} {B g n c : Nat} {xs : List Value} (h : w.ownsRow B 3 1 (.slice (some ⟨g, 0, none⟩) n c) n xs) (hb : Below w.heap.size w w1) : w1.ownsRow B 3 1 (.slice (some ⟨g, 0, none⟩) n c) n xs := by
  refine ⟨h.1, ?_⟩
  rcases h.2 with ⟨h', _⟩ | ⟨g', cap', cur, h', h1, hg, h2⟩
  · simp at h'
  · exact .inr ⟨g', cap', cur, h', h1, bkBelow hg hb, h2⟩
theorem ownFar {w : World} {B g n c : Nat} {xs : List Value} (h : w.ownsRow B 3 1 (.slice (some ⟨g, 0, none⟩) n c) n xs) (k : Nat) (hk : k ≠ g) (cs : Array Value) : (w.setRow k cs).ownsRow B 3 1 (.slice (some ⟨g, 0, none⟩) n c) n xs := by
  refine ⟨h.1, ?_⟩
  rcases h.2 with ⟨h', _⟩ | ⟨g', cap', cur, h', h1, hg, h2⟩
  · simp at h'
  · simp only [Value.slice.injEq, Option.some.injEq, Addr.mk.injEq, and_true, true_and] at h'
    obtain ⟨rfl, rfl⟩ := h'
    exact .inr ⟨g, c, cur, rfl, h1, (setRow_other w k g cs (Ne.symm hk)).trans hg, h2⟩
theorem ownFarA {w : World} {B g n c : Nat} {xs : List Value} (h : w.ownsRow B 3 1 (.slice (some ⟨g, 0, none⟩) n c) n xs) : g < w.heap.size := by
  rcases h.2 with ⟨h', _⟩ | ⟨g', cap', cur, h', h1, hg, h2⟩
  · simp at h'
  · simp only [Value.slice.injEq, Option.some.injEq, Addr.mk.injEq, and_true, true_and] at h'
    obtain ⟨rfl, rfl⟩ := h'
    exact bkLt hg
theorem ownB {w w1 : World} {B g n c m : Nat} {xs : List Value} (h : w.ownsRow B 3 1 (.slice (some ⟨g, 0, none⟩) n c) m xs) (hb : Below w.heap.size w w1) : w1.ownsRow B 3 1 (.slice (some ⟨g, 0, none⟩) n c) m xs := by
  refine ⟨h.1, ?_⟩
  rcases h.2 with ⟨h', _⟩ | ⟨g', cap', cur, h', h1, hg, h2⟩
  · simp at h'
  · exact .inr ⟨g', cap', cur, h', h1, bkBelow hg hb, h2⟩
theorem ownFarN {w : World} {B g n c m : Nat} {xs : List Value} (h : w.ownsRow B 3 1 (.slice (some ⟨g, 0, none⟩) n c) m xs) (k : Nat) (hk : k ≠ g) (cs : Array Value) : (w.setRow k cs).ownsRow B 3 1 (.slice (some ⟨g, 0, none⟩) n c) m xs := by
  refine ⟨h.1, ?_⟩
  rcases h.2 with ⟨h', _⟩ | ⟨g', cap', cur, h', h1, hg, h2⟩
  · simp at h'
  · simp only [Value.slice.injEq, Option.some.injEq, Addr.mk.injEq, and_true, true_and] at h'
    obtain ⟨rfl, rfl, rfl⟩ := h'
    exact .inr ⟨g, c, cur, rfl, h1, (setRow_other w k g cs (Ne.symm hk)).trans hg, h2⟩
theorem ownBase {w : World} {B g n c m : Nat} {xs : List Value} (h : w.ownsRow B 3 1 (.slice (some ⟨g, 0, none⟩) n c) m xs) : B ≤ g := by
  rcases h.2 with ⟨h', _⟩ | ⟨g', cap', cur, h', h1, hg, h2⟩
  · simp at h'
  · simp only [Value.slice.injEq, Option.some.injEq, Addr.mk.injEq, and_true, true_and] at h'
    obtain ⟨rfl, rfl, rfl⟩ := h'
    exact h1
theorem ownLow {w : World} {B B' n : Nat} {v : Value} {xs : List Value} (h : w.ownsRow B 3 1 v n xs) (hB : B' ≤ B) : w.ownsRow B' 3 1 v n xs := by
  refine ⟨h.1, ?_⟩
  rcases h.2 with h' | ⟨g', cap', cur, h', h1, h2⟩
  · exact .inl h'
  · exact .inr ⟨g', cap', cur, h', Nat.le_trans hB h1, h2⟩
section
variable {P : Program}
theorem wpBuild1 {ops : Array Oper} {rest : List Oper} {o : Oper} {a : Act} {w : World} {Q : Exit → Act → World → Prop} (hg : o.guard = none) (t : TypeId) (x : Operand) (ho : o.op = .build t #[(0, x)]) (v : Value) (hx : a.eval x = v) (cs : Array Value) (hb : P.built t [(0, v)] = some cs)
    (h : wpList P ops Q rest (a.put o.dst (.agg cs)) w) : wpList P ops Q (o :: rest) a w := by
  refine wpList_build hg t #[(0, x)] ho ?_ ?_
  · simp [hx, hb]
  · simpa [hx, hb] using h
theorem wpBuild0 {ops : Array Oper} {rest : List Oper} {o : Oper} {a : Act} {w : World} {Q : Exit → Act → World → Prop} (hg : o.guard = none) (t : TypeId) (ho : o.op = .build t #[]) (cs : Array Value) (hb : P.built t [] = some cs)
    (h : wpList P ops Q rest (a.put o.dst (.agg cs)) w) : wpList P ops Q (o :: rest) a w := by
  refine wpList_build hg t #[] ho ?_ ?_
  · simp [hb]
  · simpa [hb] using h
end
section
variable {P : Program} {ops : Array Oper} {rest : List Oper} {o : Oper} {a : Act} {Q : Exit → Act → World → Prop} {W : World}
theorem gdOn (hw : Region.wanted o (yielded ops a.tmps) = true) (h : wpList P ops Q ({ o with guard := none } :: rest) a W) : wpList P ops Q (o :: rest) a W := by
  have h1 : Region.wanted { o with guard := none } (yielded ops a.tmps) = true := rfl
  unfold wpList at h ⊢
  rw [if_pos h1] at h
  rw [if_pos hw]
  exact h
end
theorem cellsGet {w : World} {B g n c : Nat} {xs : List Int} (h : w.ownsRow B 3 1 (.slice (some ⟨g, 0, none⟩) n c) n (xs.map iv)) : ∀ i, i < n → w.cell? ⟨g, i, none⟩ = some (iv (xs.getD i 0)) := by
  intro i hi
  have hl := h.1
  rw [h.cellAt i (by omega)]
  simp only [List.length_map] at hl
  simp [show i < xs.length by omega]
theorem newsOf {w wr : World} {g n : Nat} {xs : List Int} (hb : Below w.heap.size w wr) (hg : g < w.heap.size) (hl : xs.length = n) (h : ∀ i, i < n → w.cell? ⟨g, i, none⟩ = some (iv (xs.getD i 0))) :
    ∀ j u, (xs.map iv)[j]? = some u → wr.cell? ((⟨g, 0, none⟩ : Addr).add j) = some u := by
  intro j u hu
  have hj : j < n := by
    have := (List.getElem?_eq_some_iff.1 hu).1
    simpa [hl] using this
  have hadd : (⟨g, 0, none⟩ : Addr).add j = ⟨g, j, none⟩ := by unfold Addr.add; split <;> simp_all
  rw [hadd, hb.cell (p := ⟨g, j, none⟩) hg, h j hj]
  simp only [List.getElem?_map] at hu
  rw [← hu]
  simp [show j < xs.length by omega]
theorem ownEq {w : World} {B n m : Nat} {v : Value} {xs ys : List Value} (h : w.ownsRow B 3 1 v n xs) (e : n = m) (e2 : xs = ys) : w.ownsRow B 3 1 v m ys := e ▸ e2 ▸ h
theorem ownRowB {w : World} {B n : Nat} {v : Value} {xs : List Value} (h : w.ownsRow B 3 1 v n xs) : ∀ k, v.ownBlock = some k → B ≤ k := by
  intro k hk
  rcases h.2 with ⟨rfl, _⟩ | ⟨g', cap', cur, rfl, h1, _⟩
  · simp [Value.ownBlock] at hk
  · simp [Value.ownBlock] at hk
    omega
theorem ownBase2 {w : World} {B B' n : Nat} {v : Value} {xs : List Value} (h : w.ownsRow B 3 1 v n xs) (hB : B' ≤ B) : w.ownsRow B' 3 1 v n xs := by
  refine ⟨h.1, ?_⟩
  rcases h.2 with h' | ⟨g, cap, cur, h', h1, hg, h2⟩
  · exact .inl h'
  · exact .inr ⟨g, cap, cur, h', Nat.le_trans hB h1, hg, h2⟩
theorem ownLater {w w1 : World} {B n : Nat} {v : Value} {xs : List Value} (h : w.ownsRow B 3 1 v n xs) (hb : Below w.heap.size w w1) : w1.ownsRow B 3 1 v n xs := by
  refine ⟨h.1, ?_⟩
  rcases h.2 with h' | ⟨g, cap, cur, h', h1, hg, h2⟩
  · exact .inl h'
  · exact .inr ⟨g, cap, cur, h', h1, bkBelow hg hb, h2⟩
theorem ownFarG {w : World} {B n : Nat} {v : Value} {xs : List Value} (h : w.ownsRow B 3 1 v n xs) (k : Nat) (hk : k < B) (cs : Array Value) : (w.setRow k cs).ownsRow B 3 1 v n xs := by
  refine ⟨h.1, ?_⟩
  rcases h.2 with h' | ⟨g, cap, cur, h', h1, hg, h2⟩
  · exact .inl h'
  · exact .inr ⟨g, cap, cur, h', h1, (setRow_other w k g cs (by omega)).trans hg, h2⟩
section
variable {P : Program} {ops : Array Oper} {o : Oper} {a : Act} {Q : Exit → Act → World → Prop} {K : Act → World → Prop} {w : World}
/-- append of a whole slice to a row of one's own, as one step of a region that draws its order -/
theorem step_append_own (hw : Region.wanted o (yielded ops a.tmps) = true) (s x : Operand) (t : TypeId)
    (ho : o.op = .call { callee := .builtin .append, args := #[s, x], argTypes := #[t, t] })
    (base : Nat) (e : TypeId) (i : TypeInfo) (z : Value) (size bytes : Nat) (ht : P.underlying t = some (.slice e)) (hi : P.info? e = some i) (hz : i.zero = some z)
    (hsize : i.size = size) (hby : i.bytes = bytes) (hzs : z.cells.size = size) (hsz : 0 < size)
    (v : Value) (n : Nat) (xs : List Value) (hs : a.eval s = v) (hown : w.ownsRow base e size v n xs)
    (ad : Addr) (m c : Nat) (news : List Value) (hx : a.eval x = .slice (some ad) m c) (hl : news.length = m * size) (hnews : ∀ j u, news[j]? = some u → w.cell? (ad.add j) = some u) (h1 : ∀ u ∈ news, u.oneCell' = true)
    (h63 : n + m ≤ maxLen) (hbytes : (n + m) * bytes ≤ 140737488355328) (hbase : base ≤ w.heap.size)
    (h : ∀ v' w', w'.ownsRow base e size v' (n + m) (xs ++ news) → w.grownBy w' v.ownBlock → K (a.put o.dst v') w') :
    if Region.wanted o (yielded ops a.tmps) = true then Oper.wp P o a w K Q else K (a.put o.dst undef) w := by
  rw [if_pos hw]
  obtain ⟨v', w', hr, h2, h3, h4, h5⟩ := run_append_own_at (P := P) w base t o.type e i z size bytes ht hi hz hsize hby hzs hsz v n xs hown ad m c news hl hnews h1 h63 hbytes hbase
  unfold Oper.wp execOp
  simp only [ho, resolve, invoke, builtin, Sem.run_bind, Sem.run_pure, Result.andThen_ok, List.map_toArray, List.map_cons, List.map_nil, hs, hx, hr]
  exact h v' w' h2 h3
end
theorem ownLt {w : World} {B n : Nat} {v : Value} {xs : List Value} (h : w.ownsRow B 3 1 v n xs) : ∀ k, v.ownBlock = some k → k < w.heap.size := by
  intro k hk
  rcases h.2 with ⟨rfl, _⟩ | ⟨g, cap, cur, rfl, h1, hg, h2⟩
  · simp [Value.ownBlock] at hk
  · simp [Value.ownBlock] at hk
    subst hk
    exact bkLt hg
theorem ownForm {w : World} {B n : Nat} {v : Value} {xs : List Int} (h : w.ownsRow B 3 1 v n (xs.map iv)) : ∃ A c, v = .slice A n c ∧ (n = 0 ∨ ∃ k, A = some ⟨k, 0, none⟩ ∧ ∀ i, i < n → w.cell? ⟨k, i, none⟩ = some (iv (xs.getD i 0))) := by
  rcases h.2 with ⟨rfl, rfl⟩ | ⟨g, cap, cur, rfl, h1⟩
  · exact ⟨none, 0, rfl, .inl rfl⟩
  · exact ⟨_, cap, rfl, .inr ⟨g, rfl, cellsGet h⟩⟩
theorem formsBoth {w : World} {B B' n : Nat} {v u : Value} {xs : List Int} (h : w.ownsRow B 3 1 v n (xs.map iv)) (h2 : w.ownsRow B' 3 1 u n (xs.map iv)) : ∃ A c D d, v = .slice A n c ∧ u = .slice D n d ∧
    (n = 0 ∨ ∃ g k, A = some ⟨g, 0, none⟩ ∧ D = some ⟨k, 0, none⟩ ∧ (∀ i, i < n → w.cell? ⟨g, i, none⟩ = some (iv (xs.getD i 0))) ∧ (∀ i, i < n → w.cell? ⟨k, i, none⟩ = some (iv (xs.getD i 0)))) := by
  obtain ⟨A, c, rfl, h3⟩ := ownForm h
  obtain ⟨D, d, rfl, h4⟩ := ownForm h2
  refine ⟨A, c, D, d, rfl, rfl, ?_⟩
  rcases h3 with h3 | ⟨g, h3, h5⟩
  · exact .inl h3
  · rcases h4 with h4 | ⟨k, h4, h6⟩
    · exact .inl h4
    · exact .inr ⟨g, k, h3, h4, h5, h6⟩
/-- a sample: its name, where its frames lie, its numbers -/
structure S where
  nm : ByteArray
  a2 : Int
  a3 : Int
  a4 : Int
  a5 : Int
  a6 : Int
  a7 : Int
  a8 : Int
  a9 : Int
  a10 : Int
  a11 : Int
  a12 : Int
def S.cs (s : S) (A : Option Addr) (n c : Nat) : Array Value := #[.string s.nm, .slice A n c, iv s.a2, iv s.a3, iv s.a4, iv s.a5, iv s.a6, iv s.a7, iv s.a8, iv s.a9, iv s.a10, iv s.a11, iv s.a12]
def S.zero : S := ⟨ByteArray.empty, 0, 0, 0, 0, 0, 0, 0, 0, 0, 0, 0⟩
theorem S.i24 (s : S) (A : Option Addr) (n c : Nat) : (Try.prog.info? 31).map (·.size) = some (s.cs A n c).size := by kernel_rfl
theorem S.sz (s t : S) (A B : Option Addr) (n c m d : Nat) : (s.cs A n c).size = (t.cs B m d).size := rfl
theorem S.one (s : S) (A : Option Addr) (n c : Nat) : (s.cs A n c).all (·.oneCell') = true := by simp [S.cs, Value.oneCell']
theorem built24 : Try.prog.built 31 [] = some (S.zero.cs none 0 0) := by kernel_rfl
/-- frames that lie in memory -/
structure DataAt (w : World) (A : Option Addr) (n b o : Nat) (xs : Nat → Int) : Prop where
  top : 0 < n → A = some ⟨b, o, none⟩
  low : 0 < n → b < w.heap.size
  cell : ∀ i, i < n → w.cell? ⟨b, o + i, none⟩ = some (iv (xs i))
theorem DataAt.later {w w1 : World} {A : Option Addr} {n b o : Nat} {xs : Nat → Int} (h : DataAt w A n b o xs) (hb : Below w.heap.size w w1) : DataAt w1 A n b o xs where
  top := h.top
  low hp := Nat.lt_of_lt_of_le (h.low hp) hb.size
  cell i hi := (hb.cell (p := ⟨b, o + i, none⟩) (h.low (by omega))).trans (h.cell i hi)
theorem DataAt.kept {w w1 : World} {A : Option Addr} {n b o B : Nat} {xs : Nat → Int} (h : DataAt w A n b o xs) (hb : Below B w w1) (hB : b < B) : DataAt w1 A n b o xs where
  top := h.top
  low hp := Nat.lt_of_lt_of_le (h.low hp) hb.size
  cell i hi := (hb.cell (p := ⟨b, o + i, none⟩) hB).trans (h.cell i hi)
theorem DataAt.congr {w : World} {A : Option Addr} {n b o : Nat} {xs ys : Nat → Int} (h : DataAt w A n b o xs) (e : ∀ i, i < n → xs i = ys i) : DataAt w A n b o ys where
  top := h.top
  low := h.low
  cell i hi := by rw [h.cell i hi, e i hi]
/-- a row told by a function -/
def rw_ (F : Nat → Int) (n : Nat) : List Value := (List.range n).map fun i => iv (F i)
theorem rw_len (F : Nat → Int) (n : Nat) : (rw_ F n).length = n := by simp [rw_]
theorem rw_at (F : Nat → Int) (n i : Nat) (h : i < n) : (rw_ F n)[i]? = some (iv (F i)) := by simp [rw_, h]
theorem rw_set (F : Nat → Int) (n k : Nat) (x : Int) : (rw_ F n).set k (iv x) = rw_ (fun i => if i = k then x else F i) n := by
  apply List.ext_getElem?
  intro i
  rw [List.getElem?_set]
  by_cases hi : i < n
  · by_cases e : k = i
    · subst e
      rw [if_pos rfl, if_pos (by rw [rw_len]; exact hi), rw_at _ _ _ hi, if_pos rfl]
    · rw [if_neg e, rw_at _ _ _ hi, rw_at _ _ _ hi, if_neg (Ne.symm e)]
  · have h1 : ∀ F, (rw_ F n)[i]? = none := fun F => List.getElem?_eq_none (by rw [rw_len]; omega)
    by_cases e : k = i
    · subst e
      rw [if_pos rfl, if_neg (by rw [rw_len]; exact hi), h1]
    · rw [if_neg e, h1, h1]
theorem rw_congr {F G : Nat → Int} {n : Nat} (h : ∀ i, i < n → F i = G i) : rw_ F n = rw_ G n := List.map_congr_left fun i hi => by rw [h i (List.mem_range.1 hi)]
theorem rw_zero (n : Nat) : rw_ (fun _ => 0) n = List.replicate n (iv 0) := by
  apply List.ext_getElem?
  intro i
  by_cases hi : i < n
  · rw [rw_at _ _ _ hi, List.getElem?_replicate, if_pos hi]
  · rw [List.getElem?_eq_none (by rw [rw_len]; omega), List.getElem?_eq_none (by simp; omega)]
theorem ownData {w : World} {B g n c : Nat} {F : Nat → Int} (h : w.ownsRow B 3 1 (.slice (some ⟨g, 0, none⟩) n c) n (rw_ F n)) : DataAt w (some ⟨g, 0, none⟩) n g 0 F where
  top _ := rfl
  low _ := ownFarA h
  cell i hi := by
    rw [Nat.zero_add, h.cellAt i (by omega)]
    exact rw_at F n i hi
/-- a row of one's own as data -/
theorem ownDataV {w : World} {B n : Nat} {v : Value} {F : Nat → Int} (h : w.ownsRow B 3 1 v n (rw_ F n)) : ∃ A c g, v = .slice A n c ∧ DataAt w A n g 0 F ∧ (A = none ∧ n = 0 ∧ c = 0 ∨ A = some ⟨g, 0, none⟩ ∧ B ≤ g) := by
  rcases h.2 with ⟨rfl, h1⟩ | ⟨g, cap, cur, rfl, h1, h2⟩
  · have hn : n = 0 := by first | exact h1 | (have := congrArg List.length h1; rw [rw_len] at this; simpa using this)
    subst hn
    exact ⟨none, 0, 0, rfl, ⟨fun h => by omega, fun h => by omega, fun i h => by omega⟩, .inl ⟨rfl, rfl, rfl⟩⟩
  · exact ⟨_, cap, g, rfl, ownData h, .inr ⟨rfl, h1⟩⟩
/-- rounded down -/
theorem fdiv_neg {a b : Int} (hb : 0 < b) (ha : a < 0) : -((-a + b - 1) / b) = a / b := by
  have h1 := Int.ediv_mul_le (-a + b - 1) (show b ≠ 0 by omega)
  have h2 := Int.lt_ediv_add_one_mul_self (-a + b - 1) hb
  have h3 := Int.ediv_mul_le a (show b ≠ 0 by omega)
  have h4 := Int.lt_ediv_add_one_mul_self a hb
  generalize (-a + b - 1) / b = q at *
  generalize a / b = p at *
  rw [Int.add_mul, Int.one_mul] at h2 h4
  have e : (q + p) * b = q * b + p * b := Int.add_mul q p b
  have l1 : (q + p) * b < 1 * b := by omega
  have l2 : (-1) * b < (q + p) * b := by omega
  have := Int.lt_of_mul_lt_mul_right l1 (by omega)
  have := Int.lt_of_mul_lt_mul_right l2 (by omega)
  omega
theorem tdiv_rem {a b : Int} (hb : 0 < b) : (if a.tmod b < 0 then a.tdiv b - 1 else a.tdiv b) = a / b := by
  rcases Int.lt_or_le a 0 with ha | ha
  · obtain ⟨m, rfl⟩ : ∃ m, a = -m := ⟨-a, by omega⟩
    rw [Int.neg_tmod, Int.neg_tdiv, Int.tmod_eq_emod_of_nonneg (by omega), Int.tdiv_eq_ediv_of_nonneg (by omega)]
    have h1 := Int.mul_ediv_add_emod m b
    have h2 := Int.mul_ediv_add_emod (-m) b
    have h3 := Int.emod_nonneg m (show b ≠ 0 by omega)
    have h4 := Int.emod_lt_of_pos m hb
    have h5 := Int.emod_nonneg (-m) (show b ≠ 0 by omega)
    have h6 := Int.emod_lt_of_pos (-m) hb
    generalize m % b = r at *
    generalize m / b = q at *
    generalize -m % b = r' at *
    generalize -m / b = p at *
    have e : b * (q + p) = b * q + b * p := Int.mul_add b q p
    have l1 : b * (q + p) ≤ 0 := by omega
    have l2 : b * (-2) < b * (q + p) := by omega
    have := Int.lt_of_mul_lt_mul_left l2 (by omega)
    have k1 : q + p ≤ 0 := Int.le_of_mul_le_mul_left (show b * (q + p) ≤ b * 0 by omega) hb
    rcases (by omega : q + p = 0 ∨ q + p = -1) with h | h
    · rw [h] at e
      rw [if_neg (by omega)]
      omega
    · rw [h] at e
      rw [if_pos (by omega)]
      omega
  · rw [Int.tmod_eq_emod_of_nonneg ha, Int.tdiv_eq_ediv_of_nonneg ha, if_neg (by have := Int.emod_nonneg a (show b ≠ 0 by omega); omega)]
end Go.Proofs.Ytfodpoccjdaaaaa.TX
