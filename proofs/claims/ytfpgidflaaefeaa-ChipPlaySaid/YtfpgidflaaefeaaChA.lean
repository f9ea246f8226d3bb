/- The tone chip's state, its counters and its step, as the program and the reference walk them; no condition but the state's ranges. -/
import Derived.Test.YtfpgidflaaefeaaProg
import Derived.Below
import Derived.Tactics
import Derived.WalkKit
import Derived.KernelRfl
import Derived.RowKit3
import Derived.Deep.LoopGhost
import Derived.Deep.QuietTactic
import Derived.BigQuiet
import Derived.WideLaws
import Derived.Deep.DeepCutAuto
import Derived.Deep.CutBlock
import Derived.Laws.Rows
import Derived.Laws.BitsLemmas
import Derived.RowKit
import Derived.WalkLawsBesides
import Derived.WalkSpells
import Derived.Outline
import Derived.Laws.EntriesVeiled
import Derived.Lib.Hide
import Derived.Laws.Tables
import Derived.Laws.CopyOwn
import Derived.OwnWalk
import Derived.Laws.MakeOwn
import Derived.Laws.OwnMore
import Derived.Deep.OwnRows
import Derived.Laws.Cover3
import Derived.Test.YtfpgidflaaefeaaWLast
import Derived.Deep.RegionWith
import Derived.Deep.RegionHeld3
namespace Go.Proofs.Ytfpgidflaaefeaa.CH
open Go.RowKit Go.Proofs.YtfpgidflaaefeaaW.PrintLast
set_option linter.unusedVariables false
set_option linter.unusedSimpArgs false
abbrev iv (x : Int) : Value := .int .i64 x
theorem bdN {B : Nat} {w W : World} (h : Below B w W) (n : Nat) : Below B w (W.drewN n) := ⟨h.os, h.tape, h.output, h.size, h.block⟩
theorem bdT {B : Nat} {w a b : World} (h : Below B w a) (hB : B ≤ a.heap.size) (k : Below a.heap.size a b) : Below B w b := h.trans (k.mono hB)
theorem bkLt {w : World} {g : Nat} {o : Obj} (h : w.heap[g]? = some o) : g < w.heap.size := (Array.getElem?_eq_some_iff.1 h).1
theorem bkBelow {w w1 : World} {g : Nat} {o : Obj} (h : w.heap[g]? = some o) (hb : Below w.heap.size w w1) : w1.heap[g]? = some o := (hb.block g (bkLt h)).trans h
theorem bkAlloc {w : World} {g : Nat} {o : Obj} (h : w.heap[g]? = some o) (o' : Obj) : (w.alloc o').heap[g]? = some o := (Below.heap_alloc w o' g (bkLt h)).trans h
theorem bkCell {w : World} {g : Nat} {t : TypeId} {cs : Array Value} (h : w.heap[g]? = some (.cells cs t (0, 0))) (i : Nat) : w.cell? ⟨g, i, none⟩ = cs[i]? := cell_of_row w g i cs t (0, 0) h
theorem bkFrozen {w : World} {g : Nat} {t : TypeId} {cs : Array Value} (h : w.heap[g]? = some (.cells cs t (0, 0))) (i : Nat) : w.frozen? ⟨g, i, none⟩ = false := by simp [World.frozen?, h]
theorem bkFar {w : World} {g : Nat} {o : Obj} (h : w.heap[g]? = some o) {p : Addr} (hp : g ≠ p.block) (u : Value) : (w.setCell p u).heap[g]? = some o := (Below.heap_setCell w p u g hp).trans h
theorem bkSet {w : World} {g : Nat} {t : TypeId} {cs : Array Value} (h : w.heap[g]? = some (.cells cs t (0, 0))) (i : Nat) (u : Value) : (w.setCell ⟨g, i, none⟩ u).heap[g]? = some (.cells (cs.setIfInBounds i u) t (0, 0)) := by
  simp [World.setCell, Array.getElem?_modify, h]
theorem bkPut {w : World} {g : Nat} {t : TypeId} {cs cs' : Array Value} (h : w.heap[g]? = some (.cells cs t (0, 0))) (i : Nat) (u : Value) (e : cs.setIfInBounds i u = cs') : (w.setCell ⟨g, i, none⟩ u).heap[g]? = some (.cells cs' t (0, 0)) := e ▸ bkSet h i u
theorem exec_load_row {P : Program} {oi : Oper} {a : Act} {w : World} (ty : TypeId) (x : Operand) (ho : oi.op = .load ty x) (g : Nat) (hx : a.eval x = .pointer (some ⟨g, 0, none⟩)) (t : TypeId) (cs : Array Value) (fr : Nat × Nat) (d : TypeDesc) (hg : w.heap[g]? = some (.cells cs t fr))
    (hu : P.underlying ty = some d) (hd : (match d with | .struct _ | .array _ _ => true | _ => false) = true) (hi : (P.info? ty).map (·.size) = some cs.size) : (execOp a.eval oi).run P w = .ok (.value (.agg cs)) w := by
  unfold execOp
  simp only [ho, hx, Instr.loadAt, Instr.sureAddr, Sem.run_bind, Sem.run_pure, Result.andThen_ok, run_loadVar_row w g t ty cs fr d hg hu hd hi]

/-- a counter's next number -/
def nx (c p : Int) : Int := if p ≤ c + 1 then 0 else c + 1
/-- whether a counter comes to its period -/
def du (c p : Int) : Bool := decide (p ≤ c + 1)
set_option maxHeartbeats 1000000 in
theorem counted_any (c p : Int) (w : World) (h0 : 0 ≤ c) (h1 : c ≤ 65535) (h2 : -1000000 ≤ p) (h3 : p ≤ 1000000) :
    Calls Try.prog 62 #[iv c, iv p] w fun e w' => e = .returned (.tuple #[iv (nx c p), .bool (du c p)]) ∧ w = w' := by
  by_cases h : p ≤ c + 1
  · have e1 : nx c p = 0 := if_pos h
    have e2 : du c p = true := decide_eq_true h
    rw [e1, e2]; clear e1 e2
    go_enter Try.func62, Try.ntmps62
    go_wp2
    go_ret2
    exact ⟨rfl, rfl⟩
  · have e1 : nx c p = c + 1 := if_neg h
    have e2 : du c p = false := decide_eq_false h
    rw [e1, e2]; clear e1 e2
    go_enter Try.func62, Try.ntmps62
    go_wp2
    go_ret2
    exact ⟨rfl, rfl⟩
/-- a tone chip: its registers, counters, bits, the noise's counter and bits, the envelope's counter and step -/
structure T where
  r0 : Int
  r1 : Int
  r2 : Int
  r3 : Int
  r4 : Int
  r5 : Int
  r6 : Int
  r7 : Int
  r8 : Int
  r9 : Int
  r10 : Int
  r11 : Int
  r12 : Int
  r13 : Int
  c0 : Int
  c1 : Int
  c2 : Int
  b0 : Int
  b1 : Int
  b2 : Int
  nc : Int
  n : Int
  ec : Int
  es : Int
def T.cs (t : T) : Array Value := #[iv t.r0, iv t.r1, iv t.r2, iv t.r3, iv t.r4, iv t.r5, iv t.r6, iv t.r7, iv t.r8, iv t.r9, iv t.r10, iv t.r11, iv t.r12, iv t.r13, iv t.c0, iv t.c1, iv t.c2, iv t.b0, iv t.b1, iv t.b2, iv t.nc, iv t.n, iv t.ec, iv t.es]
structure T.Ok (t : T) : Prop where
  or0 : 0 ≤ t.r0 ∧ t.r0 ≤ 255
  or1 : 0 ≤ t.r1 ∧ t.r1 ≤ 255
  or2 : 0 ≤ t.r2 ∧ t.r2 ≤ 255
  or3 : 0 ≤ t.r3 ∧ t.r3 ≤ 255
  or4 : 0 ≤ t.r4 ∧ t.r4 ≤ 255
  or5 : 0 ≤ t.r5 ∧ t.r5 ≤ 255
  or6 : 0 ≤ t.r6 ∧ t.r6 ≤ 255
  or7 : 0 ≤ t.r7 ∧ t.r7 ≤ 255
  or8 : 0 ≤ t.r8 ∧ t.r8 ≤ 255
  or9 : 0 ≤ t.r9 ∧ t.r9 ≤ 255
  or10 : 0 ≤ t.r10 ∧ t.r10 ≤ 255
  or11 : 0 ≤ t.r11 ∧ t.r11 ≤ 255
  or12 : 0 ≤ t.r12 ∧ t.r12 ≤ 255
  or13 : 0 ≤ t.r13 ∧ t.r13 ≤ 255
  oc0 : 0 ≤ t.c0 ∧ t.c0 ≤ 65535
  oc1 : 0 ≤ t.c1 ∧ t.c1 ≤ 65535
  oc2 : 0 ≤ t.c2 ∧ t.c2 ≤ 65535
  ob0 : 0 ≤ t.b0 ∧ t.b0 ≤ 1
  ob1 : 0 ≤ t.b1 ∧ t.b1 ≤ 1
  ob2 : 0 ≤ t.b2 ∧ t.b2 ≤ 1
  onc : 0 ≤ t.nc ∧ t.nc ≤ 65535
  on : 1 ≤ t.n ∧ t.n ≤ 131071
  oec : 0 ≤ t.ec ∧ t.ec ≤ 65535
  oes : 0 ≤ t.es ∧ t.es ≤ 63
/-- a tone's period -/
def per (lo hi : Int) : Int := if 1 < lo + hi % 16 * 256 then lo + hi % 16 * 256 else 1
theorem per_bd {lo hi : Int} (h0 : 0 ≤ lo) (h1 : lo ≤ 255) (h2 : 0 ≤ hi) (h3 : hi ≤ 255) : 1 ≤ per lo hi ∧ per lo hi ≤ 4095 := by unfold per; split <;> omega
set_option maxHeartbeats 1000000 in
theorem period_any (r0 r1 r2 r3 r4 r5 r6 r7 r8 r9 r10 r11 r12 r13 c0 c1 c2 b0 b1 b2 nc n ec es : Int) (w : World) (c : Int) (lo hi : Int) (h0 : 0 ≤ lo) (h1 : lo ≤ 255) (h2 : 0 ≤ hi) (h3 : hi ≤ 255) (hc : c = 0 ∧ lo = r0 ∧ hi = r1 ∨ c = 1 ∧ lo = r2 ∧ hi = r3 ∨ c = 2 ∧ lo = r4 ∧ hi = r5) :
    Calls Try.prog 63 #[.agg #[iv r0, iv r1, iv r2, iv r3, iv r4, iv r5, iv r6, iv r7, iv r8, iv r9, iv r10, iv r11, iv r12, iv r13, iv c0, iv c1, iv c2, iv b0, iv b1, iv b2, iv nc, iv n, iv ec, iv es], iv c] w fun e w' => e = .returned (iv (per lo hi)) ∧ Below w.heap.size w w' := by
  rcases hc with ⟨rfl, rfl, rfl⟩ | ⟨rfl, rfl, rfl⟩ | ⟨rfl, rfl, rfl⟩ <;> (
    go_enter Try.func63, Try.ntmps63
    go_wp2
    go_quiet (fail)
    go_wp2
    · go_ret
      exact ⟨by rw [per, if_pos (by assumption)]; rfl, bdN ((Below.refl _ _).alloc (Nat.le_refl _) _) _⟩
    · go_ret
      exact ⟨by rw [per, if_neg (by omega)]; rfl, bdN ((Below.refl _ _).alloc (Nat.le_refl _) _) _⟩)
/-- a bit that turns over or not -/
def fl (b : Int) (d : Bool) : Int := if d then 1 - b else b
/-- the chip after its first tones' counters -/
def T.tk (t : T) : Nat → T
  | 0 => t
  | 1 => { t with c0 := nx t.c0 (per t.r0 t.r1), b0 := fl t.b0 (du t.c0 (per t.r0 t.r1)) }
  | 2 => { t with c0 := nx t.c0 (per t.r0 t.r1), b0 := fl t.b0 (du t.c0 (per t.r0 t.r1)), c1 := nx t.c1 (per t.r2 t.r3), b1 := fl t.b1 (du t.c1 (per t.r2 t.r3)) }
  | _ => { t with c0 := nx t.c0 (per t.r0 t.r1), b0 := fl t.b0 (du t.c0 (per t.r0 t.r1)), c1 := nx t.c1 (per t.r2 t.r3), b1 := fl t.b1 (du t.c1 (per t.r2 t.r3)), c2 := nx t.c2 (per t.r4 t.r5), b2 := fl t.b2 (du t.c2 (per t.r4 t.r5)) }
theorem fl_xor {b : Int} (h0 : 0 ≤ b) (h1 : b ≤ 1) : bits .xor .i64 b 1 = 1 - b := by
  rcases (by omega : b = 0 ∨ b = 1) with rfl | rfl <;> decide
theorem i64_xor (a b : Int) (h0 : 0 ≤ a) (h1 : a < 131072) (h2 : 0 ≤ b) (h3 : b < 131072) : bits .xor .i64 a b = ((a.toNat ^^^ b.toNat : Nat) : Int) := by
  obtain ⟨m, rfl⟩ := Int.eq_ofNat_of_zero_le h0
  obtain ⟨n, rfl⟩ := Int.eq_ofNat_of_zero_le h2
  have ha' : m % 2 ^ IntKind.i64.bits = m := Nat.mod_eq_of_lt (by show m < 2 ^ 64; omega)
  have hb' : n % 2 ^ IntKind.i64.bits = n := Nat.mod_eq_of_lt (by show n < 2 ^ 64; omega)
  have hx := Nat.xor_lt_two_pow (x := m) (y := n) (n := 17) (by omega) (by omega)
  simp only [bits, BitVec.ofInt_natCast, BitVec.toNat_xor, BitVec.toNat_ofNat, ha', hb', Int.toNat_natCast]
  rw [IntKind.wrap_i64]
  omega
theorem i64_xor_bd (a b : Int) (h0 : 0 ≤ a) (h1 : a < 131072) (h2 : 0 ≤ b) (h3 : b < 131072) : 0 ≤ bits .xor .i64 a b ∧ bits .xor .i64 a b < 131072 := by
  rw [i64_xor a b h0 h1 h2 h3]
  have := Nat.xor_lt_two_pow (x := a.toNat) (y := b.toNat) (n := 17) (by omega) (by omega)
  omega
theorem i64_and1 (n : Int) : bits .and .i64 n 1 = n % 2 := by
  have h127 : (BitVec.ofInt 64 1).toNat = 2 ^ 1 - 1 := by decide
  have key : (BitVec.ofInt 64 n &&& BitVec.ofInt 64 1).toNat = (n % ((2 ^ 64 : Nat) : Int)).toNat % 2 ^ 1 := by
    rw [BitVec.toNat_and, BitVec.toNat_ofInt, h127, Nat.and_two_pow_sub_one_eq_mod]
  show IntKind.i64.wrap ((BitVec.ofInt 64 n &&& BitVec.ofInt 64 1).toNat : Nat) = n % 2
  rw [key, IntKind.wrap_i64]
  omega
section
variable {P : Program}
theorem exec_store_row {oi : Oper} {a : Act} {w : World} (ty : TypeId) (x y : Operand) (ho : oi.op = .store ty x y) (g : Nat) (cells : Array Value) (hx : a.eval x = .pointer (some ⟨g, 0, none⟩)) (hy : a.eval y = .agg cells)
    (t : TypeId) (old : Array Value) (hg : w.heap[g]? = some (.cells old t (0, 0))) (hi : (P.info? ty).map (·.size) = some cells.size)
    (hold : old.size = cells.size) (h1 : cells.all (·.oneCell') = true) : (execOp a.eval oi).run P w = .ok .skip (w.setRow g cells) := by
  unfold execOp
  simp only [ho, hx, hy, Instr.storeAt, Instr.sureAddr, Sem.run_bind, Sem.run_pure, Result.andThen_ok, run_storeVar_row w g t ty old cells hg hi hold h1]
theorem res_tc {fn : Func} {p q : Tmp} {ty : TypeId} (h : fn.results = #[.tmp p, .cell q ty]) (tmps : Array Value) (w : World) (g : Nat) (t : TypeId) (cs : Array Value) (fr : Nat × Nat) (d : TypeDesc)
    (hp : tmps.getD q undef = .pointer (some ⟨g, 0, none⟩)) (hg : w.heap[g]? = some (.cells cs t fr))
    (hu : P.underlying ty = some d) (hd : (match d with | .struct _ | .array _ _ => true | _ => false) = true) (hi : (P.info? ty).map (·.size) = some cs.size) :
    (results fn tmps).run P w = .ok (.tuple #[tmps.getD p undef, .agg cs]) w := by
  have hp' : tmps[q]?.getD undef = .pointer (some ⟨g, 0, none⟩) := by simpa using hp
  simp [results, h, hp', asAddr, run_loadVar_row w g t ty cs fr d hg hu hd hi]
theorem res_ct {fn : Func} {p q : Tmp} {ty : TypeId} (h : fn.results = #[.cell q ty, .tmp p]) (tmps : Array Value) (w : World) (g : Nat) (t : TypeId) (cs : Array Value) (fr : Nat × Nat) (d : TypeDesc)
    (hp : tmps.getD q undef = .pointer (some ⟨g, 0, none⟩)) (hg : w.heap[g]? = some (.cells cs t fr))
    (hu : P.underlying ty = some d) (hd : (match d with | .struct _ | .array _ _ => true | _ => false) = true) (hi : (P.info? ty).map (·.size) = some cs.size) :
    (results fn tmps).run P w = .ok (.tuple #[.agg cs, tmps.getD p undef]) w := by
  have hp' : tmps[q]?.getD undef = .pointer (some ⟨g, 0, none⟩) := by simpa using hp
  simp [results, h, hp', asAddr, run_loadVar_row w g t ty cs fr d hg hu hd hi]
theorem res_tct {fn : Func} {p q r : Tmp} {ty : TypeId} (h : fn.results = #[.tmp p, .cell q ty, .tmp r]) (tmps : Array Value) (w : World) (g : Nat) (t : TypeId) (cs : Array Value) (fr : Nat × Nat) (d : TypeDesc)
    (hp : tmps.getD q undef = .pointer (some ⟨g, 0, none⟩)) (hg : w.heap[g]? = some (.cells cs t fr))
    (hu : P.underlying ty = some d) (hd : (match d with | .struct _ | .array _ _ => true | _ => false) = true) (hi : (P.info? ty).map (·.size) = some cs.size) :
    (results fn tmps).run P w = .ok (.tuple #[tmps.getD p undef, .agg cs, tmps.getD r undef]) w := by
  have hp' : tmps[q]?.getD undef = .pointer (some ⟨g, 0, none⟩) := by simpa using hp
  simp [results, h, hp', asAddr, run_loadVar_row w g t ty cs fr d hg hu hd hi]
end
theorem info3 : (Try.prog.info? 3).map (fun i => (i.zero, i.size, i.bytes)) = some (some (.int .i64 0), 1, 8) := by kernel_rfl
end Go.Proofs.Ytfpgidflaaefeaa.CH
