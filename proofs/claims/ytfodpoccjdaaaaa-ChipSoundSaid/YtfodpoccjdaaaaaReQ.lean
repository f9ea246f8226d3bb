/- Four operators: the reference's Sound: its regions that draw. -/
import Derived.Test.YtfodpoccjdaaaaaReO
import Derived.Test.YtfodpoccjdaaaaaReL
import Derived.Deep.AppendLies
import Derived.Deep.MidRow
namespace Go.Proofs.Ytfodpoccjdaaaaa.CS
open Go.RowKit Go.Proofs.YtfodpoccjdaaaaaW.PrintLast Go.Proofs.Ytfodpoccjdaaaaa.TX Go.Proofs.Ytfodpoccjdaaaaa.PG
set_option linter.unusedVariables false
set_option linter.unusedSimpArgs false

def fI (F : Nat → Int) : Array Value := fb_ (fun j => iv (F j)) 4
def fB (F : Nat → Bool) : Array Value := fb_ (fun j => .bool (F j)) 4
def mixF {α : Type} (F G : Nat → α) (i : Nat) : Nat → α := fun j => if j < i then G j else F j
theorem fI_get (F : Nat → Int) {i : Nat} (h : i < 4) : (fI F)[i]? = some (iv (F i)) := fb_get h
theorem fB_get (F : Nat → Bool) {i : Nat} (h : i < 4) : (fB F)[i]? = some (.bool (F i)) := fb_get h
theorem mixF_at {α : Type} (F G : Nat → α) (i : Nat) : mixF F G i i = F i := if_neg (Nat.lt_irrefl i)
theorem mixF_lo {α : Type} (F G : Nat → α) {i j : Nat} (h : j < i) : mixF F G i j = G j := if_pos h
theorem mixF_zero {α : Type} (F G : Nat → α) : mixF F G 0 = F := by funext j; exact if_neg (Nat.not_lt_zero j)
theorem mixF_step {α : Type} (F G : Nat → α) (i : Nat) {x : α} (h : x = G i) : (fun j => if j = i then x else mixF F G i j) = mixF F G (i + 1) := by
  funext j
  unfold mixF
  by_cases e : j = i
  · subst e
    rw [if_pos rfl, if_pos (by omega), h]
  · rw [if_neg e]
    by_cases c : j < i
    · rw [if_pos c, if_pos (by omega)]
    · rw [if_neg c, if_neg (by omega)]
theorem fI_set (F G : Nat → Int) (i : Nat) {x : Int} (h : x = G i) : (fI (mixF F G i)).setIfInBounds i (iv x) = fI (mixF F G (i + 1)) := by
  unfold fI
  rw [fb_set, ← mixF_step F G i h]
  refine fb_congr fun j _ => ?_
  show (if j = i then iv x else iv (mixF F G i j)) = iv (if j = i then x else mixF F G i j)
  by_cases e : j = i
  · rw [if_pos e, if_pos e]
  · rw [if_neg e, if_neg e]
theorem fB_set (F G : Nat → Bool) (i : Nat) {x : Bool} (h : x = G i) : (fB (mixF F G i)).setIfInBounds i (.bool x) = fB (mixF F G (i + 1)) := by
  unfold fB
  rw [fb_set, ← mixF_step F G i h]
  refine fb_congr fun j _ => ?_
  show (if j = i then Value.bool x else .bool (mixF F G i j)) = .bool (if j = i then x else mixF F G i j)
  by_cases e : j = i
  · rw [if_pos e, if_pos e]
  · rw [if_neg e, if_neg e]
theorem fI_all (F G : Nat → Int) : fI (mixF F G 4) = fI G := fb_congr fun j h => congrArg iv (if_pos h)
theorem fB_all (F G : Nat → Bool) : fB (mixF F G 4) = fB G := fb_congr fun j h => congrArg Value.bool (if_pos h)
theorem vals_at (p : PT) (s : ST) {i j : Nat} (h : j < i) (hi : i ≤ 4) : vals p s i j = vals p s 4 j := by
  have := vals_old p s i (4 - i) j h
  rw [show i + (4 - i) = 4 by omega] at this
  exact this.symm
theorem vals_new (p : PT) (s : ST) {i : Nat} (hi : i < 4) : putV (p.o i) (s.ph i) (s.l i) (modI p s i (vals p s i)) = vals p s 4 i := by
  rw [← vals_at p s (show i < i + 1 by omega) (by omega)]
  show _ = if i = i then _ else _
  rw [if_pos rfl]
theorem al5 (w : World) (A B C D E : Obj) : (((((w.alloc A).alloc B).alloc C).alloc D).alloc E).heap[w.heap.size]? = some A ∧ (((((w.alloc A).alloc B).alloc C).alloc D).alloc E).heap[w.heap.size + 1]? = some B ∧ (((((w.alloc A).alloc B).alloc C).alloc D).alloc E).heap[w.heap.size + 1 + 1]? = some C ∧ (((((w.alloc A).alloc B).alloc C).alloc D).alloc E).heap[w.heap.size + 1 + 1 + 1]? = some D ∧ (((((w.alloc A).alloc B).alloc C).alloc D).alloc E).heap[w.heap.size + 1 + 1 + 1 + 1]? = some E := by
  have hA := bkAlloc (bkAlloc (bkAlloc (bkAlloc (heap_alloc_new w A) B) C) D) E
  have hB := bkAlloc (bkAlloc (bkAlloc (heap_alloc_new (w.alloc A) B) C) D) E
  have hC := bkAlloc (bkAlloc (heap_alloc_new ((w.alloc A).alloc B) C) D) E
  have hD := bkAlloc (heap_alloc_new (((w.alloc A).alloc B).alloc C) D) E
  have hE := heap_alloc_new ((((w.alloc A).alloc B).alloc C).alloc D) E
  simp only [World.size_alloc] at hA hB hC hD hE
  exact ⟨hA, hB, hC, hD, hE⟩
theorem fbq_bd {p : RP} (hp : p.Ok) {x : Int} (h0 : -510 ≤ x) (h1 : x ≤ 510) : -3570 ≤ x * p.fb ∧ x * p.fb ≤ 3570 := by
  have hf := hp.2.1
  constructor
  · have h := Int.mul_le_mul_of_nonneg_right h0 hf.1
    have h4 : (-510 : Int) * 7 ≤ -510 * p.fb := Int.mul_le_mul_of_nonpos_left (by decide) hf.2
    omega
  · have h := Int.mul_le_mul_of_nonneg_right h1 hf.1
    have h4 : (510 : Int) * p.fb ≤ 510 * 7 := Int.mul_le_mul_of_nonneg_left hf.2 (by decide)
    omega
theorem modIq_bd {p : RP} (hp : p.Ok) (hall : ∀ i, (p.pt.o i).Ok) {s : ST} (hs : s.Ok) (i : Nat) (hi : i < 4) : -100000 ≤ modI p.pt s i (vals p.pt s i) ∧ modI p.pt s i (vals p.pt s i) ≤ 100000 := by
  unfold modI
  by_cases h : i = 0
  · rw [if_pos h]
    have h1 := hs.y0 0
    have h2 := hs.b0
    have h3 := fbq_bd hp (show -510 ≤ s.y 0 + s.bf by omega) (show s.y 0 + s.bf ≤ 510 by omega)
    show -100000 ≤ (s.y 0 + s.bf) * p.fb / 16 ∧ (s.y 0 + s.bf) * p.fb / 16 ≤ 100000
    omega
  · rw [if_neg h]
    have h1 := smK_bd (F := vals p.pt s i) (byT p.pt.al i) (n := 4) (fun j _ => vals_bd (fun i _ => hall i) hs i (by omega) j) i (by omega)
    omega
theorem ownFarC {w : World} {B g n c m : Nat} {xs : List Value} (h : w.ownsRow B 3 1 (.slice (some ⟨g, 0, none⟩) n c) m xs) (p : Addr) (hp : p.block ≠ g) (u : Value) : (w.setCell p u).ownsRow B 3 1 (.slice (some ⟨g, 0, none⟩) n c) m xs := by
  refine ⟨h.1, ?_⟩
  rcases h.2 with ⟨h', _⟩ | ⟨g', cap', cur, h', h1, hg, h2⟩
  · simp at h'
  · simp only [Value.slice.injEq, Option.some.injEq, Addr.mk.injEq, and_true, true_and] at h'
    obtain ⟨rfl, rfl, rfl⟩ := h'
    exact .inr ⟨g, c, cur, rfl, h1, bkFar hg (Ne.symm hp) u, h2⟩
theorem y_step (p : RP) (s s' : ST) (st : Int) (on : Bool) (i : Nat) (hi : i < 4) (h : stepS p.pt st on s = s') : (fun j => if j = i then putV (p.o i) (mixF s.ph s'.ph i i) (mixF s.l s'.l i i) (modI p.pt s i (vals p.pt s i)) else mixF s.y s'.y i j) = mixF s.y s'.y (i + 1) := by
  refine mixF_step s.y s'.y i ?_
  rw [mixF_at, mixF_at, ← h]
  exact vals_new p.pt s hi
theorem l_step (p : RP) (s s' : ST) (st : Int) (on : Bool) (i : Nat) (h : stepS p.pt st on s = s') : (fun j => if j = i then envL (p.o i) (mixF s.l s'.l i i) (mixF s.f s'.f i i) on else mixF s.l s'.l i j) = mixF s.l s'.l (i + 1) := by
  refine mixF_step s.l s'.l i ?_
  rw [mixF_at, mixF_at, ← h]
  rfl
theorem f_step (p : RP) (s s' : ST) (st : Int) (on : Bool) (i : Nat) (h : stepS p.pt st on s = s') : (fun j => if j = i then envF (p.o i) (mixF s.l s'.l i i) (mixF s.f s'.f i i) on else mixF s.f s'.f i j) = mixF s.f s'.f (i + 1) := by
  refine mixF_step s.f s'.f i ?_
  rw [mixF_at, mixF_at, ← h]
  rfl
theorem ph_step (p : RP) (s s' : ST) (st : Int) (on : Bool) (i : Nat) (h : stepS p.pt st on s = s') (x : Int) (hx : x = byS (p.o i) st) : (fI (mixF s.ph s'.ph i)).setIfInBounds i (iv ((s.ph i + x) % 4194304)) = fI (mixF s.ph s'.ph (i + 1)) := by
  refine fI_set s.ph s'.ph i ?_
  rw [← h, hx]
  rfl
theorem exec_load_mid {P : Program} {oi : Oper} {a : Act} {w : World} (ty : TypeId) (x : Operand) (ho : oi.op = .load ty x) (b o : Nat) (hx : a.eval x = .pointer (some ⟨b, o, none⟩)) (cs : List Value) (d : TypeDesc) (hc : w.rangeAt b o cs)
    (hu : P.underlying ty = some d) (hd : d.isRow = true) (hi : (P.info? ty).map (·.size) = some cs.length) : (execOp a.eval oi).run P w = .ok (.value (.agg cs.toArray)) w := by
  unfold execOp
  simp only [ho, hx, Instr.loadAt, Instr.sureAddr, Sem.run_bind, Sem.run_pure, Result.andThen_ok, run_loadVar_mid w b o ty cs d hc hu hd hi]
def fdR (k : Nat) : Code → Option Code
  | .region n a d => if n == k then some (.region n a d) else none
  | .seq a b => match fdR k a with | some c => some c | none => fdR k b
  | .cond _ a b => match fdR k a with | some c => some c | none => fdR k b
  | .block _ b => fdR k b
  | .loop b => fdR k b
  | _ => none
noncomputable def rgR (k : Nat) : Code := (fdR k (Try.f42.body.getD .skip)).getD .skip
theorem op49 (o : OP) : (Try.prog.info? 49).map (·.size) = some o.cs.toList.length := by kernel_rfl
theorem fI_put (F : Nat → Int) (i : Nat) (x : Int) : (fI F).setIfInBounds i (iv x) = fI (fun j => if j = i then x else F j) := by
  unfold fI
  rw [fb_set]
  refine fb_congr fun j _ => ?_
  show (if j = i then iv x else iv (F j)) = iv (if j = i then x else F j)
  split <;> rfl
theorem fB_put (F : Nat → Bool) (i : Nat) (x : Bool) : (fB F).setIfInBounds i (.bool x) = fB (fun j => if j = i then x else F j) := by
  unfold fB
  rw [fb_set]
  refine fb_congr fun j _ => ?_
  show (if j = i then Value.bool x else .bool (F j)) = .bool (if j = i then x else F j)
  split <;> rfl
set_option maxHeartbeats 16000000 in
set_option maxRecDepth 100000 in
theorem r25 (p : RP) (m k i gp g h1 h2 h3 h4 gF : Nat) (A L Y Z : Nat → Int) (F : Nat → Bool) (xs : List Value) (M : Int) {u0 u1 u2 u3 u4 u6 u7 u8 u9 u10 u11 u12 u18 u19 u20 u23 u24 u25 u26 u27 u28 u29 u30 u31 u32 u33 u34 u35 u36 u37 u38 u39 u40 u41 u42 u43 u44 u45 u46 u47 u48 u49 u50 u51 u52 u53 u54 u55 u56 u57 u58 u59 u60 u61 u62 u63 u64 u65 u66 u67 u68 u69 u70 u71 u72 u73 u74 u75 u76 u77 u78 u79 u80 u81 u82 u83 u84 u85 u86 u87 u88 u89 u90 u91 u92 u93 u94 u95 u96 u97 u98 u99 u100 u101 u102 u103 u104 u105 u106 u107 u108 u109 u110 u111 u112 u113 u114 u115 u116 u117 u118 u119 u120 u121 u122 u123 u124 u125 u126 u127 u128 u129 u130 u131 u132 u133 u134 u135 u136 u137 u138 u139 u140 u141 u142 u143 u144 u145 u146 u147 u148 u149 u150 u151 u152 u153 u154 u155 u156 u157 u158 u159 u160 u161 u162 u163 u164 u165 u166 u167 u168 u169 : Value} (hi : i < 4) (ho : (p.o i).Ok) (hA : 0 ≤ A i ∧ A i < 4194304) (hL : 0 ≤ L i ∧ L i ≤ 520192) (hM : -100000 ≤ M ∧ M ≤ 100000) (w00 w : World) (hq : w00.heap.size = gp ∧ gp < g ∧ g < h1 ∧ h1 < h2 ∧ h2 < h3 ∧ h3 < h4 ∧ h4 < gF)
    (ha : w.heap[gp]? = some (.cells p.cs 52 (0, 0))) (hb : w.heap[g]? = some (.cells (fI A) 110 (0, 0))) (hc : w.heap[h1]? = some (.cells (fI L) 110 (0, 0))) (hd : w.heap[h2]? = some (.cells (fI Y) 110 (0, 0))) (he : w.heap[h3]? = some (.cells (fI Z) 110 (0, 0))) (hf : w.heap[h4]? = some (.cells (fB F) 118 (0, 0))) (hg : w.ownsRow 0 3 1 (.slice (some ⟨gF, 0, none⟩) k m) k xs) (hh : Below w00.heap.size w00 w) {K : Act → World → Prop} {Q : Exit → Act → World → Prop} (hQQ : ∀ c a (n : Tmp) v w, Q (.panic c) (a.put (some n) v) w → Q (.panic c) a w) (hN : ∀ (v95 v96 v97 v98 v99 v100 v101 v102 v103 v104 v105 v106 v107 v108 : Value) (w' : World), w'.heap[gp]? = some (.cells p.cs 52 (0, 0)) → w'.heap[g]? = some (.cells (fI A) 110 (0, 0)) → w'.heap[h1]? = some (.cells (fI L) 110 (0, 0)) → w'.heap[h2]? = some (.cells (fI (fun j => if j = i then putV (p.o i) (A i) (L i) M else Y j)) 110 (0, 0)) → w'.heap[h3]? = some (.cells (fI Z) 110 (0, 0)) → w'.heap[h4]? = some (.cells (fB F) 118 (0, 0)) → w'.ownsRow 0 3 1 (.slice (some ⟨gF, 0, none⟩) k m) k xs → Below w00.heap.size w00 w' → K ⟨#[u0, u1, u2, u3, u4, .pointer (some ⟨gp, 0, none⟩), u6, u7, u8, u9, u10, u11, u12, .pointer (some ⟨g, 0, none⟩), .pointer (some ⟨h1, 0, none⟩), .pointer (some ⟨h2, 0, none⟩), .pointer (some ⟨h3, 0, none⟩), .pointer (some ⟨h4, 0, none⟩), u18, u19, u20, iv (i : Int), iv M, u23, u24, u25, u26, u27, u28, u29, u30, u31, u32, u33, u34, u35, u36, u37, u38, u39, u40, u41, u42, u43, u44, u45, u46, u47, u48, u49, u50, u51, u52, u53, u54, u55, u56, u57, u58, u59, u60, u61, u62, u63, u64, u65, u66, u67, u68, u69, u70, u71, u72, u73, u74, u75, u76, u77, u78, u79, u80, u81, u82, u83, u84, u85, u86, u87, u88, u89, u90, u91, u92, u93, u94, v95, v96, v97, v98, v99, v100, v101, v102, v103, v104, v105, v106, v107, v108, u109, u110, u111, u112, u113, u114, u115, u116, u117, u118, u119, u120, u121, u122, u123, u124, u125, u126, u127, u128, u129, u130, u131, u132, u133, u134, u135, u136, u137, u138, u139, u140, u141, u142, u143, u144, u145, u146, u147, u148, u149, u150, u151, u152, u153, u154, u155, u156, u157, u158, u159, u160, u161, u162, u163, u164, u165, u166, u167, u168, u169], []⟩ w') : (rgR 25).wp Try.prog (Exit.then K Q) ⟨#[u0, u1, u2, u3, u4, .pointer (some ⟨gp, 0, none⟩), u6, u7, u8, u9, u10, u11, u12, .pointer (some ⟨g, 0, none⟩), .pointer (some ⟨h1, 0, none⟩), .pointer (some ⟨h2, 0, none⟩), .pointer (some ⟨h3, 0, none⟩), .pointer (some ⟨h4, 0, none⟩), u18, u19, u20, iv (i : Int), iv M, u23, u24, u25, u26, u27, u28, u29, u30, u31, u32, u33, u34, u35, u36, u37, u38, u39, u40, u41, u42, u43, u44, u45, u46, u47, u48, u49, u50, u51, u52, u53, u54, u55, u56, u57, u58, u59, u60, u61, u62, u63, u64, u65, u66, u67, u68, u69, u70, u71, u72, u73, u74, u75, u76, u77, u78, u79, u80, u81, u82, u83, u84, u85, u86, u87, u88, u89, u90, u91, u92, u93, u94, u95, u96, u97, u98, u99, u100, u101, u102, u103, u104, u105, u106, u107, u108, u109, u110, u111, u112, u113, u114, u115, u116, u117, u118, u119, u120, u121, u122, u123, u124, u125, u126, u127, u128, u129, u130, u131, u132, u133, u134, u135, u136, u137, u138, u139, u140, u141, u142, u143, u144, u145, u146, u147, u148, u149, u150, u151, u152, u153, u154, u155, u156, u157, u158, u159, u160, u161, u162, u163, u164, u165, u166, u167, u168, u169], []⟩ w := by
  have HI := Lib.hid hi
  have HO := Lib.hid ho
  have HA := Lib.hid hA
  have HL := Lib.hid hL
  have HD := Lib.hid hq
  have H1 := Lib.hid ha
  have H2 := Lib.hid hb
  have H3 := Lib.hid hc
  have H4 := Lib.hid hd
  have H5 := Lib.hid he
  have H6 := Lib.hid hf
  have H7 := Lib.hid hg
  have H8 := Lib.hid hh
  clear ha hb hc hd he hf hg hh
  have HM := Lib.hid hM
  have gi : (0 : Int) ≤ (i : Int) := by omega
  have hi4_ : (i : Int) < 4 := by omega
  clear hi ho hA hL hq hM
  conv => arg 2; whnf
  refine start_ (n := 15) (S := fun w' => w'.heap[gp]? = some (.cells p.cs 52 (0, 0)) ∧ w'.heap[g]? = some (.cells (fI A) 110 (0, 0)) ∧ w'.heap[h1]? = some (.cells (fI L) 110 (0, 0)) ∧ w'.heap[h2]? = some (.cells (fI Y) 110 (0, 0)) ∧ w'.heap[h3]? = some (.cells (fI Z) 110 (0, 0)) ∧ w'.heap[h4]? = some (.cells (fB F) 118 (0, 0)) ∧ w'.ownsRow 0 3 1 (.slice (some ⟨gF, 0, none⟩) k m) k xs ∧ Below w00.heap.size w00 w') (ds := [14]) #[false, false, false, false, false, false, false, false, false, false, false, false, false, false, false] (by kernel_rfl) rfl rfl ⟨H1.out, H2.out, H3.out, H4.out, H5.out, H6.out, H7.out.drew, H8.out.drew⟩ (fun hHeld => ?_)
  refine pure_ (i := 0) (N := some 95) (v := ?_) (a' := ?_) #[true, false, false, false, false, false, false, false, false, false, false, false, false, false, false] rfl rfl (by kernel_rfl) (fun c _ _ h => hQQ c _ _ _ _ h) (Or.inl ⟨by rfl, ?_⟩) ?_ ?_
  rotate_left
  · intro w'
    go_simp
    with_reducible rfl
  rotate_left
  · simp only [Act.put, List.setIfInBounds_toArray, List.set_cons_zero, List.set_cons_succ, i64_w, i32_w]
    rfl
  refine pure_ (i := 1) (N := some 96) (v := ?_) (a' := ?_) #[true, true, false, false, false, false, false, false, false, false, false, false, false, false, false] rfl rfl (by kernel_rfl) (fun c _ _ h => hQQ c _ _ _ _ h) (Or.inl ⟨by rfl, ?_⟩) ?_ ?_
  rotate_left
  · intro w'
    go_simp
    with_reducible rfl
  rotate_left
  · simp only [Act.put, List.setIfInBounds_toArray, List.set_cons_zero, List.set_cons_succ, i64_w, i32_w]
    rfl
  refine pure_ (i := 2) (N := some 97) (v := ?_) (a' := ?_) #[true, true, true, false, false, false, false, false, false, false, false, false, false, false, false] rfl rfl (by kernel_rfl) (fun c _ _ h => hQQ c _ _ _ _ h) (Or.inl ⟨by rfl, ?_⟩) ?_ ?_
  rotate_left
  · intro w'
    go_simp
    with_reducible rfl
  rotate_left
  · simp only [Act.put, List.setIfInBounds_toArray, List.set_cons_zero, List.set_cons_succ, i64_w, i32_w]
    rfl
  refine pure_ (i := 3) (N := some 98) (v := ?_) (a' := ?_) #[true, true, true, true, false, false, false, false, false, false, false, false, false, false, false] rfl rfl (by kernel_rfl) (fun c _ _ h => hQQ c _ _ _ _ h) (Or.inl ⟨by rfl, ?_⟩) ?_ ?_
  rotate_left
  · intro w'
    go_simp
    with_reducible rfl
  rotate_left
  · simp only [Act.put, List.setIfInBounds_toArray, List.set_cons_zero, List.set_cons_succ, i64_w, i32_w]
    rfl
  refine pure_ (i := 5) (N := some 100) (v := ?_) (a' := ?_) #[true, true, true, true, false, true, false, false, false, false, false, false, false, false, false] rfl rfl (by kernel_rfl) (fun c _ _ h => hQQ c _ _ _ _ h) (Or.inl ⟨by rfl, ?_⟩) ?_ ?_
  rotate_left
  · intro w'
    go_simp
    with_reducible rfl
  rotate_left
  · simp only [Act.put, List.setIfInBounds_toArray, List.set_cons_zero, List.set_cons_succ, i64_w, i32_w]
    rfl
  refine pure_ (i := 6) (N := some 101) (v := ?_) (a' := ?_) #[true, true, true, true, false, true, true, false, false, false, false, false, false, false, false] rfl rfl (by kernel_rfl) (fun c _ _ h => hQQ c _ _ _ _ h) (Or.inl ⟨by rfl, ?_⟩) ?_ ?_
  rotate_left
  · intro w'
    go_simp
    with_reducible rfl
  rotate_left
  · simp only [Act.put, List.setIfInBounds_toArray, List.set_cons_zero, List.set_cons_succ, i64_w, i32_w]
    rfl
  refine pure_ (i := 8) (N := some 103) (v := ?_) (a' := ?_) #[true, true, true, true, false, true, true, false, true, false, false, false, false, false, false] rfl rfl (by kernel_rfl) (fun c _ _ h => hQQ c _ _ _ _ h) (Or.inl ⟨by rfl, ?_⟩) ?_ ?_
  rotate_left
  · intro w'
    go_simp
    with_reducible rfl
  rotate_left
  · simp only [Act.put, List.setIfInBounds_toArray, List.set_cons_zero, List.set_cons_succ, i64_w, i32_w]
    rfl
  refine pure_ (i := 9) (N := some 104) (v := ?_) (a' := ?_) #[true, true, true, true, false, true, true, false, true, true, false, false, false, false, false] rfl rfl (by kernel_rfl) (fun c _ _ h => hQQ c _ _ _ _ h) (Or.inl ⟨by rfl, ?_⟩) ?_ ?_
  rotate_left
  · intro w'
    go_simp
    with_reducible rfl
  rotate_left
  · simp only [Act.put, List.setIfInBounds_toArray, List.set_cons_zero, List.set_cons_succ, i64_w, i32_w]
    rfl
  refine pure_ (i := 11) (N := some 106) (v := ?_) (a' := ?_) #[true, true, true, true, false, true, true, false, true, true, false, true, false, false, false] rfl rfl (by kernel_rfl) (fun c _ _ h => hQQ c _ _ _ _ h) (Or.inl ⟨by rfl, ?_⟩) ?_ ?_
  rotate_left
  · intro w'
    go_simp
    with_reducible rfl
  rotate_left
  · simp only [Act.put, List.setIfInBounds_toArray, List.set_cons_zero, List.set_cons_succ, i64_w, i32_w]
    rfl
  refine take_ (i := 4) (N := some 99) (v := ?_) (a' := ?_) #[true, true, true, true, true, true, true, false, true, true, false, true, false, false, false] rfl rfl (by kernel_rfl) (fun c _ _ h => hQQ c _ _ _ _ h) (Or.inl ⟨by rfl, ?_⟩) hHeld ?_ ?_
  rotate_left
  · rintro w' ⟨s0, s1, s2, s3, s4, s5, s6, s7⟩
    refine exec_load_mid 49 (.tmp 98) ?_ gp (2 + i * 6) ?_ (p.o i).cs.toList _ (op_range s0 HI.out) Try.underlying49 rfl (op49 _) <;> rfl
  rotate_left
  · simp only [Act.put, List.setIfInBounds_toArray, List.set_cons_zero, List.set_cons_succ, i64_w, i32_w]
    rfl
  refine take_ (i := 7) (N := some 102) (v := ?_) (a' := ?_) #[true, true, true, true, true, true, true, true, true, true, false, true, false, false, false] rfl rfl (by kernel_rfl) (fun c _ _ h => hQQ c _ _ _ _ h) (Or.inl ⟨by rfl, ?_⟩) hHeld ?_ ?_
  rotate_left
  · rintro w' ⟨s0, s1, s2, s3, s4, s5, s6, s7⟩
    have zc := (bkCell s1 i).trans (fI_get A HI.out)
    clear s0 s1 s2 s3 s4 s5 s6 s7
    go_simp
    with_reducible rfl
  rotate_left
  · simp only [Act.put, List.setIfInBounds_toArray, List.set_cons_zero, List.set_cons_succ, i64_w, i32_w]
    rfl
  refine take_ (i := 10) (N := some 105) (v := ?_) (a' := ?_) #[true, true, true, true, true, true, true, true, true, true, true, true, false, false, false] rfl rfl (by kernel_rfl) (fun c _ _ h => hQQ c _ _ _ _ h) (Or.inl ⟨by rfl, ?_⟩) hHeld ?_ ?_
  rotate_left
  · rintro w' ⟨s0, s1, s2, s3, s4, s5, s6, s7⟩
    have zc := (bkCell s2 i).trans (fI_get L HI.out)
    clear s0 s1 s2 s3 s4 s5 s6 s7
    go_simp
    with_reducible rfl
  rotate_left
  · simp only [Act.put, List.setIfInBounds_toArray, List.set_cons_zero, List.set_cons_succ, i64_w, i32_w]
    rfl
  refine one_ (i := 12) (N := some 107) #[true, true, true, true, true, true, true, true, true, true, true, true, true, false, false] rfl rfl (by kernel_rfl) (by decide) (fun K hK => ?_)
  obtain ⟨s0, s1, s2, s3, s4, s5, s6, s7⟩ := hHeld
  refine goes_ Try.func110 (by kernel_rfl) rfl #[.agg (p.o i).cs, iv (A i), iv (L i), iv M] (by rfl) rfl rfl (by simp only [List.map_toArray, List.map_cons, List.map_nil]; rfl) ?_
  with_reducible refine (heard_any (p.o i) HO.out (A i) (L i) M HA.out HL.out HM.out _).mono ?_
  rintro e w4 ⟨rfl, hb4⟩
  refine ⟨_, rfl, ?_⟩
  have Y0 := Lib.hid (bkBelow s0 hb4)
  have Y1 := Lib.hid (bkBelow s1 hb4)
  have Y2 := Lib.hid (bkBelow s2 hb4)
  have Y3 := Lib.hid (bkBelow s3 hb4)
  have Y4 := Lib.hid (bkBelow s4 hb4)
  have Y5 := Lib.hid (bkBelow s5 hb4)
  have Y6 := Lib.hid (ownLater s6 hb4)
  have Y7 := Lib.hid (bdT s7 s7.size hb4)
  clear hb4 s0 s1 s2 s3 s4 s5 s6 s7
  refine hK.out _ _ ⟨Y0.out, Y1.out, Y2.out, Y3.out, Y4.out, Y5.out, Y6.out, Y7.out⟩ (fun hHeld => ?_)
  clear hK K
  refine norm_ (a' := ?_) ?_ ?_
  rotate_left
  · show Act.put _ (some 107) _ = _
    simp only [Act.put, List.setIfInBounds_toArray, List.set_cons_zero, List.set_cons_succ, i64_w, i32_w]
    rfl
  refine pure_ (i := 13) (N := some 108) (v := ?_) (a' := ?_) #[true, true, true, true, true, true, true, true, true, true, true, true, true, true, false] rfl rfl (by kernel_rfl) (fun c _ _ h => hQQ c _ _ _ _ h) (Or.inl ⟨by rfl, ?_⟩) ?_ ?_
  rotate_left
  · intro w'
    go_simp
    with_reducible rfl
  rotate_left
  · simp only [Act.put, List.setIfInBounds_toArray, List.set_cons_zero, List.set_cons_succ, i64_w, i32_w]
    rfl
  refine last_ (i := 14) (N := none) #[true, true, true, true, true, true, true, true, true, true, true, true, true, true, true] rfl rfl (by kernel_rfl) (by decide) (fun K hK => ?_)
  obtain ⟨s0, s1, s2, s3, s4, s5, s6, s7⟩ := hHeld
  have z9 := bkFrozen s3 i
  have c9 := (bkCell s3 i).trans (fI_get Y HI.out)
  have N5 := Lib.hid (And.intro s0 (And.intro s1 (And.intro s2 (And.intro s3 (And.intro s4 (And.intro s5 (And.intro s6 s7)))))))
  clear s0 s1 s2 s3 s4 s5 s6 s7
  refine skip_ (w1 := ?_) (by rfl) rfl ?_ ?_
  rotate_left
  · go_simp
    rfl
  refine hK.out _ _ ?_
  clear hK K
  refine done_ (by kernel_rfl) ?_
  obtain ⟨s0, s1, s2, s3, s4, s5, s6, s7⟩ := N5.out
  have t0 := bkFar s0 (p := ⟨h2, i, none⟩) (by have := HD.out; show gp ≠ h2; omega) (iv (putV (p.o i) (A i) (L i) M))
  have t1 := bkFar s1 (p := ⟨h2, i, none⟩) (by have := HD.out; show g ≠ h2; omega) (iv (putV (p.o i) (A i) (L i) M))
  have t2 := bkFar s2 (p := ⟨h2, i, none⟩) (by have := HD.out; show h1 ≠ h2; omega) (iv (putV (p.o i) (A i) (L i) M))
  have t3 := bkPut s3 i (iv (putV (p.o i) (A i) (L i) M)) (fI_put Y i _)
  have t4 := bkFar s4 (p := ⟨h2, i, none⟩) (by have := HD.out; show h3 ≠ h2; omega) (iv (putV (p.o i) (A i) (L i) M))
  have t5 := bkFar s5 (p := ⟨h2, i, none⟩) (by have := HD.out; show h4 ≠ h2; omega) (iv (putV (p.o i) (A i) (L i) M))
  have t6 := ownFarC s6 ⟨h2, i, none⟩ (by have := HD.out; show h2 ≠ gF; omega) (iv (putV (p.o i) (A i) (L i) M))
  have t7 := s7.setCell (p := ⟨h2, i, none⟩) (by have := HD.out; show w00.heap.size ≤ h2; omega) (iv (putV (p.o i) (A i) (L i) M))
  refine hN _ _ _ _ _ _ _ _ _ _ _ _ _ _ _ t0 t1 t2 t3 t4 t5 t6 t7
set_option maxHeartbeats 16000000 in
set_option maxRecDepth 100000 in
theorem r28 (p : RP) (m k i gp g h1 h2 h3 h4 gF : Nat) (A L Y Z : Nat → Int) (F : Nat → Bool) (xs : List Value) (on : Int) {u0 u1 u2 u4 u6 u7 u8 u9 u10 u11 u12 u18 u20 u22 u23 u24 u25 u26 u27 u28 u29 u30 u31 u32 u33 u34 u35 u36 u37 u38 u39 u40 u41 u42 u43 u44 u45 u46 u47 u48 u49 u50 u51 u52 u53 u54 u55 u56 u57 u58 u59 u60 u61 u62 u63 u64 u65 u66 u67 u68 u69 u70 u71 u72 u73 u74 u75 u76 u77 u78 u79 u80 u81 u82 u83 u84 u85 u86 u87 u88 u89 u90 u91 u92 u93 u94 u95 u96 u97 u98 u99 u100 u101 u102 u103 u104 u105 u106 u107 u108 u109 u110 u111 u112 u113 u114 u115 u116 u117 u118 u119 u120 u121 u122 u123 u124 u125 u126 u127 u128 u129 u130 u131 u132 u133 u134 u135 u136 u137 u138 u139 u140 u141 u142 u143 u144 u145 u146 u147 u148 u149 u150 u151 u152 u153 u154 u155 u156 u157 u158 u159 u160 u161 u162 u163 u164 u165 u166 u167 u168 u169 : Value} (hi : i < 4) (ho : (p.o i).Ok) (hA : 0 ≤ A i ∧ A i < 4194304) (hL : 0 ≤ L i ∧ L i ≤ 520192) (hk : (decide ((k : Int) < on)) = true → F i = true → 4096 * (p.o i).su ≤ L i) (w00 w : World) (hq : w00.heap.size = gp ∧ gp < g ∧ g < h1 ∧ h1 < h2 ∧ h2 < h3 ∧ h3 < h4 ∧ h4 < gF)
    (ha : w.heap[gp]? = some (.cells p.cs 52 (0, 0))) (hb : w.heap[g]? = some (.cells (fI A) 110 (0, 0))) (hc : w.heap[h1]? = some (.cells (fI L) 110 (0, 0))) (hd : w.heap[h2]? = some (.cells (fI Y) 110 (0, 0))) (he : w.heap[h3]? = some (.cells (fI Z) 110 (0, 0))) (hf : w.heap[h4]? = some (.cells (fB F) 118 (0, 0))) (hg : w.ownsRow 0 3 1 (.slice (some ⟨gF, 0, none⟩) k m) k xs) (hh : Below w00.heap.size w00 w) {K : Act → World → Prop} {Q : Exit → Act → World → Prop} (hQQ : ∀ c a (n : Tmp) v w, Q (.panic c) (a.put (some n) v) w → Q (.panic c) a w) (hN : ∀ (v121 v122 v123 v124 v125 v126 v127 v128 v129 v130 v131 v132 v133 v134 v135 v136 v137 v138 v139 v140 v141 : Value) (w' : World), w'.heap[gp]? = some (.cells p.cs 52 (0, 0)) → w'.heap[g]? = some (.cells (fI A) 110 (0, 0)) → w'.heap[h1]? = some (.cells (fI (fun j => if j = i then (envL (p.o i) (L i) (F i) (decide ((k : Int) < on))) else L j)) 110 (0, 0)) → w'.heap[h2]? = some (.cells (fI Y) 110 (0, 0)) → w'.heap[h3]? = some (.cells (fI Z) 110 (0, 0)) → w'.heap[h4]? = some (.cells (fB (fun j => if j = i then (envF (p.o i) (L i) (F i) (decide ((k : Int) < on))) else F j)) 118 (0, 0)) → w'.ownsRow 0 3 1 (.slice (some ⟨gF, 0, none⟩) k m) k xs → Below w00.heap.size w00 w' → K ⟨#[u0, u1, u2, iv on, u4, .pointer (some ⟨gp, 0, none⟩), u6, u7, u8, u9, u10, u11, u12, .pointer (some ⟨g, 0, none⟩), .pointer (some ⟨h1, 0, none⟩), .pointer (some ⟨h2, 0, none⟩), .pointer (some ⟨h3, 0, none⟩), .pointer (some ⟨h4, 0, none⟩), u18, iv (k : Int), u20, iv (i : Int), u22, u23, u24, u25, u26, u27, u28, u29, u30, u31, u32, u33, u34, u35, u36, u37, u38, u39, u40, u41, u42, u43, u44, u45, u46, u47, u48, u49, u50, u51, u52, u53, u54, u55, u56, u57, u58, u59, u60, u61, u62, u63, u64, u65, u66, u67, u68, u69, u70, u71, u72, u73, u74, u75, u76, u77, u78, u79, u80, u81, u82, u83, u84, u85, u86, u87, u88, u89, u90, u91, u92, u93, u94, u95, u96, u97, u98, u99, u100, u101, u102, u103, u104, u105, u106, u107, u108, u109, u110, u111, u112, u113, u114, u115, u116, u117, u118, u119, u120, v121, v122, v123, v124, v125, v126, v127, v128, v129, v130, v131, v132, v133, v134, v135, v136, v137, v138, v139, v140, v141, u142, u143, u144, u145, u146, u147, u148, u149, u150, u151, u152, u153, u154, u155, u156, u157, u158, u159, u160, u161, u162, u163, u164, u165, u166, u167, u168, u169], []⟩ w') : (rgR 28).wp Try.prog (Exit.then K Q) ⟨#[u0, u1, u2, iv on, u4, .pointer (some ⟨gp, 0, none⟩), u6, u7, u8, u9, u10, u11, u12, .pointer (some ⟨g, 0, none⟩), .pointer (some ⟨h1, 0, none⟩), .pointer (some ⟨h2, 0, none⟩), .pointer (some ⟨h3, 0, none⟩), .pointer (some ⟨h4, 0, none⟩), u18, iv (k : Int), u20, iv (i : Int), u22, u23, u24, u25, u26, u27, u28, u29, u30, u31, u32, u33, u34, u35, u36, u37, u38, u39, u40, u41, u42, u43, u44, u45, u46, u47, u48, u49, u50, u51, u52, u53, u54, u55, u56, u57, u58, u59, u60, u61, u62, u63, u64, u65, u66, u67, u68, u69, u70, u71, u72, u73, u74, u75, u76, u77, u78, u79, u80, u81, u82, u83, u84, u85, u86, u87, u88, u89, u90, u91, u92, u93, u94, u95, u96, u97, u98, u99, u100, u101, u102, u103, u104, u105, u106, u107, u108, u109, u110, u111, u112, u113, u114, u115, u116, u117, u118, u119, u120, u121, u122, u123, u124, u125, u126, u127, u128, u129, u130, u131, u132, u133, u134, u135, u136, u137, u138, u139, u140, u141, u142, u143, u144, u145, u146, u147, u148, u149, u150, u151, u152, u153, u154, u155, u156, u157, u158, u159, u160, u161, u162, u163, u164, u165, u166, u167, u168, u169], []⟩ w := by
  have HI := Lib.hid hi
  have HO := Lib.hid ho
  have HA := Lib.hid hA
  have HL := Lib.hid hL
  have HD := Lib.hid hq
  have H1 := Lib.hid ha
  have H2 := Lib.hid hb
  have H3 := Lib.hid hc
  have H4 := Lib.hid hd
  have H5 := Lib.hid he
  have H6 := Lib.hid hf
  have H7 := Lib.hid hg
  have H8 := Lib.hid hh
  clear ha hb hc hd he hf hg hh
  have HK := Lib.hid hk
  have gi : (0 : Int) ≤ (i : Int) := by omega
  have hi4_ : (i : Int) < 4 := by omega
  clear hi ho hA hL hq hk
  conv => arg 2; whnf
  refine start_ (n := 23) (S := fun w' => w'.heap[gp]? = some (.cells p.cs 52 (0, 0)) ∧ w'.heap[g]? = some (.cells (fI A) 110 (0, 0)) ∧ w'.heap[h1]? = some (.cells (fI L) 110 (0, 0)) ∧ w'.heap[h2]? = some (.cells (fI Y) 110 (0, 0)) ∧ w'.heap[h3]? = some (.cells (fI Z) 110 (0, 0)) ∧ w'.heap[h4]? = some (.cells (fB F) 118 (0, 0)) ∧ w'.ownsRow 0 3 1 (.slice (some ⟨gF, 0, none⟩) k m) k xs ∧ Below w00.heap.size w00 w') (ds := [20, 22]) #[false, false, false, false, false, false, false, false, false, false, false, false, false, false, false, false, false, false, false, false, false, false, false] (by kernel_rfl) rfl rfl ⟨H1.out, H2.out, H3.out, H4.out, H5.out, H6.out, H7.out.drew, H8.out.drew⟩ (fun hHeld => ?_)
  refine pure_ (i := 0) (N := some 122) (v := ?_) (a' := ?_) #[true, false, false, false, false, false, false, false, false, false, false, false, false, false, false, false, false, false, false, false, false, false, false] rfl rfl (by kernel_rfl) (fun c _ _ h => hQQ c _ _ _ _ h) (Or.inl ⟨by rfl, ?_⟩) ?_ ?_
  rotate_left
  · intro w'
    go_simp
    with_reducible rfl
  rotate_left
  · simp only [Act.put, List.setIfInBounds_toArray, List.set_cons_zero, List.set_cons_succ, i64_w, i32_w]
    rfl
  refine pure_ (i := 1) (N := some 123) (v := ?_) (a' := ?_) #[true, true, false, false, false, false, false, false, false, false, false, false, false, false, false, false, false, false, false, false, false, false, false] rfl rfl (by kernel_rfl) (fun c _ _ h => hQQ c _ _ _ _ h) (Or.inl ⟨by rfl, ?_⟩) ?_ ?_
  rotate_left
  · intro w'
    go_simp
    with_reducible rfl
  rotate_left
  · simp only [Act.put, List.setIfInBounds_toArray, List.set_cons_zero, List.set_cons_succ, i64_w, i32_w]
    rfl
  refine pure_ (i := 2) (N := some 124) (v := ?_) (a' := ?_) #[true, true, true, false, false, false, false, false, false, false, false, false, false, false, false, false, false, false, false, false, false, false, false] rfl rfl (by kernel_rfl) (fun c _ _ h => hQQ c _ _ _ _ h) (Or.inl ⟨by rfl, ?_⟩) ?_ ?_
  rotate_left
  · intro w'
    go_simp
    with_reducible rfl
  rotate_left
  · simp only [Act.put, List.setIfInBounds_toArray, List.set_cons_zero, List.set_cons_succ, i64_w, i32_w]
    rfl
  refine pure_ (i := 3) (N := some 125) (v := ?_) (a' := ?_) #[true, true, true, true, false, false, false, false, false, false, false, false, false, false, false, false, false, false, false, false, false, false, false] rfl rfl (by kernel_rfl) (fun c _ _ h => hQQ c _ _ _ _ h) (Or.inl ⟨by rfl, ?_⟩) ?_ ?_
  rotate_left
  · intro w'
    go_simp
    with_reducible rfl
  rotate_left
  · simp only [Act.put, List.setIfInBounds_toArray, List.set_cons_zero, List.set_cons_succ, i64_w, i32_w]
    rfl
  refine pure_ (i := 4) (N := some 126) (v := ?_) (a' := ?_) #[true, true, true, true, true, false, false, false, false, false, false, false, false, false, false, false, false, false, false, false, false, false, false] rfl rfl (by kernel_rfl) (fun c _ _ h => hQQ c _ _ _ _ h) (Or.inl ⟨by rfl, ?_⟩) ?_ ?_
  rotate_left
  · intro w'
    go_simp
    with_reducible rfl
  rotate_left
  · simp only [Act.put, List.setIfInBounds_toArray, List.set_cons_zero, List.set_cons_succ, i64_w, i32_w]
    rfl
  refine pure_ (i := 6) (N := some 128) (v := ?_) (a' := ?_) #[true, true, true, true, true, false, true, false, false, false, false, false, false, false, false, false, false, false, false, false, false, false, false] rfl rfl (by kernel_rfl) (fun c _ _ h => hQQ c _ _ _ _ h) (Or.inl ⟨by rfl, ?_⟩) ?_ ?_
  rotate_left
  · intro w'
    go_simp
    with_reducible rfl
  rotate_left
  · simp only [Act.put, List.setIfInBounds_toArray, List.set_cons_zero, List.set_cons_succ, i64_w, i32_w]
    rfl
  refine pure_ (i := 7) (N := some 129) (v := ?_) (a' := ?_) #[true, true, true, true, true, false, true, true, false, false, false, false, false, false, false, false, false, false, false, false, false, false, false] rfl rfl (by kernel_rfl) (fun c _ _ h => hQQ c _ _ _ _ h) (Or.inl ⟨by rfl, ?_⟩) ?_ ?_
  rotate_left
  · intro w'
    go_simp
    with_reducible rfl
  rotate_left
  · simp only [Act.put, List.setIfInBounds_toArray, List.set_cons_zero, List.set_cons_succ, i64_w, i32_w]
    rfl
  refine pure_ (i := 9) (N := some 131) (v := ?_) (a' := ?_) #[true, true, true, true, true, false, true, true, false, true, false, false, false, false, false, false, false, false, false, false, false, false, false] rfl rfl (by kernel_rfl) (fun c _ _ h => hQQ c _ _ _ _ h) (Or.inl ⟨by rfl, ?_⟩) ?_ ?_
  rotate_left
  · intro w'
    go_simp
    with_reducible rfl
  rotate_left
  · simp only [Act.put, List.setIfInBounds_toArray, List.set_cons_zero, List.set_cons_succ, i64_w, i32_w]
    rfl
  refine pure_ (i := 10) (N := some 132) (v := ?_) (a' := ?_) #[true, true, true, true, true, false, true, true, false, true, true, false, false, false, false, false, false, false, false, false, false, false, false] rfl rfl (by kernel_rfl) (fun c _ _ h => hQQ c _ _ _ _ h) (Or.inl ⟨by rfl, ?_⟩) ?_ ?_
  rotate_left
  · intro w'
    go_simp
    with_reducible rfl
  rotate_left
  · simp only [Act.put, List.setIfInBounds_toArray, List.set_cons_zero, List.set_cons_succ, i64_w, i32_w]
    rfl
  refine pure_ (i := 12) (N := some 134) (v := ?_) (a' := ?_) #[true, true, true, true, true, false, true, true, false, true, true, false, true, false, false, false, false, false, false, false, false, false, false] rfl rfl (by kernel_rfl) (fun c _ _ h => hQQ c _ _ _ _ h) (Or.inl ⟨by rfl, ?_⟩) ?_ ?_
  rotate_left
  · intro w'
    go_simp
    with_reducible rfl
  rotate_left
  · simp only [Act.put, List.setIfInBounds_toArray, List.set_cons_zero, List.set_cons_succ, i64_w, i32_w]
    rfl
  refine pure_ (i := 13) (N := some 135) (v := ?_) (a' := ?_) #[true, true, true, true, true, false, true, true, false, true, true, false, true, true, false, false, false, false, false, false, false, false, false] rfl rfl (by kernel_rfl) (fun c _ _ h => hQQ c _ _ _ _ h) (Or.inl ⟨by rfl, ?_⟩) ?_ ?_
  rotate_left
  · intro w'
    go_simp
    with_reducible rfl
  rotate_left
  · simp only [Act.put, List.setIfInBounds_toArray, List.set_cons_zero, List.set_cons_succ, i64_w, i32_w]
    rfl
  refine pure_ (i := 14) (N := some 136) (v := ?_) (a' := ?_) #[true, true, true, true, true, false, true, true, false, true, true, false, true, true, true, false, false, false, false, false, false, false, false] rfl rfl (by kernel_rfl) (fun c _ _ h => hQQ c _ _ _ _ h) (Or.inl ⟨by rfl, ?_⟩) ?_ ?_
  rotate_left
  · intro w'
    go_simp
    with_reducible rfl
  rotate_left
  · simp only [Act.put, List.setIfInBounds_toArray, List.set_cons_zero, List.set_cons_succ, i64_w, i32_w]
    rfl
  refine take_ (i := 5) (N := some 127) (v := ?_) (a' := ?_) #[true, true, true, true, true, true, true, true, false, true, true, false, true, true, true, false, false, false, false, false, false, false, false] rfl rfl (by kernel_rfl) (fun c _ _ h => hQQ c _ _ _ _ h) (Or.inl ⟨by rfl, ?_⟩) hHeld ?_ ?_
  rotate_left
  · rintro w' ⟨s0, s1, s2, s3, s4, s5, s6, s7⟩
    refine exec_load_mid 49 (.tmp 126) ?_ gp (2 + i * 6) ?_ (p.o i).cs.toList _ (op_range s0 HI.out) Try.underlying49 rfl (op49 _) <;> rfl
  rotate_left
  · simp only [Act.put, List.setIfInBounds_toArray, List.set_cons_zero, List.set_cons_succ, i64_w, i32_w]
    rfl
  refine take_ (i := 8) (N := some 130) (v := ?_) (a' := ?_) #[true, true, true, true, true, true, true, true, true, true, true, false, true, true, true, false, false, false, false, false, false, false, false] rfl rfl (by kernel_rfl) (fun c _ _ h => hQQ c _ _ _ _ h) (Or.inl ⟨by rfl, ?_⟩) hHeld ?_ ?_
  rotate_left
  · rintro w' ⟨s0, s1, s2, s3, s4, s5, s6, s7⟩
    have zc := (bkCell s2 i).trans (fI_get L HI.out)
    clear s0 s1 s2 s3 s4 s5 s6 s7
    go_simp
    with_reducible rfl
  rotate_left
  · simp only [Act.put, List.setIfInBounds_toArray, List.set_cons_zero, List.set_cons_succ, i64_w, i32_w]
    rfl
  refine take_ (i := 11) (N := some 133) (v := ?_) (a' := ?_) #[true, true, true, true, true, true, true, true, true, true, true, true, true, true, true, false, false, false, false, false, false, false, false] rfl rfl (by kernel_rfl) (fun c _ _ h => hQQ c _ _ _ _ h) (Or.inl ⟨by rfl, ?_⟩) hHeld ?_ ?_
  rotate_left
  · rintro w' ⟨s0, s1, s2, s3, s4, s5, s6, s7⟩
    have zc := (bkCell s5 i).trans (fB_get F HI.out)
    clear s0 s1 s2 s3 s4 s5 s6 s7
    go_simp
    with_reducible rfl
  rotate_left
  · simp only [Act.put, List.setIfInBounds_toArray, List.set_cons_zero, List.set_cons_succ, i64_w, i32_w]
    rfl
  refine one_ (i := 15) (N := some 137) #[true, true, true, true, true, true, true, true, true, true, true, true, true, true, true, true, false, false, false, false, false, false, false] rfl rfl (by kernel_rfl) (by decide) (fun K hK => ?_)
  obtain ⟨s0, s1, s2, s3, s4, s5, s6, s7⟩ := hHeld
  refine goes_ Try.func112 (by kernel_rfl) rfl #[.agg (p.o i).cs, iv (L i), .bool (F i), .bool (decide ((k : Int) < on))] (by rfl) rfl rfl (by simp only [List.map_toArray, List.map_cons, List.map_nil]; rfl) ?_
  with_reducible refine (renv_any (p.o i) HO.out (L i) (F i) (decide ((k : Int) < on)) HL.out HK.out _).mono ?_
  rintro e w4 ⟨rfl, hb4⟩
  refine ⟨_, rfl, ?_⟩
  have Y0 := Lib.hid (bkBelow s0 hb4)
  have Y1 := Lib.hid (bkBelow s1 hb4)
  have Y2 := Lib.hid (bkBelow s2 hb4)
  have Y3 := Lib.hid (bkBelow s3 hb4)
  have Y4 := Lib.hid (bkBelow s4 hb4)
  have Y5 := Lib.hid (bkBelow s5 hb4)
  have Y6 := Lib.hid (ownLater s6 hb4)
  have Y7 := Lib.hid (bdT s7 s7.size hb4)
  clear hb4 s0 s1 s2 s3 s4 s5 s6 s7
  refine hK.out _ _ ⟨Y0.out, Y1.out, Y2.out, Y3.out, Y4.out, Y5.out, Y6.out, Y7.out⟩ (fun hHeld => ?_)
  clear hK K
  refine norm_ (a' := ?_) ?_ ?_
  rotate_left
  · show Act.put _ (some 137) _ = _
    simp only [Act.put, List.setIfInBounds_toArray, List.set_cons_zero, List.set_cons_succ, i64_w, i32_w]
    rfl
  refine pure_ (i := 16) (N := some 121) (v := ?_) (a' := ?_) #[true, true, true, true, true, true, true, true, true, true, true, true, true, true, true, true, true, false, false, false, false, false, false] rfl rfl (by kernel_rfl) (fun c _ _ h => hQQ c _ _ _ _ h) (Or.inl ⟨by rfl, ?_⟩) ?_ ?_
  rotate_left
  · intro w'
    go_simp
    with_reducible rfl
  rotate_left
  · simp only [Act.put, List.setIfInBounds_toArray, List.set_cons_zero, List.set_cons_succ, i64_w, i32_w]
    rfl
  refine pure_ (i := 17) (N := some 138) (v := ?_) (a' := ?_) #[true, true, true, true, true, true, true, true, true, true, true, true, true, true, true, true, true, true, false, false, false, false, false] rfl rfl (by kernel_rfl) (fun c _ _ h => hQQ c _ _ _ _ h) (Or.inl ⟨by rfl, ?_⟩) ?_ ?_
  rotate_left
  · intro w'
    go_simp
    with_reducible rfl
  rotate_left
  · simp only [Act.put, List.setIfInBounds_toArray, List.set_cons_zero, List.set_cons_succ, i64_w, i32_w]
    rfl
  refine pure_ (i := 18) (N := some 139) (v := ?_) (a' := ?_) #[true, true, true, true, true, true, true, true, true, true, true, true, true, true, true, true, true, true, true, false, false, false, false] rfl rfl (by kernel_rfl) (fun c _ _ h => hQQ c _ _ _ _ h) (Or.inl ⟨by rfl, ?_⟩) ?_ ?_
  rotate_left
  · intro w'
    go_simp
    with_reducible rfl
  rotate_left
  · simp only [Act.put, List.setIfInBounds_toArray, List.set_cons_zero, List.set_cons_succ, i64_w, i32_w]
    rfl
  refine pure_ (i := 19) (N := some 140) (v := ?_) (a' := ?_) #[true, true, true, true, true, true, true, true, true, true, true, true, true, true, true, true, true, true, true, true, false, false, false] rfl rfl (by kernel_rfl) (fun c _ _ h => hQQ c _ _ _ _ h) (Or.inl ⟨by rfl, ?_⟩) ?_ ?_
  rotate_left
  · intro w'
    go_simp
    with_reducible rfl
  rotate_left
  · simp only [Act.put, List.setIfInBounds_toArray, List.set_cons_zero, List.set_cons_succ, i64_w, i32_w]
    rfl
  refine last_ (i := 20) (N := none) #[true, true, true, true, true, true, true, true, true, true, true, true, true, true, true, true, true, true, true, true, true, false, false] rfl rfl (by kernel_rfl) (by decide) (fun K hK => ?_)
  obtain ⟨s0, s1, s2, s3, s4, s5, s6, s7⟩ := hHeld
  have z9 := bkFrozen s2 i
  have c9 := (bkCell s2 i).trans (fI_get L HI.out)
  have q5 := bkFar s5 (p := ⟨h1, i, none⟩) (by have := HD.out; show h4 ≠ h1; omega) (iv (envL (p.o i) (L i) (F i) (decide ((k : Int) < on))))
  have z8 := bkFrozen q5 i
  have c8 := (bkCell q5 i).trans (fB_get F HI.out)
  clear q5
  have N5 := Lib.hid (And.intro s0 (And.intro s1 (And.intro s2 (And.intro s3 (And.intro s4 (And.intro s5 (And.intro s6 s7)))))))
  clear s0 s1 s2 s3 s4 s5 s6 s7
  refine skip_ (w1 := ?_) (by rfl) rfl ?_ ?_
  rotate_left
  · go_simp
    rfl
  refine hK.out _ _ ?_
  clear hK K
  refine pure_ (i := 21) (N := some 141) (v := ?_) (a' := ?_) #[true, true, true, true, true, true, true, true, true, true, true, true, true, true, true, true, true, true, true, true, true, true, false] rfl rfl (by kernel_rfl) (fun c _ _ h => hQQ c _ _ _ _ h) (Or.inl ⟨by rfl, ?_⟩) ?_ ?_
  rotate_left
  · intro w'
    go_simp
    with_reducible rfl
  rotate_left
  · simp only [Act.put, List.setIfInBounds_toArray, List.set_cons_zero, List.set_cons_succ, i64_w, i32_w]
    rfl
  refine last_ (i := 22) (N := none) #[true, true, true, true, true, true, true, true, true, true, true, true, true, true, true, true, true, true, true, true, true, true, true] rfl rfl (by kernel_rfl) (by decide) (fun K hK => ?_)
  refine skip_ (w1 := ?_) (by rfl) rfl ?_ ?_
  rotate_left
  · go_simp
    rfl
  refine hK.out _ _ ?_
  clear hK K
  refine done_ (by kernel_rfl) ?_
  obtain ⟨s0, s1, s2, s3, s4, s5, s6, s7⟩ := N5.out
  have t0 := bkFar s0 (p := ⟨h1, i, none⟩) (by have := HD.out; show gp ≠ h1; omega) (iv (envL (p.o i) (L i) (F i) (decide ((k : Int) < on))))
  have t1 := bkFar s1 (p := ⟨h1, i, none⟩) (by have := HD.out; show g ≠ h1; omega) (iv (envL (p.o i) (L i) (F i) (decide ((k : Int) < on))))
  have t2 := bkPut s2 i (iv (envL (p.o i) (L i) (F i) (decide ((k : Int) < on)))) (fI_put L i _)
  have t3 := bkFar s3 (p := ⟨h1, i, none⟩) (by have := HD.out; show h2 ≠ h1; omega) (iv (envL (p.o i) (L i) (F i) (decide ((k : Int) < on))))
  have t4 := bkFar s4 (p := ⟨h1, i, none⟩) (by have := HD.out; show h3 ≠ h1; omega) (iv (envL (p.o i) (L i) (F i) (decide ((k : Int) < on))))
  have t5 := bkFar s5 (p := ⟨h1, i, none⟩) (by have := HD.out; show h4 ≠ h1; omega) (iv (envL (p.o i) (L i) (F i) (decide ((k : Int) < on))))
  have t6 := ownFarC s6 ⟨h1, i, none⟩ (by have := HD.out; show h1 ≠ gF; omega) (iv (envL (p.o i) (L i) (F i) (decide ((k : Int) < on))))
  have t7 := s7.setCell (p := ⟨h1, i, none⟩) (by have := HD.out; show w00.heap.size ≤ h1; omega) (iv (envL (p.o i) (L i) (F i) (decide ((k : Int) < on))))
  have r0 := bkFar t0 (p := ⟨h4, i, none⟩) (by have := HD.out; show gp ≠ h4; omega) (.bool (envF (p.o i) (L i) (F i) (decide ((k : Int) < on))))
  have r1 := bkFar t1 (p := ⟨h4, i, none⟩) (by have := HD.out; show g ≠ h4; omega) (.bool (envF (p.o i) (L i) (F i) (decide ((k : Int) < on))))
  have r2 := bkFar t2 (p := ⟨h4, i, none⟩) (by have := HD.out; show h1 ≠ h4; omega) (.bool (envF (p.o i) (L i) (F i) (decide ((k : Int) < on))))
  have r3 := bkFar t3 (p := ⟨h4, i, none⟩) (by have := HD.out; show h2 ≠ h4; omega) (.bool (envF (p.o i) (L i) (F i) (decide ((k : Int) < on))))
  have r4 := bkFar t4 (p := ⟨h4, i, none⟩) (by have := HD.out; show h3 ≠ h4; omega) (.bool (envF (p.o i) (L i) (F i) (decide ((k : Int) < on))))
  have r5 := bkPut t5 i (.bool (envF (p.o i) (L i) (F i) (decide ((k : Int) < on)))) (fB_put F i _)
  have r6 := ownFarC t6 ⟨h4, i, none⟩ (by have := HD.out; show h4 ≠ gF; omega) (.bool (envF (p.o i) (L i) (F i) (decide ((k : Int) < on))))
  have r7 := t7.setCell (p := ⟨h4, i, none⟩) (by have := HD.out; show w00.heap.size ≤ h4; omega) (.bool (envF (p.o i) (L i) (F i) (decide ((k : Int) < on))))
  exact hN _ _ _ _ _ _ _ _ _ _ _ _ _ _ _ _ _ _ _ _ _ _ r0 r1 r2 r3 r4 r5 r6 r7
end Go.Proofs.Ytfodpoccjdaaaaa.CS
