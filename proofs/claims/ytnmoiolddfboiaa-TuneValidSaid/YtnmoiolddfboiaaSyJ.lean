/- The weights as the reference tells them. -/
import Derived.Test.YtnmoiolddfboiaaSyG
namespace Go.Proofs.Ytnmoiolddfboiaa.SX
open Go.RowKit Go.Proofs.YtnmoiolddfboiaaW.PrintLast Go.Proofs.Ytnmoiolddfboiaa.TX Go.Proofs.Ytnmoiolddfboiaa.Cu
set_option linter.unusedVariables false
set_option linter.unusedSimpArgs false
set_option maxHeartbeats 4000000 in
set_option maxRecDepth 100000 in
theorem weight_0_0 (f : Int) (d0 : 0 ≤ f) (d1 : f ≤ 255) (w : World) : Calls Try.prog 118 #[iv 0, iv (-3), iv f] w fun e w' => e = .returned (iv (wt 0 f 0)) ∧ w = w' := by
  go_enter Try.func118, Try.ntmps118
  go_wp2
  all_goals (go_ret; refine ⟨?_, rfl⟩; rfl)
set_option maxHeartbeats 4000000 in
set_option maxRecDepth 100000 in
theorem weight_0_1 (f : Int) (d0 : 0 ≤ f) (d1 : f ≤ 255) (w : World) : Calls Try.prog 118 #[iv 0, iv (-2), iv f] w fun e w' => e = .returned (iv (wt 0 f 1)) ∧ w = w' := by
  go_enter Try.func118, Try.ntmps118
  go_wp2
  all_goals (go_ret; refine ⟨?_, rfl⟩; rfl)
set_option maxHeartbeats 4000000 in
set_option maxRecDepth 100000 in
theorem weight_0_2 (f : Int) (d0 : 0 ≤ f) (d1 : f ≤ 255) (w : World) : Calls Try.prog 118 #[iv 0, iv (-1), iv f] w fun e w' => e = .returned (iv (wt 0 f 2)) ∧ w = w' := by
  go_enter Try.func118, Try.ntmps118
  go_wp2
  all_goals (go_ret; refine ⟨?_, rfl⟩; rfl)
set_option maxHeartbeats 4000000 in
set_option maxRecDepth 100000 in
theorem weight_0_3 (f : Int) (d0 : 0 ≤ f) (d1 : f ≤ 255) (w : World) : Calls Try.prog 118 #[iv 0, iv 0, iv f] w fun e w' => e = .returned (iv (wt 0 f 3)) ∧ w = w' := by
  go_enter Try.func118, Try.ntmps118
  go_wp2
  all_goals (go_ret; refine ⟨?_, rfl⟩; rfl)
set_option maxHeartbeats 4000000 in
set_option maxRecDepth 100000 in
theorem weight_0_4 (f : Int) (d0 : 0 ≤ f) (d1 : f ≤ 255) (w : World) : Calls Try.prog 118 #[iv 0, iv 1, iv f] w fun e w' => e = .returned (iv (wt 0 f 4)) ∧ w = w' := by
  go_enter Try.func118, Try.ntmps118
  go_wp2
  all_goals (go_ret; refine ⟨?_, rfl⟩; rfl)
set_option maxHeartbeats 4000000 in
set_option maxRecDepth 100000 in
theorem weight_0_5 (f : Int) (d0 : 0 ≤ f) (d1 : f ≤ 255) (w : World) : Calls Try.prog 118 #[iv 0, iv 2, iv f] w fun e w' => e = .returned (iv (wt 0 f 5)) ∧ w = w' := by
  go_enter Try.func118, Try.ntmps118
  go_wp2
  all_goals (go_ret; refine ⟨?_, rfl⟩; rfl)
set_option maxHeartbeats 4000000 in
set_option maxRecDepth 100000 in
theorem weight_0_6 (f : Int) (d0 : 0 ≤ f) (d1 : f ≤ 255) (w : World) : Calls Try.prog 118 #[iv 0, iv 3, iv f] w fun e w' => e = .returned (iv (wt 0 f 6)) ∧ w = w' := by
  go_enter Try.func118, Try.ntmps118
  go_wp2
  all_goals (go_ret; refine ⟨?_, rfl⟩; rfl)
set_option maxHeartbeats 4000000 in
set_option maxRecDepth 100000 in
theorem weight_0_7 (f : Int) (d0 : 0 ≤ f) (d1 : f ≤ 255) (w : World) : Calls Try.prog 118 #[iv 0, iv 4, iv f] w fun e w' => e = .returned (iv (wt 0 f 7)) ∧ w = w' := by
  go_enter Try.func118, Try.ntmps118
  go_wp2
  all_goals (go_ret; refine ⟨?_, rfl⟩; rfl)
set_option maxHeartbeats 4000000 in
set_option maxRecDepth 100000 in
theorem weight_1_0 (f : Int) (d0 : 0 ≤ f) (d1 : f ≤ 255) (w : World) : Calls Try.prog 118 #[iv 1, iv (-3), iv f] w fun e w' => e = .returned (iv (wt 1 f 0)) ∧ w = w' := by
  go_enter Try.func118, Try.ntmps118
  go_wp2
  all_goals (go_ret; refine ⟨?_, rfl⟩; rfl)
set_option maxHeartbeats 4000000 in
set_option maxRecDepth 100000 in
theorem weight_1_1 (f : Int) (d0 : 0 ≤ f) (d1 : f ≤ 255) (w : World) : Calls Try.prog 118 #[iv 1, iv (-2), iv f] w fun e w' => e = .returned (iv (wt 1 f 1)) ∧ w = w' := by
  go_enter Try.func118, Try.ntmps118
  go_wp2
  all_goals (go_ret; refine ⟨?_, rfl⟩; rfl)
set_option maxHeartbeats 4000000 in
set_option maxRecDepth 100000 in
theorem weight_1_2 (f : Int) (d0 : 0 ≤ f) (d1 : f ≤ 255) (w : World) : Calls Try.prog 118 #[iv 1, iv (-1), iv f] w fun e w' => e = .returned (iv (wt 1 f 2)) ∧ w = w' := by
  go_enter Try.func118, Try.ntmps118
  go_wp2
  all_goals (go_ret; refine ⟨?_, rfl⟩; rfl)
set_option maxHeartbeats 4000000 in
set_option maxRecDepth 100000 in
theorem weight_1_3 (f : Int) (d0 : 0 ≤ f) (d1 : f ≤ 255) (w : World) : Calls Try.prog 118 #[iv 1, iv 0, iv f] w fun e w' => e = .returned (iv (wt 1 f 3)) ∧ w = w' := by
  go_enter Try.func118, Try.ntmps118
  go_wp2
  all_goals (go_ret; refine ⟨?_, rfl⟩; rfl)
set_option maxHeartbeats 4000000 in
set_option maxRecDepth 100000 in
theorem weight_1_4 (f : Int) (d0 : 0 ≤ f) (d1 : f ≤ 255) (w : World) : Calls Try.prog 118 #[iv 1, iv 1, iv f] w fun e w' => e = .returned (iv (wt 1 f 4)) ∧ w = w' := by
  go_enter Try.func118, Try.ntmps118
  go_wp2
  all_goals (go_ret; refine ⟨?_, rfl⟩; rfl)
set_option maxHeartbeats 4000000 in
set_option maxRecDepth 100000 in
theorem weight_1_5 (f : Int) (d0 : 0 ≤ f) (d1 : f ≤ 255) (w : World) : Calls Try.prog 118 #[iv 1, iv 2, iv f] w fun e w' => e = .returned (iv (wt 1 f 5)) ∧ w = w' := by
  go_enter Try.func118, Try.ntmps118
  go_wp2
  all_goals (go_ret; refine ⟨?_, rfl⟩; rfl)
set_option maxHeartbeats 4000000 in
set_option maxRecDepth 100000 in
theorem weight_1_6 (f : Int) (d0 : 0 ≤ f) (d1 : f ≤ 255) (w : World) : Calls Try.prog 118 #[iv 1, iv 3, iv f] w fun e w' => e = .returned (iv (wt 1 f 6)) ∧ w = w' := by
  go_enter Try.func118, Try.ntmps118
  go_wp2
  all_goals (go_ret; refine ⟨?_, rfl⟩; rfl)
set_option maxHeartbeats 4000000 in
set_option maxRecDepth 100000 in
theorem weight_1_7 (f : Int) (d0 : 0 ≤ f) (d1 : f ≤ 255) (w : World) : Calls Try.prog 118 #[iv 1, iv 4, iv f] w fun e w' => e = .returned (iv (wt 1 f 7)) ∧ w = w' := by
  go_enter Try.func118, Try.ntmps118
  go_wp2
  all_goals (go_ret; refine ⟨?_, rfl⟩; rfl)
set_option maxHeartbeats 4000000 in
set_option maxRecDepth 100000 in
theorem weight_2_0 (f : Int) (d0 : 0 ≤ f) (d1 : f ≤ 255) (w : World) : Calls Try.prog 118 #[iv 2, iv (-3), iv f] w fun e w' => e = .returned (iv (wt 2 f 0)) ∧ w = w' := by
  go_enter Try.func118, Try.ntmps118
  go_wp2
  all_goals (go_ret; refine ⟨?_, rfl⟩; first | rfl | (rw [cub2 d0 d1]; rfl) | (rw [cub3 d0 d1]; rfl) | (rw [cub4 d0 d1]; rfl) | (rw [cub5 d0 d1]; rfl))
set_option maxHeartbeats 4000000 in
set_option maxRecDepth 100000 in
theorem weight_2_1 (f : Int) (d0 : 0 ≤ f) (d1 : f ≤ 255) (w : World) : Calls Try.prog 118 #[iv 2, iv (-2), iv f] w fun e w' => e = .returned (iv (wt 2 f 1)) ∧ w = w' := by
  go_enter Try.func118, Try.ntmps118
  go_wp2
  all_goals (go_ret; refine ⟨?_, rfl⟩; first | rfl | (rw [cub2 d0 d1]; rfl) | (rw [cub3 d0 d1]; rfl) | (rw [cub4 d0 d1]; rfl) | (rw [cub5 d0 d1]; rfl))
set_option maxHeartbeats 4000000 in
set_option maxRecDepth 100000 in
theorem weight_2_2 (f : Int) (d0 : 0 ≤ f) (d1 : f ≤ 255) (w : World) : Calls Try.prog 118 #[iv 2, iv (-1), iv f] w fun e w' => e = .returned (iv (wt 2 f 2)) ∧ w = w' := by
  go_enter Try.func118, Try.ntmps118
  go_wp2
  all_goals (go_ret; refine ⟨?_, rfl⟩; first | rfl | (rw [cub2 d0 d1]; rfl) | (rw [cub3 d0 d1]; rfl) | (rw [cub4 d0 d1]; rfl) | (rw [cub5 d0 d1]; rfl))
set_option maxHeartbeats 4000000 in
set_option maxRecDepth 100000 in
theorem weight_2_3 (f : Int) (d0 : 0 ≤ f) (d1 : f ≤ 255) (w : World) : Calls Try.prog 118 #[iv 2, iv 0, iv f] w fun e w' => e = .returned (iv (wt 2 f 3)) ∧ w = w' := by
  go_enter Try.func118, Try.ntmps118
  go_wp2
  all_goals (go_ret; refine ⟨?_, rfl⟩; first | rfl | (rw [cub2 d0 d1]; rfl) | (rw [cub3 d0 d1]; rfl) | (rw [cub4 d0 d1]; rfl) | (rw [cub5 d0 d1]; rfl))
set_option maxHeartbeats 4000000 in
set_option maxRecDepth 100000 in
theorem weight_2_4 (f : Int) (d0 : 0 ≤ f) (d1 : f ≤ 255) (w : World) : Calls Try.prog 118 #[iv 2, iv 1, iv f] w fun e w' => e = .returned (iv (wt 2 f 4)) ∧ w = w' := by
  go_enter Try.func118, Try.ntmps118
  go_wp2
  all_goals (go_ret; refine ⟨?_, rfl⟩; first | rfl | (rw [cub2 d0 d1]; rfl) | (rw [cub3 d0 d1]; rfl) | (rw [cub4 d0 d1]; rfl) | (rw [cub5 d0 d1]; rfl))
set_option maxHeartbeats 4000000 in
set_option maxRecDepth 100000 in
theorem weight_2_5 (f : Int) (d0 : 0 ≤ f) (d1 : f ≤ 255) (w : World) : Calls Try.prog 118 #[iv 2, iv 2, iv f] w fun e w' => e = .returned (iv (wt 2 f 5)) ∧ w = w' := by
  go_enter Try.func118, Try.ntmps118
  go_wp2
  all_goals (go_ret; refine ⟨?_, rfl⟩; first | rfl | (rw [cub2 d0 d1]; rfl) | (rw [cub3 d0 d1]; rfl) | (rw [cub4 d0 d1]; rfl) | (rw [cub5 d0 d1]; rfl))
set_option maxHeartbeats 4000000 in
set_option maxRecDepth 100000 in
theorem weight_2_6 (f : Int) (d0 : 0 ≤ f) (d1 : f ≤ 255) (w : World) : Calls Try.prog 118 #[iv 2, iv 3, iv f] w fun e w' => e = .returned (iv (wt 2 f 6)) ∧ w = w' := by
  go_enter Try.func118, Try.ntmps118
  go_wp2
  all_goals (go_ret; refine ⟨?_, rfl⟩; first | rfl | (rw [cub2 d0 d1]; rfl) | (rw [cub3 d0 d1]; rfl) | (rw [cub4 d0 d1]; rfl) | (rw [cub5 d0 d1]; rfl))
set_option maxHeartbeats 4000000 in
set_option maxRecDepth 100000 in
theorem weight_2_7 (f : Int) (d0 : 0 ≤ f) (d1 : f ≤ 255) (w : World) : Calls Try.prog 118 #[iv 2, iv 4, iv f] w fun e w' => e = .returned (iv (wt 2 f 7)) ∧ w = w' := by
  go_enter Try.func118, Try.ntmps118
  go_wp2
  all_goals (go_ret; refine ⟨?_, rfl⟩; first | rfl | (rw [cub2 d0 d1]; rfl) | (rw [cub3 d0 d1]; rfl) | (rw [cub4 d0 d1]; rfl) | (rw [cub5 d0 d1]; rfl))
set_option maxHeartbeats 4000000 in
set_option maxRecDepth 100000 in
theorem weight_3_0 (f : Int) (d0 : 0 ≤ f) (d1 : f ≤ 255) (w : World) : Calls Try.prog 118 #[iv 3, iv (-3), iv f] w fun e w' => e = .returned (iv (wt 3 f 0)) ∧ w = w' := by
  go_enter Try.func118, Try.ntmps118
  go_wp2
  all_goals (go_ret; refine ⟨?_, rfl⟩; first | rfl | (rw [qua2 d0 d1]; rfl) | (rw [qua3 d0 d1]; rfl) | (rw [qua4 d0 d1]; rfl))
set_option maxHeartbeats 4000000 in
set_option maxRecDepth 100000 in
theorem weight_3_1 (f : Int) (d0 : 0 ≤ f) (d1 : f ≤ 255) (w : World) : Calls Try.prog 118 #[iv 3, iv (-2), iv f] w fun e w' => e = .returned (iv (wt 3 f 1)) ∧ w = w' := by
  go_enter Try.func118, Try.ntmps118
  go_wp2
  all_goals (go_ret; refine ⟨?_, rfl⟩; first | rfl | (rw [qua2 d0 d1]; rfl) | (rw [qua3 d0 d1]; rfl) | (rw [qua4 d0 d1]; rfl))
set_option maxHeartbeats 4000000 in
set_option maxRecDepth 100000 in
theorem weight_3_2 (f : Int) (d0 : 0 ≤ f) (d1 : f ≤ 255) (w : World) : Calls Try.prog 118 #[iv 3, iv (-1), iv f] w fun e w' => e = .returned (iv (wt 3 f 2)) ∧ w = w' := by
  go_enter Try.func118, Try.ntmps118
  go_wp2
  all_goals (go_ret; refine ⟨?_, rfl⟩; first | rfl | (rw [qua2 d0 d1]; rfl) | (rw [qua3 d0 d1]; rfl) | (rw [qua4 d0 d1]; rfl))
set_option maxHeartbeats 4000000 in
set_option maxRecDepth 100000 in
theorem weight_3_3 (f : Int) (d0 : 0 ≤ f) (d1 : f ≤ 255) (w : World) : Calls Try.prog 118 #[iv 3, iv 0, iv f] w fun e w' => e = .returned (iv (wt 3 f 3)) ∧ w = w' := by
  go_enter Try.func118, Try.ntmps118
  go_wp2
  all_goals (go_ret; refine ⟨?_, rfl⟩; first | rfl | (rw [qua2 d0 d1]; rfl) | (rw [qua3 d0 d1]; rfl) | (rw [qua4 d0 d1]; rfl))
set_option maxHeartbeats 4000000 in
set_option maxRecDepth 100000 in
theorem weight_3_4 (f : Int) (d0 : 0 ≤ f) (d1 : f ≤ 255) (w : World) : Calls Try.prog 118 #[iv 3, iv 1, iv f] w fun e w' => e = .returned (iv (wt 3 f 4)) ∧ w = w' := by
  go_enter Try.func118, Try.ntmps118
  go_wp2
  all_goals (go_ret; refine ⟨?_, rfl⟩; first | rfl | (rw [qua2 d0 d1]; rfl) | (rw [qua3 d0 d1]; rfl) | (rw [qua4 d0 d1]; rfl))
set_option maxHeartbeats 4000000 in
set_option maxRecDepth 100000 in
theorem weight_3_5 (f : Int) (d0 : 0 ≤ f) (d1 : f ≤ 255) (w : World) : Calls Try.prog 118 #[iv 3, iv 2, iv f] w fun e w' => e = .returned (iv (wt 3 f 5)) ∧ w = w' := by
  go_enter Try.func118, Try.ntmps118
  go_wp2
  all_goals (go_ret; refine ⟨?_, rfl⟩; first | rfl | (rw [qua2 d0 d1]; rfl) | (rw [qua3 d0 d1]; rfl) | (rw [qua4 d0 d1]; rfl))
set_option maxHeartbeats 4000000 in
set_option maxRecDepth 100000 in
theorem weight_3_6 (f : Int) (d0 : 0 ≤ f) (d1 : f ≤ 255) (w : World) : Calls Try.prog 118 #[iv 3, iv 3, iv f] w fun e w' => e = .returned (iv (wt 3 f 6)) ∧ w = w' := by
  go_enter Try.func118, Try.ntmps118
  go_wp2
  all_goals (go_ret; refine ⟨?_, rfl⟩; first | rfl | (rw [qua2 d0 d1]; rfl) | (rw [qua3 d0 d1]; rfl) | (rw [qua4 d0 d1]; rfl))
set_option maxHeartbeats 4000000 in
set_option maxRecDepth 100000 in
theorem weight_3_7 (f : Int) (d0 : 0 ≤ f) (d1 : f ≤ 255) (w : World) : Calls Try.prog 118 #[iv 3, iv 4, iv f] w fun e w' => e = .returned (iv (wt 3 f 7)) ∧ w = w' := by
  go_enter Try.func118, Try.ntmps118
  go_wp2
  all_goals (go_ret; refine ⟨?_, rfl⟩; first | rfl | (rw [qua2 d0 d1]; rfl) | (rw [qua3 d0 d1]; rfl) | (rw [qua4 d0 d1]; rfl))
set_option maxHeartbeats 4000000 in
set_option maxRecDepth 100000 in
theorem weight_4_0 (f : Int) (d0 : 0 ≤ f) (d1 : f ≤ 255) (w : World) : Calls Try.prog 118 #[iv 4, iv (-3), iv f] w fun e w' => e = .returned (iv (wt 4 f 0)) ∧ w = w' := by
  go_enter Try.func118, Try.ntmps118
  go_wp2
  all_goals (go_ret; refine ⟨?_, rfl⟩; first | rfl | (rw [wwn (i := 0) (f := f) (by omega) (by omega) (by omega)]; rfl) | (rw [wwp (i := 0) (f := f) (by omega) (by omega) (by omega)]; rfl) | (rw [ww3a (f := f) (by omega) (by omega)]; rfl) | (rw [ww3b (f := f) (by omega) (by omega)]; rfl) | (show Ending.returned (iv 0) = Ending.returned (iv (ww 0 f)); rw [← wwz (i := 0) (f := f) rfl (by omega) (by omega)]) | (show Ending.returned (iv 0) = Ending.returned (iv (ww 0 f)); unfold ww; rw [if_pos (by omega), if_neg (by omega)]) | trace_state)
set_option maxHeartbeats 4000000 in
set_option maxRecDepth 100000 in
theorem weight_4_1 (f : Int) (d0 : 0 ≤ f) (d1 : f ≤ 255) (w : World) : Calls Try.prog 118 #[iv 4, iv (-2), iv f] w fun e w' => e = .returned (iv (wt 4 f 1)) ∧ w = w' := by
  go_enter Try.func118, Try.ntmps118
  go_wp2
  all_goals (go_ret; refine ⟨?_, rfl⟩; first | rfl | (rw [wwn (i := 1) (f := f) (by omega) (by omega) (by omega)]; rfl) | (rw [wwp (i := 1) (f := f) (by omega) (by omega) (by omega)]; rfl) | (rw [ww3a (f := f) (by omega) (by omega)]; rfl) | (rw [ww3b (f := f) (by omega) (by omega)]; rfl) | (show Ending.returned (iv 0) = Ending.returned (iv (ww 1 f)); rw [← wwz (i := 1) (f := f) rfl (by omega) (by omega)]) | (show Ending.returned (iv 0) = Ending.returned (iv (ww 1 f)); unfold ww; rw [if_pos (by omega), if_neg (by omega)]) | trace_state)
set_option maxHeartbeats 4000000 in
set_option maxRecDepth 100000 in
theorem weight_4_2 (f : Int) (d0 : 0 ≤ f) (d1 : f ≤ 255) (w : World) : Calls Try.prog 118 #[iv 4, iv (-1), iv f] w fun e w' => e = .returned (iv (wt 4 f 2)) ∧ w = w' := by
  go_enter Try.func118, Try.ntmps118
  go_wp2
  all_goals (go_ret; refine ⟨?_, rfl⟩; first | rfl | (rw [wwn (i := 2) (f := f) (by omega) (by omega) (by omega)]; rfl) | (rw [wwp (i := 2) (f := f) (by omega) (by omega) (by omega)]; rfl) | (rw [ww3a (f := f) (by omega) (by omega)]; rfl) | (rw [ww3b (f := f) (by omega) (by omega)]; rfl) | (show Ending.returned (iv 0) = Ending.returned (iv (ww 2 f)); rw [← wwz (i := 2) (f := f) rfl (by omega) (by omega)]) | (show Ending.returned (iv 0) = Ending.returned (iv (ww 2 f)); unfold ww; rw [if_pos (by omega), if_neg (by omega)]) | trace_state)
set_option maxHeartbeats 4000000 in
set_option maxRecDepth 100000 in
theorem weight_4_3 (f : Int) (d0 : 0 ≤ f) (d1 : f ≤ 255) (w : World) : Calls Try.prog 118 #[iv 4, iv 0, iv f] w fun e w' => e = .returned (iv (wt 4 f 3)) ∧ w = w' := by
  go_enter Try.func118, Try.ntmps118
  go_wp2
  all_goals (go_ret; refine ⟨?_, rfl⟩; first | rfl | (rw [wwn (i := 3) (f := f) (by omega) (by omega) (by omega)]; rfl) | (rw [wwp (i := 3) (f := f) (by omega) (by omega) (by omega)]; rfl) | (rw [ww3a (f := f) (by omega) (by omega)]; rfl) | (rw [ww3b (f := f) (by omega) (by omega)]; rfl) | (show Ending.returned (iv 0) = Ending.returned (iv (ww 3 f)); rw [← wwz (i := 3) (f := f) rfl (by omega) (by omega)]) | (show Ending.returned (iv 0) = Ending.returned (iv (ww 3 f)); unfold ww; rw [if_pos (by omega), if_neg (by omega)]) | trace_state)
set_option maxHeartbeats 4000000 in
set_option maxRecDepth 100000 in
theorem weight_4_4 (f : Int) (d0 : 0 ≤ f) (d1 : f ≤ 255) (w : World) : Calls Try.prog 118 #[iv 4, iv 1, iv f] w fun e w' => e = .returned (iv (wt 4 f 4)) ∧ w = w' := by
  go_enter Try.func118, Try.ntmps118
  go_wp2
  all_goals (go_ret; refine ⟨?_, rfl⟩; first | rfl | (rw [wwn (i := 4) (f := f) (by omega) (by omega) (by omega)]; rfl) | (rw [wwp (i := 4) (f := f) (by omega) (by omega) (by omega)]; rfl) | (rw [ww3a (f := f) (by omega) (by omega)]; rfl) | (rw [ww3b (f := f) (by omega) (by omega)]; rfl) | (show Ending.returned (iv 0) = Ending.returned (iv (ww 4 f)); rw [← wwz (i := 4) (f := f) rfl (by omega) (by omega)]) | (show Ending.returned (iv 0) = Ending.returned (iv (ww 4 f)); unfold ww; rw [if_pos (by omega), if_neg (by omega)]) | trace_state)
set_option maxHeartbeats 4000000 in
set_option maxRecDepth 100000 in
theorem weight_4_5 (f : Int) (d0 : 0 ≤ f) (d1 : f ≤ 255) (w : World) : Calls Try.prog 118 #[iv 4, iv 2, iv f] w fun e w' => e = .returned (iv (wt 4 f 5)) ∧ w = w' := by
  go_enter Try.func118, Try.ntmps118
  go_wp2
  all_goals (go_ret; refine ⟨?_, rfl⟩; first | rfl | (rw [wwn (i := 5) (f := f) (by omega) (by omega) (by omega)]; rfl) | (rw [wwp (i := 5) (f := f) (by omega) (by omega) (by omega)]; rfl) | (rw [ww3a (f := f) (by omega) (by omega)]; rfl) | (rw [ww3b (f := f) (by omega) (by omega)]; rfl) | (show Ending.returned (iv 0) = Ending.returned (iv (ww 5 f)); rw [← wwz (i := 5) (f := f) rfl (by omega) (by omega)]) | (show Ending.returned (iv 0) = Ending.returned (iv (ww 5 f)); unfold ww; rw [if_pos (by omega), if_neg (by omega)]) | trace_state)
set_option maxHeartbeats 4000000 in
set_option maxRecDepth 100000 in
theorem weight_4_6 (f : Int) (d0 : 0 ≤ f) (d1 : f ≤ 255) (w : World) : Calls Try.prog 118 #[iv 4, iv 3, iv f] w fun e w' => e = .returned (iv (wt 4 f 6)) ∧ w = w' := by
  go_enter Try.func118, Try.ntmps118
  go_wp2
  all_goals (go_ret; refine ⟨?_, rfl⟩; first | rfl | (rw [wwn (i := 6) (f := f) (by omega) (by omega) (by omega)]; rfl) | (rw [wwp (i := 6) (f := f) (by omega) (by omega) (by omega)]; rfl) | (rw [ww3a (f := f) (by omega) (by omega)]; rfl) | (rw [ww3b (f := f) (by omega) (by omega)]; rfl) | (show Ending.returned (iv 0) = Ending.returned (iv (ww 6 f)); rw [← wwz (i := 6) (f := f) rfl (by omega) (by omega)]) | (show Ending.returned (iv 0) = Ending.returned (iv (ww 6 f)); unfold ww; rw [if_pos (by omega), if_neg (by omega)]) | trace_state)
set_option maxHeartbeats 4000000 in
set_option maxRecDepth 100000 in
theorem weight_4_7 (f : Int) (d0 : 0 ≤ f) (d1 : f ≤ 255) (w : World) : Calls Try.prog 118 #[iv 4, iv 4, iv f] w fun e w' => e = .returned (iv (wt 4 f 7)) ∧ w = w' := by
  go_enter Try.func118, Try.ntmps118
  go_wp2
  all_goals (go_ret; refine ⟨?_, rfl⟩; first | rfl | (rw [wwn (i := 7) (f := f) (by omega) (by omega) (by omega)]; rfl) | (rw [wwp (i := 7) (f := f) (by omega) (by omega) (by omega)]; rfl) | (rw [ww3a (f := f) (by omega) (by omega)]; rfl) | (rw [ww3b (f := f) (by omega) (by omega)]; rfl) | (show Ending.returned (iv 0) = Ending.returned (iv (ww 7 f)); rw [← wwz (i := 7) (f := f) rfl (by omega) (by omega)]) | (show Ending.returned (iv 0) = Ending.returned (iv (ww 7 f)); unfold ww; rw [if_pos (by omega), if_neg (by omega)]) | trace_state)
theorem weight_k0 (i : Nat) (hi : i < 8) (f : Int) (d0 : 0 ≤ f) (d1 : f ≤ 255) (w : World) : Calls Try.prog 118 #[iv 0, iv ((i : Int) - 3), iv f] w fun e w' => e = .returned (iv (wt 0 f i)) ∧ w = w' := by
  rcases (by omega : i = 0 ∨ i = 1 ∨ i = 2 ∨ i = 3 ∨ i = 4 ∨ i = 5 ∨ i = 6 ∨ i = 7) with rfl | rfl | rfl | rfl | rfl | rfl | rfl | rfl
  · exact weight_0_0 f d0 d1 w
  · exact weight_0_1 f d0 d1 w
  · exact weight_0_2 f d0 d1 w
  · exact weight_0_3 f d0 d1 w
  · exact weight_0_4 f d0 d1 w
  · exact weight_0_5 f d0 d1 w
  · exact weight_0_6 f d0 d1 w
  · exact weight_0_7 f d0 d1 w
theorem weight_k1 (i : Nat) (hi : i < 8) (f : Int) (d0 : 0 ≤ f) (d1 : f ≤ 255) (w : World) : Calls Try.prog 118 #[iv 1, iv ((i : Int) - 3), iv f] w fun e w' => e = .returned (iv (wt 1 f i)) ∧ w = w' := by
  rcases (by omega : i = 0 ∨ i = 1 ∨ i = 2 ∨ i = 3 ∨ i = 4 ∨ i = 5 ∨ i = 6 ∨ i = 7) with rfl | rfl | rfl | rfl | rfl | rfl | rfl | rfl
  · exact weight_1_0 f d0 d1 w
  · exact weight_1_1 f d0 d1 w
  · exact weight_1_2 f d0 d1 w
  · exact weight_1_3 f d0 d1 w
  · exact weight_1_4 f d0 d1 w
  · exact weight_1_5 f d0 d1 w
  · exact weight_1_6 f d0 d1 w
  · exact weight_1_7 f d0 d1 w
theorem weight_k2 (i : Nat) (hi : i < 8) (f : Int) (d0 : 0 ≤ f) (d1 : f ≤ 255) (w : World) : Calls Try.prog 118 #[iv 2, iv ((i : Int) - 3), iv f] w fun e w' => e = .returned (iv (wt 2 f i)) ∧ w = w' := by
  rcases (by omega : i = 0 ∨ i = 1 ∨ i = 2 ∨ i = 3 ∨ i = 4 ∨ i = 5 ∨ i = 6 ∨ i = 7) with rfl | rfl | rfl | rfl | rfl | rfl | rfl | rfl
  · exact weight_2_0 f d0 d1 w
  · exact weight_2_1 f d0 d1 w
  · exact weight_2_2 f d0 d1 w
  · exact weight_2_3 f d0 d1 w
  · exact weight_2_4 f d0 d1 w
  · exact weight_2_5 f d0 d1 w
  · exact weight_2_6 f d0 d1 w
  · exact weight_2_7 f d0 d1 w
theorem weight_k3 (i : Nat) (hi : i < 8) (f : Int) (d0 : 0 ≤ f) (d1 : f ≤ 255) (w : World) : Calls Try.prog 118 #[iv 3, iv ((i : Int) - 3), iv f] w fun e w' => e = .returned (iv (wt 3 f i)) ∧ w = w' := by
  rcases (by omega : i = 0 ∨ i = 1 ∨ i = 2 ∨ i = 3 ∨ i = 4 ∨ i = 5 ∨ i = 6 ∨ i = 7) with rfl | rfl | rfl | rfl | rfl | rfl | rfl | rfl
  · exact weight_3_0 f d0 d1 w
  · exact weight_3_1 f d0 d1 w
  · exact weight_3_2 f d0 d1 w
  · exact weight_3_3 f d0 d1 w
  · exact weight_3_4 f d0 d1 w
  · exact weight_3_5 f d0 d1 w
  · exact weight_3_6 f d0 d1 w
  · exact weight_3_7 f d0 d1 w
theorem weight_k4 (i : Nat) (hi : i < 8) (f : Int) (d0 : 0 ≤ f) (d1 : f ≤ 255) (w : World) : Calls Try.prog 118 #[iv 4, iv ((i : Int) - 3), iv f] w fun e w' => e = .returned (iv (wt 4 f i)) ∧ w = w' := by
  rcases (by omega : i = 0 ∨ i = 1 ∨ i = 2 ∨ i = 3 ∨ i = 4 ∨ i = 5 ∨ i = 6 ∨ i = 7) with rfl | rfl | rfl | rfl | rfl | rfl | rfl | rfl
  · exact weight_4_0 f d0 d1 w
  · exact weight_4_1 f d0 d1 w
  · exact weight_4_2 f d0 d1 w
  · exact weight_4_3 f d0 d1 w
  · exact weight_4_4 f d0 d1 w
  · exact weight_4_5 f d0 d1 w
  · exact weight_4_6 f d0 d1 w
  · exact weight_4_7 f d0 d1 w
theorem weight_any (K : Nat) (hK : K ≤ 4) (i : Nat) (hi : i < 8) (f : Int) (d0 : 0 ≤ f) (d1 : f ≤ 255) (w : World) : Calls Try.prog 118 #[iv K, iv ((i : Int) - 3), iv f] w fun e w' => e = .returned (iv (wt K f i)) ∧ w = w' := by
  rcases (by omega : K = 0 ∨ K = 1 ∨ K = 2 ∨ K = 3 ∨ K = 4) with rfl | rfl | rfl | rfl | rfl
  · exact weight_k0 i hi f d0 d1 w
  · exact weight_k1 i hi f d0 d1 w
  · exact weight_k2 i hi f d0 d1 w
  · exact weight_k3 i hi f d0 d1 w
  · exact weight_k4 i hi f d0 d1 w
end Go.Proofs.Ytnmoiolddfboiaa.SX
