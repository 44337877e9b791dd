/- Steps of Go functions that the law CutsSides uses, told as plain Lean functions, each with the proof that its call comes to what it tells; words on memory; plain facts. No condition beyond those that each text names. -/
import Derived.Test.YtgaabjjenlbmhaaProg
import Derived.WalkMore
import Derived.Test.YtgaabjjenlbmhaaSCutsSides0
import Derived.Test.YtgaabjjenlbmhaaSCutsSides1
import Derived.Test.YtgaabjjenlbmhaaSCutsSides2
import Derived.Test.YtgaabjjenlbmhaaSCutsSides3
import Derived.Test.YtgaabjjenlbmhaaSCutsSides4
set_option maxHeartbeats 16000000
set_option maxRecDepth 100000
section
namespace Go.Proofs.Ytgaabjjenlbmhaa.PA
open Go.RowKit Go.Proofs.YtgaabjjenlbmhaaW.PrintWords Go.Proofs.YtgaabjjenlbmhaaW.PrintLast Go.Proofs.YtgaabjjenlbmhaaW.PrintMore
attribute [local go_sem] max2_int min2_int max_two min_two max_three min_three max_four min_four   -- for this text's walks alone
set_option linter.unusedVariables false
set_option linter.unusedSimpArgs false
def cutplaneref02_Neg.f (a0_0 : Bool) (l0_1 : List Int) (a0_2 : Int) : Option (Bool × List Int × Int) := if (l0_1.length : Int) > 0 then (some (!a0_0, l0_1, a0_2)) else (some (a0_0, l0_1, a0_2))
theorem cutplaneref02_Neg.calls (a0_0 : Bool) (P0_1_ : Nat → Prop) (u9000_ : Value) (l0_1 : List Int) (a0_2 : Int) (r1 : Bool) (r2 : List Int) (r3 : Int) (w0 w : World) (hB : Below w0.heap.size w0 w) (ho0_1 : Kd.R (Kd.int .u32) 140 w w0.heap.size P0_1_ u9000_ l0_1) (h : cutplaneref02_Neg.f a0_0 l0_1 a0_2 = some (r1, r2, r3)) :
  Calls Try.prog 113 #[.agg #[.bool a0_0, u9000_, .int .i64 a0_2]] w fun e w' => ∃ v1_ : Value, e = .returned (.agg #[.bool r1, v1_, .int .i64 r3]) ∧ Kd.R (Kd.int .u32) 140 w' w0.heap.size (fun k_ => (P0_1_ k_ ∨ w.heap.size ≤ k_)) v1_ r2 ∧ Below w0.heap.size w0 w' ∧ Kept w w' (fun k_ => P0_1_ k_) := by
 have hu124 := Try.underlying124
 have HO0_1 := A0_ (show Kd.R (Kd.int .u32) 140 w w0.heap.size (fun k_ => (P0_1_ k_ ∨ w.heap.size ≤ k_)) u9000_ l0_1 from Kd.R_mono ho0_1 (fun k_ hk => (.inl hk)))
 have HK := A0_ (Kept.refl w (fun k_ => P0_1_ k_))
 have HW0 := A0_ hB.size
 have HB := A0_ hB
 clear hB
 have H := h
 clear h
 unfold cutplaneref02_Neg.f at H
 by_cases c2 : (l0_1.length : Int) > 0
 ·rw [if_pos c2] at H
  have c2b0 : decide (0 < (l0_1.length : Int)) = true := decide_eq_true c2
  have c2b1 : decide (0 < l0_1.length) = true := decide_eq_true (by omega)
  clear c2
  simp only [Option.some.injEq, Prod.mk.injEq] at H
  obtain ⟨rfl, rfl, rfl⟩ := H
  obtain ⟨Ao3, co3, eo3⟩ := Kd.R_slice HO0_1.out
  subst eo3
  go_enter Try.func113, Try.ntmps113
  go_wp2_with (first | ((with_reducible refine gate_dst (N := 1) rfl ?_); refine box_event ?hg (N := 1) ?hd (cs := #[.bool a0_0, .slice Ao3 l0_1.length co3, .int .i64 a0_2]) (t := 124) ?hr ?_; (case hd => rfl); (case hg => rfl); (case hr => first | (go_simp; done) | (go_simp; rfl)); intro gb591 hg w4 hbox hb; replace HO0_1 := A0_ (Kd.R_below (by exact rm_ HO0_1.out) hb); have BK591 := A0_ (hbox); have GW591 := A0_ ((by rw [hg]; exact (by first | exact HK.out.1 | exact (show Kept w _ (fun k_ => P0_1_ k_) from by repeat (first | (with_reducible first | exact HK.out | apply Kept.alloc | apply Kept.drewN | apply Kept.drew) | exact HK.out)).1) : w.heap.size ≤ gb591)); replace HK := A0_ (Kept.below (S := (fun k_ => P0_1_ k_)) (by repeat (first | (with_reducible first | exact HK.out | apply Kept.alloc | apply Kept.drewN | apply Kept.drew) | exact HK.out)) hb); have GE591 := A0_ ((by rw [hg]; exact (below_size (qm_ HB.out)) : w0.heap.size ≤ gb591)); replace HB := hs_ hb; clear hb hbox hg) | ((with_reducible refine gate_dst (N := 2) rfl ?_); refine box_event ?hg (N := 2) ?hd (cs := #[.bool false, .slice none 0 0, .int .i64 0]) (t := 124) ?hr ?_; (case hd => rfl); (case hg => rfl); (case hr => first | (go_simp; done) | (go_simp; rfl)); intro gb592 hg w5 hbox hb; replace HO0_1 := A0_ (Kd.R_below (by exact rm_ HO0_1.out) hb); have BK592 := A0_ (hbox); have GW592 := A0_ ((by rw [hg]; exact (by first | exact HK.out.1 | exact (show Kept w _ (fun k_ => P0_1_ k_) from by repeat (first | (with_reducible first | exact HK.out | apply Kept.alloc | apply Kept.drewN | apply Kept.drew | refine Kept.setCell ?_ (.inr GW591.out) _) | exact HK.out)).1) : w.heap.size ≤ gb592)); replace HK := A0_ (Kept.below (S := (fun k_ => P0_1_ k_)) (by repeat (first | (with_reducible first | exact HK.out | apply Kept.alloc | apply Kept.drewN | apply Kept.drew | refine Kept.setCell ?_ (.inr GW591.out) _) | exact HK.out)) hb); have GE592 := A0_ ((by rw [hg]; exact (below_size qz_) : w0.heap.size ≤ gb592)); replace HB := hs_ hb; have NB591_592 := nl_ hg BK591; have NB592_591 := ng_ hg BK591; replace BK591 := bb_ BK591 hb; clear hb hbox hg; have hnb6 := NB591_592.out; have hnc6 := NB592_591.out; have hcz7 := bc3_ BK591.out; have hfz7 := bf3_ BK591.out; have hcz8 := bc3_ BK592.out; have hfz8 := bf3_ BK592.out))
  refine bodyPost_ret (results_cell_row rfl _ _ gb592 124 #[.bool (!a0_0), .slice Ao3 l0_1.length co3, .int .i64 a0_2] (0, 0) _ rfl (by (with_reducible repeat first | apply bN_ | apply bD_ | apply bA_); refine blk_put (cs := #[.bool (!a0_0), .slice Ao3 l0_1.length co3, .int .i64 0]) ?_ 2 _ rfl; refine blk_put (cs := #[.bool (!a0_0), .slice none 0 0, .int .i64 0]) ?_ 1 _ rfl; refine blk_put (cs := #[.bool false, .slice none 0 0, .int .i64 0]) ?_ 0 _ rfl; refine blk_far ?_ NB592_591.out _; exact bm_ BK592.out) Try.underlying124 rfl (by kernel_rfl)) rfl ?_
  exact ⟨_, by first | rfl | (simp [errW_none, errW_some] <;> rfl) | (simp [*, errW_none, errW_some] <;> rfl), by (with_reducible repeat (first | apply Kd.R_alloc | apply Kd.R_drewN | apply Kd.R_drew)); exact Kd.R_mono (Kd.R_far (p := ⟨gb592, 2, none⟩) (Kd.R_far (p := ⟨gb592, 1, none⟩) (Kd.R_far (p := ⟨gb592, 0, none⟩) (Kd.R_far (p := ⟨gb591, 0, none⟩) (Kd.R_types (Kd.R_types HO0_1.out BK591.out (by decide)) BK592.out (by decide)) (fun _ hk => hk.1.2) (.bool (!a0_0))) (fun _ hk => hk.2) (.bool (!a0_0))) (fun _ hk => hk.2) (.slice Ao3 l0_1.length co3)) (fun _ hk => hk.2) (.int .i64 a0_2)) (fun _ hk => hk.1.1), by repeat with_reducible first | exact qm_ HB.out | apply qA_ | apply qN_ | apply qD_ | refine bS_ ?_ (by assumption), by repeat (first | (with_reducible first | exact HK.out | apply Kept.alloc | apply Kept.drewN | apply Kept.drew | refine Kept.setCell ?_ (.inr GW591.out) _ | refine Kept.setCell ?_ (.inr GW592.out) _) | exact HK.out)⟩
 ·rw [if_neg c2] at H
  have c2b0 : decide (0 < (l0_1.length : Int)) = false := decide_eq_false c2
  have c2b1 : decide (0 < l0_1.length) = false := decide_eq_false (by omega)
  clear c2
  simp only [Option.some.injEq, Prod.mk.injEq] at H
  obtain ⟨rfl, rfl, rfl⟩ := H
  obtain ⟨Ao9, co9, eo9⟩ := Kd.R_slice HO0_1.out
  subst eo9
  go_enter Try.func113, Try.ntmps113
  go_wp2_with (first | ((with_reducible refine gate_dst (N := 1) rfl ?_); refine box_event ?hg (N := 1) ?hd (cs := #[.bool a0_0, .slice Ao9 l0_1.length co9, .int .i64 a0_2]) (t := 124) ?hr ?_; (case hd => rfl); (case hg => rfl); (case hr => first | (go_simp; done) | (go_simp; rfl)); intro gb591 hg w10 hbox hb; replace HO0_1 := A0_ (Kd.R_below (by exact rm_ HO0_1.out) hb); have BK591 := A0_ (hbox); have GW591 := A0_ ((by rw [hg]; exact (by first | exact HK.out.1 | exact (show Kept w _ (fun k_ => P0_1_ k_) from by repeat (first | (with_reducible first | exact HK.out | apply Kept.alloc | apply Kept.drewN | apply Kept.drew) | exact HK.out)).1) : w.heap.size ≤ gb591)); replace HK := A0_ (Kept.below (S := (fun k_ => P0_1_ k_)) (by repeat (first | (with_reducible first | exact HK.out | apply Kept.alloc | apply Kept.drewN | apply Kept.drew) | exact HK.out)) hb); have GE591 := A0_ ((by rw [hg]; exact (below_size (qm_ HB.out)) : w0.heap.size ≤ gb591)); replace HB := hs_ hb; clear hb hbox hg) | ((with_reducible refine gate_dst (N := 2) rfl ?_); refine box_event ?hg (N := 2) ?hd (cs := #[.bool false, .slice none 0 0, .int .i64 0]) (t := 124) ?hr ?_; (case hd => rfl); (case hg => rfl); (case hr => first | (go_simp; done) | (go_simp; rfl)); intro gb592 hg w11 hbox hb; replace HO0_1 := A0_ (Kd.R_below (by exact rm_ HO0_1.out) hb); have BK592 := A0_ (hbox); have GW592 := A0_ ((by rw [hg]; exact (by first | exact HK.out.1 | exact (show Kept w _ (fun k_ => P0_1_ k_) from by repeat (first | (with_reducible first | exact HK.out | apply Kept.alloc | apply Kept.drewN | apply Kept.drew | refine Kept.setCell ?_ (.inr GW591.out) _) | exact HK.out)).1) : w.heap.size ≤ gb592)); replace HK := A0_ (Kept.below (S := (fun k_ => P0_1_ k_)) (by repeat (first | (with_reducible first | exact HK.out | apply Kept.alloc | apply Kept.drewN | apply Kept.drew | refine Kept.setCell ?_ (.inr GW591.out) _) | exact HK.out)) hb); have GE592 := A0_ ((by rw [hg]; exact (below_size qz_) : w0.heap.size ≤ gb592)); replace HB := hs_ hb; have NB591_592 := nl_ hg BK591; have NB592_591 := ng_ hg BK591; replace BK591 := bb_ BK591 hb; clear hb hbox hg; have hnb12 := NB591_592.out; have hnc12 := NB592_591.out; have hcz13 := bc3_ BK591.out; have hfz13 := bf3_ BK591.out; have hcz14 := bc3_ BK592.out; have hfz14 := bf3_ BK592.out))
  refine bodyPost_ret (results_cell_row rfl _ _ gb592 124 #[.bool a0_0, .slice Ao9 l0_1.length co9, .int .i64 a0_2] (0, 0) _ rfl (by (with_reducible repeat first | apply bN_ | apply bD_ | apply bA_); refine blk_put (cs := #[.bool a0_0, .slice Ao9 l0_1.length co9, .int .i64 0]) ?_ 2 _ rfl; refine blk_put (cs := #[.bool a0_0, .slice none 0 0, .int .i64 0]) ?_ 1 _ rfl; refine blk_put (cs := #[.bool false, .slice none 0 0, .int .i64 0]) ?_ 0 _ rfl; exact bm_ BK592.out) Try.underlying124 rfl (by kernel_rfl)) rfl ?_
  exact ⟨_, by first | rfl | (simp [errW_none, errW_some] <;> rfl) | (simp [*, errW_none, errW_some] <;> rfl), by (with_reducible repeat (first | apply Kd.R_alloc | apply Kd.R_drewN | apply Kd.R_drew)); exact Kd.R_mono (Kd.R_far (p := ⟨gb592, 2, none⟩) (Kd.R_far (p := ⟨gb592, 1, none⟩) (Kd.R_far (p := ⟨gb592, 0, none⟩) (Kd.R_types HO0_1.out BK592.out (by decide)) (fun _ hk => hk.2) (.bool a0_0)) (fun _ hk => hk.2) (.slice Ao9 l0_1.length co9)) (fun _ hk => hk.2) (.int .i64 a0_2)) (fun _ hk => hk.1), by repeat with_reducible first | exact qm_ HB.out | apply qA_ | apply qN_ | apply qD_ | refine bS_ ?_ (by assumption), by repeat (first | (with_reducible first | exact HK.out | apply Kept.alloc | apply Kept.drewN | apply Kept.drew | refine Kept.setCell ?_ (.inr GW591.out) _ | refine Kept.setCell ?_ (.inr GW592.out) _) | exact HK.out)⟩
def cutplaneref02_Sub.f (k : Nat) (a0_0 : Bool) (l0_1 : List Int) (a0_2 : Int) (a1_0 : Bool) (l1_1 : List Int) (a1_2 : Int) : Option (Bool × List Int × Int) := (cutplaneref02_Neg.f a1_0 l1_1 a1_2).bind fun bt596 => ((cutplaneref02_Add.f k a0_0 l0_1 a0_2 bt596.1 bt596.2.1 bt596.2.2).bind fun bt601 => (some (bt601.1, bt601.2.1, bt601.2.2)))
theorem cutplaneref02_Sub.calls (k : Nat) (a0_0 : Bool) (P0_1_ : Nat → Prop) (u9000_ : Value) (l0_1 : List Int) (a0_2 : Int) (a1_0 : Bool) (P1_1_ : Nat → Prop) (u9001_ : Value) (l1_1 : List Int) (a1_2 : Int) (r1 : Bool) (r2 : List Int) (r3 : Int) (w0 w : World) (hB : Below w0.heap.size w0 w) (ho0_1 : Kd.R (Kd.int .u32) 140 w w0.heap.size P0_1_ u9000_ l0_1) (hp0_1_1_1 : ∀ k_, P0_1_ k_ → ¬ P1_1_ k_) (ho1_1 : Kd.R (Kd.int .u32) 140 w w0.heap.size P1_1_ u9001_ l1_1) (hp1_1_0_1 : ∀ k_, P1_1_ k_ → ¬ P0_1_ k_) (h : cutplaneref02_Sub.f k a0_0 l0_1 a0_2 a1_0 l1_1 a1_2 = some (r1, r2, r3)) :
  Calls Try.prog 104 #[.agg #[.bool a0_0, u9000_, .int .i64 a0_2], .agg #[.bool a1_0, u9001_, .int .i64 a1_2]] w fun e w' => ∃ v1_ : Value, e = .returned (.agg #[.bool r1, v1_, .int .i64 r3]) ∧ Kd.R (Kd.int .u32) 140 w' w0.heap.size (fun k_ => ((P0_1_ k_ ∨ P1_1_ k_) ∨ w.heap.size ≤ k_)) v1_ r2 ∧ Below w0.heap.size w0 w' ∧ Kept w w' (fun k_ => P0_1_ k_ ∨ P1_1_ k_) := by
 have hu124 := Try.underlying124
 have HO0_1 := A0_ (show Kd.R (Kd.int .u32) 140 w w0.heap.size (fun k_ => ((P0_1_ k_ ∨ P1_1_ k_) ∨ w.heap.size ≤ k_) ∧ some k_ ≠ (u9001_ : Value).ownBlock) u9000_ l0_1 from Kd.R_mono ho0_1 (fun k_ hk => ⟨(.inl (.inl hk)), fun e_ => hp0_1_1_1 k_ hk (ho1_1.1 k_ e_.symm)⟩))
 have HO1_1 := A0_ (show Kd.R (Kd.int .u32) 140 w w0.heap.size (fun k_ => ((P0_1_ k_ ∨ P1_1_ k_) ∨ w.heap.size ≤ k_) ∧ some k_ ≠ (u9000_ : Value).ownBlock) u9001_ l1_1 from Kd.R_mono ho1_1 (fun k_ hk => ⟨(.inl (.inr hk)), fun e_ => hp1_1_0_1 k_ hk (ho0_1.1 k_ e_.symm)⟩))
 have HK := A0_ (Kept.refl w (fun k_ => P0_1_ k_ ∨ P1_1_ k_))
 have HW0 := A0_ hB.size
 have HB := A0_ hB
 clear hB
 have H := h
 clear h
 unfold cutplaneref02_Sub.f at H
 obtain ⟨⟨t596, t597, t600⟩, A3, H⟩ := bs_ H
 try dsimp -simprocs only at H
 obtain ⟨⟨t601, t602, t605⟩, A4, H⟩ := bs_ H
 try dsimp -simprocs only at H
 simp only [Option.some.injEq, Prod.mk.injEq] at H
 obtain ⟨rfl, rfl, rfl⟩ := H
 obtain ⟨Ao5, co5, eo5⟩ := Kd.R_slice HO0_1.out
 subst eo5
 go_enter Try.func104, Try.ntmps104
 try go_wp2_with (first | ((with_reducible refine gate_dst (N := 2) rfl ?_); refine box_event ?hg (N := 2) ?hd (cs := #[.bool a0_0, .slice Ao5 l0_1.length co5, .int .i64 a0_2]) (t := 124) ?hr ?_; (case hd => rfl); (case hg => rfl); (case hr => first | (go_simp; done) | (go_simp; rfl)); intro gb593 hg w6 hbox hb; replace HO0_1 := A0_ (Kd.R_below (by exact rm_ HO0_1.out) hb); replace HO1_1 := A0_ (Kd.R_below (by exact rm_ HO1_1.out) hb); have BK593 := A0_ (hbox); have GW593 := A0_ ((by rw [hg]; exact (by first | exact HK.out.1 | exact (show Kept w _ (fun k_ => P0_1_ k_ ∨ P1_1_ k_) from by repeat (first | (with_reducible first | exact HK.out | apply Kept.alloc | apply Kept.drewN | apply Kept.drew) | exact HK.out)).1) : w.heap.size ≤ gb593)); replace HK := A0_ (Kept.below (S := (fun k_ => P0_1_ k_ ∨ P1_1_ k_)) (by repeat (first | (with_reducible first | exact HK.out | apply Kept.alloc | apply Kept.drewN | apply Kept.drew) | exact HK.out)) hb); have GE593 := A0_ ((by rw [hg]; exact (below_size (qm_ HB.out)) : w0.heap.size ≤ gb593)); replace HB := hs_ hb; clear hb hbox hg; obtain ⟨Ao7, co7, eo7⟩ := Kd.R_slice HO1_1.out; subst eo7) | ((with_reducible refine gate_dst (N := 3) rfl ?_); refine box_event ?hg (N := 3) ?hd (cs := #[.bool a1_0, .slice Ao7 l1_1.length co7, .int .i64 a1_2]) (t := 124) ?hr ?_; (case hd => rfl); (case hg => rfl); (case hr => first | (go_simp; done) | (go_simp; rfl)); intro gb594 hg w8 hbox hb; replace HO0_1 := A0_ (Kd.R_below (by exact rm_ HO0_1.out) hb); replace HO1_1 := A0_ (Kd.R_below (by exact rm_ HO1_1.out) hb); have BK594 := A0_ (hbox); have GW594 := A0_ ((by rw [hg]; exact (by first | exact HK.out.1 | exact (show Kept w _ (fun k_ => P0_1_ k_ ∨ P1_1_ k_) from by repeat (first | (with_reducible first | exact HK.out | apply Kept.alloc | apply Kept.drewN | apply Kept.drew | refine Kept.setCell ?_ (.inr GW593.out) _) | exact HK.out)).1) : w.heap.size ≤ gb594)); replace HK := A0_ (Kept.below (S := (fun k_ => P0_1_ k_ ∨ P1_1_ k_)) (by repeat (first | (with_reducible first | exact HK.out | apply Kept.alloc | apply Kept.drewN | apply Kept.drew | refine Kept.setCell ?_ (.inr GW593.out) _) | exact HK.out)) hb); have GE594 := A0_ ((by rw [hg]; exact (below_size qz_) : w0.heap.size ≤ gb594)); replace HB := hs_ hb; have NB593_594 := nl_ hg BK593; have NB594_593 := ng_ hg BK593; replace BK593 := bb_ BK593 hb; clear hb hbox hg) | ((with_reducible refine gate_dst (N := 4) rfl ?_); refine box_event ?hg (N := 4) ?hd (cs := #[.bool false, .slice none 0 0, .int .i64 0]) (t := 124) ?hr ?_; (case hd => rfl); (case hg => rfl); (case hr => first | (go_simp; done) | (go_simp; rfl)); intro gb595 hg w9 hbox hb; replace HO0_1 := A0_ (Kd.R_below (by exact rm_ HO0_1.out) hb); replace HO1_1 := A0_ (Kd.R_below (by exact rm_ HO1_1.out) hb); have BK595 := A0_ (hbox); have GW595 := A0_ ((by rw [hg]; exact (by first | exact HK.out.1 | exact (show Kept w _ (fun k_ => P0_1_ k_ ∨ P1_1_ k_) from by repeat (first | (with_reducible first | exact HK.out | apply Kept.alloc | apply Kept.drewN | apply Kept.drew | refine Kept.setCell ?_ (.inr GW593.out) _ | refine Kept.setCell ?_ (.inr GW594.out) _) | exact HK.out)).1) : w.heap.size ≤ gb595)); replace HK := A0_ (Kept.below (S := (fun k_ => P0_1_ k_ ∨ P1_1_ k_)) (by repeat (first | (with_reducible first | exact HK.out | apply Kept.alloc | apply Kept.drewN | apply Kept.drew | refine Kept.setCell ?_ (.inr GW593.out) _ | refine Kept.setCell ?_ (.inr GW594.out) _) | exact HK.out)) hb); have GE595 := A0_ ((by rw [hg]; exact (below_size qz_) : w0.heap.size ≤ gb595)); replace HB := hs_ hb; have NB593_595 := nl_ hg BK593; have NB595_593 := ng_ hg BK593; replace BK593 := bb_ BK593 hb; have NB594_595 := nl_ hg BK594; have NB595_594 := ng_ hg BK594; replace BK594 := bb_ BK594 hb; clear hb hbox hg))
 replace HO0_1 := A0_ (Kd.R_drew HO0_1.out)
 replace HO1_1 := A0_ (Kd.R_drew HO1_1.out)
 replace BK593 := A0_ (blk_drew BK593.out)
 replace BK594 := A0_ (blk_drew BK594.out)
 replace BK595 := A0_ (blk_drew BK595.out)
 replace HK := A0_ (Kept.drew HK.out)
 replace HB := A0_ (below_drew1 HB.out)
 refine start_ (n := 5) (S := fun w' => w'.cell? ⟨gb593, 0, none⟩ = some (.bool a0_0) ∧ w'.cell? ⟨gb593, 1, none⟩ = some (.slice Ao5 l0_1.length co5) ∧ w'.cell? ⟨gb593, 2, none⟩ = some (.int .i64 a0_2) ∧ w'.cell? ⟨gb594, 0, none⟩ = some (.bool a1_0) ∧ w'.cell? ⟨gb594, 1, none⟩ = some (.slice Ao7 l1_1.length co7) ∧ w'.cell? ⟨gb594, 2, none⟩ = some (.int .i64 a1_2)) (ds := []) #[false, false, false, false, false] (by kernel_rfl) rfl rfl ⟨bC_ BK593.out 0, bC_ BK593.out 1, bC_ BK593.out 2, bC_ BK594.out 0, bC_ BK594.out 1, bC_ BK594.out 2⟩ (fun hHeld => ?_)
 generalize w9.drew = w10 at HO0_1 HO1_1 BK593 BK594 BK595 HK HB hHeld ⊢
 refine take_ (i := 0) (N := some 5) (v := ?_) (a' := ?_) #[true, false, false, false, false] rfl rfl (by kernel_rfl) (fun _ _ _ h => h) (Or.inl ⟨by rfl, ?_⟩) hHeld ?_ ?_
 rotate_left
 ·rintro w' ⟨s0, s1, s2, s3, s4, s5⟩
  go_simp
  with_reducible rfl
 rotate_left
 ·simp only [Act.put, sp_, i64_w, i32_w]
  rfl
 refine take_ (i := 1) (N := some 6) (v := ?_) (a' := ?_) #[true, true, false, false, false] rfl rfl (by kernel_rfl) (fun _ _ _ h => h) (Or.inl ⟨by rfl, ?_⟩) hHeld ?_ ?_
 rotate_left
 ·rintro w' ⟨s0, s1, s2, s3, s4, s5⟩
  go_simp
  with_reducible rfl
 rotate_left
 ·simp only [Act.put, sp_, i64_w, i32_w]
  rfl
 refine one_ (i := 2) (N := some 7) #[true, true, true, false, false] rfl rfl (by kernel_rfl) (by decide) (fun K hK => ?_)
 refine goes_ Try.func113 (by kernel_rfl) rfl #[.agg #[.bool a1_0, .slice Ao7 l1_1.length co7, .int .i64 a1_2]] (by rfl) rfl rfl (am_ rfl) ?_
 with_reducible refine (cutplaneref02_Neg.calls a1_0 (fun k_ => some k_ = (.slice Ao7 l1_1.length co7 : Value).ownBlock) (.slice Ao7 l1_1.length co7) l1_1 a1_2 t596 t597 t600 w0 _ ?side1 ?side2 A3.out).mono ?_
 (case side1 => repeat with_reducible first | exact HB.out | apply below_alloc | apply pw_below_drewN | apply below_drew1 | refine bS_ ?_ (by assumption))
 (case side2 => exact Kd.R_tight rfl HO1_1.out)
 rintro e w11 ⟨v598, rfl, ho0, hb, hkp⟩
 refine ⟨_, rfl, ?_⟩
 replace BK593 := A0_ (blk_kept (bm_ BK593.out) hkp (fun hs_ => (fun e_ => (Kd.R_ne HO1_1.out BK593.out (by decide)) e_) hs_))
 replace BK594 := A0_ (blk_kept (bm_ BK594.out) hkp (fun hs_ => (fun e_ => (Kd.R_ne HO1_1.out BK594.out (by decide)) e_) hs_))
 replace BK595 := A0_ (blk_kept (bm_ BK595.out) hkp (fun hs_ => (fun e_ => (Kd.R_ne HO1_1.out BK595.out (by decide)) e_) hs_))
 have HO599 := A0_ (Kd.R_mono (ok' := fun k_ => ((P0_1_ k_ ∨ P1_1_ k_) ∨ w.heap.size ≤ k_) ∧ some k_ ≠ (.slice Ao5 l0_1.length co5 : Value).ownBlock) ho0 (fun k_ hk_ => ⟨Or.elim hk_ (fun hs_ => (HO1_1.out.1 k_ (hs_).symm).1) (fun hn_ => (.inr (Nat.le_trans (by first | exact HK.out.1 | exact (show Kept w _ (fun k_ => P0_1_ k_ ∨ P1_1_ k_) from by repeat (first | (with_reducible first | exact HK.out | apply Kept.alloc | apply Kept.drewN | apply Kept.drew | refine Kept.setCell ?_ (.inr GW593.out) _ | refine Kept.setCell ?_ (.inr GW594.out) _ | refine Kept.setCell ?_ (.inr GW595.out) _) | exact HK.out)).1) hn_))), Or.elim hk_ (fun hs_ => fun e_ => (((HO0_1.out).1 k_ e_.symm).2) hs_) (fun hn_ => (Kd.fresh' (Kd.R_lt (by exact rm_ HO0_1.out)) k_ hn_))⟩))
 replace HO0_1 := A0_ (Kd.R_mono (ok' := fun k_ => ((P0_1_ k_ ∨ P1_1_ k_) ∨ w.heap.size ≤ k_) ∧ some k_ ≠ (v598 : Value).ownBlock) (Kd.R_keptB (HO0_1.out) hkp (fun k_ hk_ hs_ => (hk_.2) hs_)) (fun k_ hk_ => ⟨hk_.1.1, fun e_ => Or.elim (ho0.1 k_ e_.symm) (fun hs_ => hk_.2.1 hs_) (fun hn_ => Nat.not_le.2 hk_.2.2 hn_)⟩))
 replace HK := A0_ (Kept.then_ (S := (fun k_ => P0_1_ k_ ∨ P1_1_ k_)) (by repeat (first | (with_reducible first | exact HK.out | apply Kept.alloc | apply Kept.drewN | apply Kept.drew | refine Kept.setCell ?_ (.inr GW593.out) _ | refine Kept.setCell ?_ (.inr GW594.out) _ | refine Kept.setCell ?_ (.inr GW595.out) _) | exact HK.out)) hkp (fun k_ hs_ => (fun e_ => (HO1_1.out.1 k_ e_.symm).1) hs_))
 replace HB := A0_ (hb)
 clear HO1_1
 (try clear hb)
 (try clear hkp)
 (try clear ho0)
 obtain ⟨Ao12, co12, eo12⟩ := Kd.R_slice HO599.out
 (first | subst eo12 | (injection eo12 with f1_ f2_ f3_; have f4_ := f1_.symm; have f5_ := f3_.symm; clear f1_ f2_ f3_; subst f4_; subst f5_))
 refine hK.out _ _ ⟨bC_ BK593.out 0, bC_ BK593.out 1, bC_ BK593.out 2, bC_ BK594.out 0, bC_ BK594.out 1, bC_ BK594.out 2⟩ (fun hHeld => ?_)
 clear hK K
 refine norm_ (a' := ?_) ?_ ?_
 rotate_left
 ·show Act.put _ (some 7) _ = _
  simp only [Act.put, sp_, i64_w, i32_w]
  rfl
 refine one_ (i := 3) (N := some 8) #[true, true, true, true, false] rfl rfl (by kernel_rfl) (by decide) (fun K hK => ?_)
 refine goes_ Try.func112 (by kernel_rfl) rfl #[.agg #[.bool a0_0, .slice Ao5 l0_1.length co5, .int .i64 a0_2], .agg #[.bool t596, .slice Ao12 t597.length co12, .int .i64 t600]] (by rfl) rfl rfl (am_ rfl) ?_
 with_reducible refine (cutplaneref02_Add.calls k a0_0 (fun k_ => some k_ = (.slice Ao5 l0_1.length co5 : Value).ownBlock) (.slice Ao5 l0_1.length co5) l0_1 a0_2 t596 (fun k_ => some k_ = (.slice Ao12 t597.length co12 : Value).ownBlock) (.slice Ao12 t597.length co12) t597 t600 t601 t602 t605 w0 _ ?side1 ?side2 ?side3 ?side4 ?side5 A4.out).mono ?_
 (case side1 => repeat with_reducible first | exact HB.out | apply below_alloc | apply pw_below_drewN | apply below_drew1 | refine bS_ ?_ (by assumption))
 (case side2 => exact Kd.R_tight rfl HO0_1.out)
 (case side3 => exact fun k_ e_ => (HO0_1.out.1 k_ e_.symm).2)
 (case side4 => exact Kd.R_tight rfl HO599.out)
 (case side5 => exact fun k_ e_ => (HO599.out.1 k_ e_.symm).2)
 rintro e w13 ⟨v603, rfl, ho0, hb, hkp⟩
 refine ⟨_, rfl, ?_⟩
 replace BK593 := A0_ (blk_kept (bm_ BK593.out) hkp (fun hs_ => Or.elim hs_ (fun e_ => (fun e_ => (Kd.R_ne HO0_1.out BK593.out (by decide)) e_) e_) (fun e_ => (fun e_ => (Kd.R_ne HO599.out BK593.out (by decide)) e_) e_)))
 replace BK594 := A0_ (blk_kept (bm_ BK594.out) hkp (fun hs_ => Or.elim hs_ (fun e_ => (fun e_ => (Kd.R_ne HO0_1.out BK594.out (by decide)) e_) e_) (fun e_ => (fun e_ => (Kd.R_ne HO599.out BK594.out (by decide)) e_) e_)))
 replace BK595 := A0_ (blk_kept (bm_ BK595.out) hkp (fun hs_ => Or.elim hs_ (fun e_ => (fun e_ => (Kd.R_ne HO0_1.out BK595.out (by decide)) e_) e_) (fun e_ => (fun e_ => (Kd.R_ne HO599.out BK595.out (by decide)) e_) e_)))
 have HO604 := A0_ (Kd.R_mono (ok' := fun k_ => ((P0_1_ k_ ∨ P1_1_ k_) ∨ w.heap.size ≤ k_)) ho0 (fun k_ hk_ => Or.elim hk_ (fun hs_ => Or.elim hs_ (fun hs_ => (HO0_1.out.1 k_ (hs_).symm).1) (fun hs_ => (HO599.out.1 k_ (hs_).symm).1)) (fun hn_ => (.inr (Nat.le_trans (by first | exact HK.out.1 | exact (show Kept w _ (fun k_ => P0_1_ k_ ∨ P1_1_ k_) from by repeat (first | (with_reducible first | exact HK.out | apply Kept.alloc | apply Kept.drewN | apply Kept.drew | refine Kept.setCell ?_ (.inr GW593.out) _ | refine Kept.setCell ?_ (.inr GW594.out) _ | refine Kept.setCell ?_ (.inr GW595.out) _) | exact HK.out)).1) hn_)))))
 replace HK := A0_ (Kept.then_ (S := (fun k_ => P0_1_ k_ ∨ P1_1_ k_)) (by repeat (first | (with_reducible first | exact HK.out | apply Kept.alloc | apply Kept.drewN | apply Kept.drew | refine Kept.setCell ?_ (.inr GW593.out) _ | refine Kept.setCell ?_ (.inr GW594.out) _ | refine Kept.setCell ?_ (.inr GW595.out) _) | exact HK.out)) hkp (fun k_ hs_ => Or.elim hs_ (fun e_ => (fun e_ => (HO0_1.out.1 k_ e_.symm).1) e_) (fun e_ => (fun e_ => (HO599.out.1 k_ e_.symm).1) e_)))
 replace HB := A0_ (hb)
 clear HO0_1 HO599
 (try clear hb)
 (try clear hkp)
 (try clear ho0)
 obtain ⟨Ao15, co15, eo15⟩ := Kd.R_slice HO604.out
 (first | subst eo15 | (injection eo15 with f1_ f2_ f3_; have f4_ := f1_.symm; have f5_ := f3_.symm; clear f1_ f2_ f3_; subst f4_; subst f5_))
 refine hK.out _ _ ⟨bC_ BK593.out 0, bC_ BK593.out 1, bC_ BK593.out 2, bC_ BK594.out 0, bC_ BK594.out 1, bC_ BK594.out 2⟩ (fun hHeld => ?_)
 clear hK K
 refine norm_ (a' := ?_) ?_ ?_
 rotate_left
 ·show Act.put _ (some 8) _ = _
  simp only [Act.put, sp_, i64_w, i32_w]
  rfl
 refine one_ (i := 4) (N := none) #[true, true, true, true, true] rfl rfl (by kernel_rfl) (by decide) (fun K hK => ?_)
 have hs14 : w13.cell? ⟨gb595, 0, none⟩ = some (.bool false) := (blk_cell BK595.out 0).trans rfl
 have hfs14 := blk_frozen BK595.out 0
 have hns14_0 := NB593_595.out
 have hns14_1 := NB594_595.out
 have hms14_0 := NB595_593.out
 have hms14_1 := NB595_594.out
 have hs16 : w13.cell? ⟨gb595, 1, none⟩ = some (.slice none 0 0) := (blk_cell BK595.out 1).trans rfl
 have hfs16 := blk_frozen BK595.out 1
 have hns16_0 := NB593_595.out
 have hns16_1 := NB594_595.out
 have hms16_0 := NB595_593.out
 have hms16_1 := NB595_594.out
 have hs17 : w13.cell? ⟨gb595, 2, none⟩ = some (.int .i64 0) := (blk_cell BK595.out 2).trans rfl
 have hfs17 := blk_frozen BK595.out 2
 have hns17_0 := NB593_595.out
 have hns17_1 := NB594_595.out
 have hms17_0 := NB595_593.out
 have hms17_1 := NB595_594.out
 refine skip_ (w1 := ?_) (by rfl) rfl ?_ ?_
 rotate_left
 ·go_simp
  rfl
 refine hK.out _ _ ⟨((cell_far (p := ⟨gb595, _, none⟩) NB593_595.out _).trans (((cell_far (p := ⟨gb595, _, none⟩) NB593_595.out _).trans (((cell_far (p := ⟨gb595, _, none⟩) NB593_595.out _).trans (hHeld.1)))))), ((cell_far (p := ⟨gb595, _, none⟩) NB593_595.out _).trans (((cell_far (p := ⟨gb595, _, none⟩) NB593_595.out _).trans (((cell_far (p := ⟨gb595, _, none⟩) NB593_595.out _).trans (hHeld.2.1)))))), ((cell_far (p := ⟨gb595, _, none⟩) NB593_595.out _).trans (((cell_far (p := ⟨gb595, _, none⟩) NB593_595.out _).trans (((cell_far (p := ⟨gb595, _, none⟩) NB593_595.out _).trans (hHeld.2.2.1)))))), ((cell_far (p := ⟨gb595, _, none⟩) NB594_595.out _).trans (((cell_far (p := ⟨gb595, _, none⟩) NB594_595.out _).trans (((cell_far (p := ⟨gb595, _, none⟩) NB594_595.out _).trans (hHeld.2.2.2.1)))))), ((cell_far (p := ⟨gb595, _, none⟩) NB594_595.out _).trans (((cell_far (p := ⟨gb595, _, none⟩) NB594_595.out _).trans (((cell_far (p := ⟨gb595, _, none⟩) NB594_595.out _).trans (hHeld.2.2.2.2.1)))))), ((cell_far (p := ⟨gb595, _, none⟩) NB594_595.out _).trans (((cell_far (p := ⟨gb595, _, none⟩) NB594_595.out _).trans (((cell_far (p := ⟨gb595, _, none⟩) NB594_595.out _).trans (hHeld.2.2.2.2.2))))))⟩ (fun hHeld => ?_)
 clear hK K
 refine done_ (by kernel_rfl) ?_
 try go_wp2
 refine bodyPost_ret (results_cell_row rfl _ _ gb595 124 #[.bool t601, .slice Ao15 t602.length co15, .int .i64 t605] (0, 0) _ rfl (by (with_reducible repeat first | apply bN_ | apply bD_ | apply bA_); refine blk_put (cs := #[.bool t601, .slice Ao15 t602.length co15, .int .i64 0]) ?_ 2 _ rfl; refine blk_put (cs := #[.bool t601, .slice none 0 0, .int .i64 0]) ?_ 1 _ rfl; refine blk_put (cs := #[.bool false, .slice none 0 0, .int .i64 0]) ?_ 0 _ rfl; exact bm_ BK595.out) Try.underlying124 rfl (by kernel_rfl)) rfl ?_
 exact ⟨_, by first | rfl | (simp [errW_none, errW_some] <;> rfl) | (simp [*, errW_none, errW_some] <;> rfl), by (with_reducible repeat (first | apply Kd.R_alloc | apply Kd.R_drewN | apply Kd.R_drew)); exact Kd.R_mono (Kd.R_far (p := ⟨gb595, 2, none⟩) (Kd.R_far (p := ⟨gb595, 1, none⟩) (Kd.R_far (p := ⟨gb595, 0, none⟩) (Kd.R_types HO604.out BK595.out (by decide)) (fun _ hk => hk.2) (.bool t601)) (fun _ hk => hk.2) (.slice Ao15 t602.length co15)) (fun _ hk => hk.2) (.int .i64 t605)) (fun _ hk => hk.1), by repeat with_reducible first | exact qm_ HB.out | apply qA_ | apply qN_ | apply qD_ | refine bS_ ?_ (by assumption), by repeat (first | (with_reducible first | exact HK.out | apply Kept.alloc | apply Kept.drewN | apply Kept.drew | refine Kept.setCell ?_ (.inr GW593.out) _ | refine Kept.setCell ?_ (.inr GW594.out) _ | refine Kept.setCell ?_ (.inr GW595.out) _) | exact HK.out)⟩
end Go.Proofs.Ytgaabjjenlbmhaa.PA
end

section
namespace Go.Proofs.Ytgaabjjenlbmhaa.PA
open Go.RowKit Go.Proofs.YtgaabjjenlbmhaaW.PrintWords Go.Proofs.YtgaabjjenlbmhaaW.PrintLast Go.Proofs.YtgaabjjenlbmhaaW.PrintMore
attribute [local go_sem] max2_int min2_int max_two min_two max_three min_three max_four min_four   -- for this text's walks alone
set_option linter.unusedVariables false
set_option linter.unusedSimpArgs false
def cutplaneref02_Cmp.f (k : Nat) (a0_0 : Bool) (l0_1 : List Int) (a0_2 : Int) (a1_0 : Bool) (l1_1 : List Int) (a1_2 : Int) : Option (Int) := (cutplaneref02_Sign.f a0_0 l0_1 a0_2).bind fun t608 => ((cutplaneref02_Sign.f a1_0 l1_1 a1_2).bind fun t609 => (if t608 = t609 then (if t608 = 0 then (some 0) else ((cutplaneref02_Top.f k a0_0 l0_1 a0_2).bind fun t610 => ((cutplaneref02_Top.f k a1_0 l1_1 a1_2).bind fun t611 => (if t610 = t611 then ((cutplaneref02_Sub.f k a0_0 l0_1 a0_2 a1_0 l1_1 a1_2).bind fun bt612 => ((cutplaneref02_Sign.f bt612.1 bt612.2.1 bt612.2.2).bind fun t617 => (some t617))) else ((cutplaneref02_Top.f k a0_0 l0_1 a0_2).bind fun t618 => ((cutplaneref02_Top.f k a1_0 l1_1 a1_2).bind fun t619 => (if ((decide (t618 < t619)) == (decide (t608 > 0))) = true then (some (-1)) else (some 1)))))))) else (if t608 < t609 then (some (-1)) else (some 1))))
def cutplaneref02_Cmp.T9 : Bool × List (List Nat × List Nat) := (true, [([], []), ([0], [0]), ([], []), ([2, 1], [2]), ([1, 3], [1, 3]), ([], []), ([5], [5]), ([4, 6], [4, 6])])
def cutplaneref02_Cmp.B9 : List Nat := [0, 1, 0, 7, 15, 0, 32, 127]
theorem cutplaneref02_Cmp.tab9 : rtab .any (opsOf Try.f85 9) = cutplaneref02_Cmp.T9 := by kernel_rfl
theorem cutplaneref02_Cmp.bits9 : waitsOk cutplaneref02_Cmp.T9.2 cutplaneref02_Cmp.B9 = true := by kernel_rfl
theorem cutplaneref02_Cmp.calls (k : Nat) (a0_0 : Bool) (P0_1_ : Nat → Prop) (u9000_ : Value) (l0_1 : List Int) (a0_2 : Int) (a1_0 : Bool) (P1_1_ : Nat → Prop) (u9001_ : Value) (l1_1 : List Int) (a1_2 : Int) (r : Int) (w0 w : World) (hB : Below w0.heap.size w0 w) (ho0_1 : Kd.R (Kd.int .u32) 140 w w0.heap.size P0_1_ u9000_ l0_1) (hp0_1_1_1 : ∀ k_, P0_1_ k_ → ¬ P1_1_ k_) (ho1_1 : Kd.R (Kd.int .u32) 140 w w0.heap.size P1_1_ u9001_ l1_1) (hp1_1_0_1 : ∀ k_, P1_1_ k_ → ¬ P0_1_ k_) (h : cutplaneref02_Cmp.f k a0_0 l0_1 a0_2 a1_0 l1_1 a1_2 = some r) :
  Calls Try.prog 85 #[.agg #[.bool a0_0, u9000_, .int .i64 a0_2], .agg #[.bool a1_0, u9001_, .int .i64 a1_2]] w fun e w' => e = .returned (.int .i64 r) ∧ Below w0.heap.size w0 w' ∧ Kept w w' (fun k_ => P0_1_ k_ ∨ P1_1_ k_) := by
 have hu124 := Try.underlying124
 have HO0_1 := A0_ (show Kd.R (Kd.int .u32) 140 w w0.heap.size (fun k_ => ((P0_1_ k_ ∨ P1_1_ k_) ∨ w.heap.size ≤ k_) ∧ some k_ ≠ (u9001_ : Value).ownBlock) u9000_ l0_1 from Kd.R_mono ho0_1 (fun k_ hk => ⟨(.inl (.inl hk)), fun e_ => hp0_1_1_1 k_ hk (ho1_1.1 k_ e_.symm)⟩))
 have HO1_1 := A0_ (show Kd.R (Kd.int .u32) 140 w w0.heap.size (fun k_ => ((P0_1_ k_ ∨ P1_1_ k_) ∨ w.heap.size ≤ k_) ∧ some k_ ≠ (u9000_ : Value).ownBlock) u9001_ l1_1 from Kd.R_mono ho1_1 (fun k_ hk => ⟨(.inl (.inr hk)), fun e_ => hp1_1_0_1 k_ hk (ho0_1.1 k_ e_.symm)⟩))
 have HK := A0_ (Kept.refl w (fun k_ => P0_1_ k_ ∨ P1_1_ k_))
 have HW0 := A0_ hB.size
 have HB := A0_ hB
 clear hB
 have H := h
 clear h
 unfold cutplaneref02_Cmp.f at H
 obtain ⟨t608, A3, H⟩ := bs_ H
 try dsimp -simprocs only at H
 obtain ⟨t609, A4, H⟩ := bs_ H
 try dsimp -simprocs only at H
 by_cases c5 : t608 = t609
 ·rw [if_pos c5] at H
  have c5b0 : (t608 == t609) = true := beq_iff_eq.mpr c5
  have c5b1 : (t608 != t609) = false := bne_eq_false_iff_eq.mpr c5
  clear c5
  by_cases c6 : t608 = 0
  ·rw [if_pos c6] at H
   have c6b0 : (t608 == 0) = true := beq_iff_eq.mpr c6
   have c6b1 : (t608 != 0) = false := bne_eq_false_iff_eq.mpr c6
   clear c6
   obtain rfl := Option.some.inj H
   obtain ⟨Ao7, co7, eo7⟩ := Kd.R_slice HO0_1.out
   subst eo7
   go_enter Try.func85, Try.ntmps85
   try go_wp2_with (first | ((with_reducible refine gate_dst (N := 2) rfl ?_); refine box_event ?hg (N := 2) ?hd (cs := #[.bool a0_0, .slice Ao7 l0_1.length co7, .int .i64 a0_2]) (t := 124) ?hr ?_; (case hd => rfl); (case hg => rfl); (case hr => first | (go_simp; done) | (go_simp; rfl)); intro gb606 hg w8 hbox hb; replace HO0_1 := A0_ (Kd.R_below (by exact rm_ HO0_1.out) hb); replace HO1_1 := A0_ (Kd.R_below (by exact rm_ HO1_1.out) hb); have BK606 := A0_ (hbox); have GW606 := A0_ ((by rw [hg]; exact (by first | exact HK.out.1 | exact (show Kept w _ (fun k_ => P0_1_ k_ ∨ P1_1_ k_) from by repeat (first | (with_reducible first | exact HK.out | apply Kept.alloc | apply Kept.drewN | apply Kept.drew) | exact HK.out)).1) : w.heap.size ≤ gb606)); replace HK := A0_ (Kept.below (S := (fun k_ => P0_1_ k_ ∨ P1_1_ k_)) (by repeat (first | (with_reducible first | exact HK.out | apply Kept.alloc | apply Kept.drewN | apply Kept.drew) | exact HK.out)) hb); have GE606 := A0_ ((by rw [hg]; exact (below_size (qm_ HB.out)) : w0.heap.size ≤ gb606)); replace HB := hs_ hb; clear hb hbox hg; obtain ⟨Ao9, co9, eo9⟩ := Kd.R_slice HO1_1.out; subst eo9) | ((with_reducible refine gate_dst (N := 3) rfl ?_); refine box_event ?hg (N := 3) ?hd (cs := #[.bool a1_0, .slice Ao9 l1_1.length co9, .int .i64 a1_2]) (t := 124) ?hr ?_; (case hd => rfl); (case hg => rfl); (case hr => first | (go_simp; done) | (go_simp; rfl)); intro gb607 hg w10 hbox hb; replace HO0_1 := A0_ (Kd.R_below (by exact rm_ HO0_1.out) hb); replace HO1_1 := A0_ (Kd.R_below (by exact rm_ HO1_1.out) hb); have BK607 := A0_ (hbox); have GW607 := A0_ ((by rw [hg]; exact (by first | exact HK.out.1 | exact (show Kept w _ (fun k_ => P0_1_ k_ ∨ P1_1_ k_) from by repeat (first | (with_reducible first | exact HK.out | apply Kept.alloc | apply Kept.drewN | apply Kept.drew | refine Kept.setCell ?_ (.inr GW606.out) _) | exact HK.out)).1) : w.heap.size ≤ gb607)); replace HK := A0_ (Kept.below (S := (fun k_ => P0_1_ k_ ∨ P1_1_ k_)) (by repeat (first | (with_reducible first | exact HK.out | apply Kept.alloc | apply Kept.drewN | apply Kept.drew | refine Kept.setCell ?_ (.inr GW606.out) _) | exact HK.out)) hb); have GE607 := A0_ ((by rw [hg]; exact (below_size qz_) : w0.heap.size ≤ gb607)); replace HB := hs_ hb; have NB606_607 := nl_ hg BK606; have NB607_606 := ng_ hg BK606; replace BK606 := bb_ BK606 hb; clear hb hbox hg))
   replace HO0_1 := A0_ (Kd.R_drew HO0_1.out)
   replace HO1_1 := A0_ (Kd.R_drew HO1_1.out)
   replace BK606 := A0_ (blk_drew BK606.out)
   replace BK607 := A0_ (blk_drew BK607.out)
   replace HK := A0_ (Kept.drew HK.out)
   replace HB := A0_ (below_drew1 HB.out)
   refine start_ (n := 6) (S := fun w' => w'.cell? ⟨gb606, 0, none⟩ = some (.bool a0_0) ∧ w'.cell? ⟨gb606, 1, none⟩ = some (.slice Ao7 l0_1.length co7) ∧ w'.cell? ⟨gb606, 2, none⟩ = some (.int .i64 a0_2) ∧ w'.cell? ⟨gb607, 0, none⟩ = some (.bool a1_0) ∧ w'.cell? ⟨gb607, 1, none⟩ = some (.slice Ao9 l1_1.length co9) ∧ w'.cell? ⟨gb607, 2, none⟩ = some (.int .i64 a1_2)) (ds := []) #[false, false, false, false, false, false] (by kernel_rfl) rfl rfl ⟨bC_ BK606.out 0, bC_ BK606.out 1, bC_ BK606.out 2, bC_ BK607.out 0, bC_ BK607.out 1, bC_ BK607.out 2⟩ (fun hHeld => ?_)
   generalize w10.drew = w11 at HO0_1 HO1_1 BK606 BK607 HK HB hHeld ⊢
   refine take_ (i := 0) (N := some 7) (v := ?_) (a' := ?_) #[true, false, false, false, false, false] rfl rfl (by kernel_rfl) (fun _ _ _ h => h) (Or.inl ⟨by rfl, ?_⟩) hHeld ?_ ?_
   rotate_left
   ·rintro w' ⟨s0, s1, s2, s3, s4, s5⟩
    go_simp
    with_reducible rfl
   rotate_left
   ·simp only [Act.put, sp_, i64_w, i32_w]
    rfl
   refine take_ (i := 2) (N := some 9) (v := ?_) (a' := ?_) #[true, false, true, false, false, false] rfl rfl (by kernel_rfl) (fun _ _ _ h => h) (Or.inl ⟨by rfl, ?_⟩) hHeld ?_ ?_
   rotate_left
   ·rintro w' ⟨s0, s1, s2, s3, s4, s5⟩
    go_simp
    with_reducible rfl
   rotate_left
   ·simp only [Act.put, sp_, i64_w, i32_w]
    rfl
   refine one_ (i := 1) (N := some 8) #[true, true, true, false, false, false] rfl rfl (by kernel_rfl) (by decide) (fun K hK => ?_)
   refine goes_ Try.func102 (by kernel_rfl) rfl #[.agg #[.bool a0_0, .slice Ao7 l0_1.length co7, .int .i64 a0_2]] (by rfl) rfl rfl (am_ rfl) ?_
   with_reducible refine (cutplaneref02_Sign.calls a0_0 _ _ l0_1 a0_2 t608 _ ?side1 ?side2 A3.out).mono ?_
   (case side1 => repeat (first | exact (Kd.R_reads' HO0_1.out).2.2 | (with_reducible refine Kd.C_alloc ?_ _) | (with_reducible refine Kd.C_drewN ?_ _) | (with_reducible refine Kd.C_drew ?_)))
   (case side2 => exact (Kd.R_reads' HO0_1.out).2.1)
   rintro e w12 ⟨rfl, hb⟩
   refine ⟨_, rfl, ?_⟩
   replace HO0_1 := A0_ (Kd.R_below (by exact rm_ HO0_1.out) hb)
   replace HO1_1 := A0_ (Kd.R_below (by exact rm_ HO1_1.out) hb)
   replace BK606 := bb_ BK606 hb
   replace BK607 := bb_ BK607 hb
   replace HK := A0_ (Kept.below (S := (fun k_ => P0_1_ k_ ∨ P1_1_ k_)) (by repeat (first | (with_reducible first | exact HK.out | apply Kept.alloc | apply Kept.drewN | apply Kept.drew | refine Kept.setCell ?_ (.inr GW606.out) _ | refine Kept.setCell ?_ (.inr GW607.out) _) | exact HK.out)) hb)
   replace HB := hs_ hb
   (try clear hb)
   refine hK.out _ _ ⟨bC_ BK606.out 0, bC_ BK606.out 1, bC_ BK606.out 2, bC_ BK607.out 0, bC_ BK607.out 1, bC_ BK607.out 2⟩ (fun hHeld => ?_)
   clear hK K
   refine norm_ (a' := ?_) ?_ ?_
   rotate_left
   ·show Act.put _ (some 8) _ = _
    simp only [Act.put, sp_, i64_w, i32_w]
    rfl
   refine one_ (i := 3) (N := some 10) #[true, true, true, true, false, false] rfl rfl (by kernel_rfl) (by decide) (fun K hK => ?_)
   refine goes_ Try.func102 (by kernel_rfl) rfl #[.agg #[.bool a1_0, .slice Ao9 l1_1.length co9, .int .i64 a1_2]] (by rfl) rfl rfl (am_ rfl) ?_
   with_reducible refine (cutplaneref02_Sign.calls a1_0 _ _ l1_1 a1_2 t609 _ ?side1 ?side2 A4.out).mono ?_
   (case side1 => repeat (first | exact (Kd.R_reads' HO1_1.out).2.2 | (with_reducible refine Kd.C_alloc ?_ _) | (with_reducible refine Kd.C_drewN ?_ _) | (with_reducible refine Kd.C_drew ?_)))
   (case side2 => exact (Kd.R_reads' HO1_1.out).2.1)
   rintro e w13 ⟨rfl, hb⟩
   refine ⟨_, rfl, ?_⟩
   replace HO0_1 := A0_ (Kd.R_below (by exact rm_ HO0_1.out) hb)
   replace HO1_1 := A0_ (Kd.R_below (by exact rm_ HO1_1.out) hb)
   replace BK606 := bb_ BK606 hb
   replace BK607 := bb_ BK607 hb
   replace HK := A0_ (Kept.below (S := (fun k_ => P0_1_ k_ ∨ P1_1_ k_)) (by repeat (first | (with_reducible first | exact HK.out | apply Kept.alloc | apply Kept.drewN | apply Kept.drew | refine Kept.setCell ?_ (.inr GW606.out) _ | refine Kept.setCell ?_ (.inr GW607.out) _) | exact HK.out)) hb)
   replace HB := hs_ hb
   (try clear hb)
   refine hK.out _ _ ⟨bC_ BK606.out 0, bC_ BK606.out 1, bC_ BK606.out 2, bC_ BK607.out 0, bC_ BK607.out 1, bC_ BK607.out 2⟩ (fun hHeld => ?_)
   clear hK K
   refine norm_ (a' := ?_) ?_ ?_
   rotate_left
   ·show Act.put _ (some 10) _ = _
    simp only [Act.put, sp_, i64_w, i32_w]
    rfl
   refine pure_ (i := 4) (N := some 5) (v := ?_) (a' := ?_) #[true, true, true, true, true, false] rfl rfl (by kernel_rfl) (fun _ _ _ h => h) (Or.inl ⟨by rfl, ?_⟩) ?_ ?_
   rotate_left
   ·intro w'
    go_simp
    with_reducible rfl
   rotate_left
   ·simp only [Act.put, sp_, i64_w, i32_w]
    rfl
   refine pure_ (i := 5) (N := some 6) (v := ?_) (a' := ?_) #[true, true, true, true, true, true] rfl rfl (by kernel_rfl) (fun _ _ _ h => h) (Or.inl ⟨by rfl, ?_⟩) ?_ ?_
   rotate_left
   ·intro w'
    go_simp
    with_reducible rfl
   rotate_left
   ·simp only [Act.put, sp_, i64_w, i32_w]
    rfl
   refine done_ (by kernel_rfl) ?_
   try go_wp2
   go_ret
   exact ⟨by first | rfl | (simp [errW_none, errW_some] <;> rfl) | (simp [*, errW_none, errW_some] <;> rfl), by repeat with_reducible first | exact qm_ HB.out | apply qA_ | apply qN_ | apply qD_ | refine bS_ ?_ (by assumption), by repeat (first | (with_reducible first | exact HK.out | apply Kept.alloc | apply Kept.drewN | apply Kept.drew | refine Kept.setCell ?_ (.inr GW606.out) _ | refine Kept.setCell ?_ (.inr GW607.out) _) | exact HK.out)⟩
  ·rw [if_neg c6] at H
   have c6b0 : (t608 == 0) = false := beq_eq_false_iff_ne.mpr c6
   have c6b1 : (t608 != 0) = true := bne_iff_ne.mpr c6
   obtain ⟨t610, A14, H⟩ := bs_ H
   try dsimp -simprocs only at H
   obtain ⟨t611, A15, H⟩ := bs_ H
   try dsimp -simprocs only at H
   by_cases c16 : t610 = t611
   ·rw [if_pos c16] at H
    have c16b0 : (t610 == t611) = true := beq_iff_eq.mpr c16
    have c16b1 : (t610 != t611) = false := bne_eq_false_iff_eq.mpr c16
    clear c16
    obtain ⟨⟨t612, t613, t616⟩, A17, H⟩ := bs_ H
    try dsimp -simprocs only at H
    obtain ⟨t617, A18, H⟩ := bs_ H
    try dsimp -simprocs only at H
    obtain rfl := Option.some.inj H
    obtain ⟨Ao19, co19, eo19⟩ := Kd.R_slice HO0_1.out
    subst eo19
    go_enter Try.func85, Try.ntmps85
    try go_wp2_with (first | ((with_reducible refine gate_dst (N := 2) rfl ?_); refine box_event ?hg (N := 2) ?hd (cs := #[.bool a0_0, .slice Ao19 l0_1.length co19, .int .i64 a0_2]) (t := 124) ?hr ?_; (case hd => rfl); (case hg => rfl); (case hr => first | (go_simp; done) | (go_simp; rfl)); intro gb606 hg w20 hbox hb; replace HO0_1 := A0_ (Kd.R_below (by exact rm_ HO0_1.out) hb); replace HO1_1 := A0_ (Kd.R_below (by exact rm_ HO1_1.out) hb); have BK606 := A0_ (hbox); have GW606 := A0_ ((by rw [hg]; exact (by first | exact HK.out.1 | exact (show Kept w _ (fun k_ => P0_1_ k_ ∨ P1_1_ k_) from by repeat (first | (with_reducible first | exact HK.out | apply Kept.alloc | apply Kept.drewN | apply Kept.drew) | exact HK.out)).1) : w.heap.size ≤ gb606)); replace HK := A0_ (Kept.below (S := (fun k_ => P0_1_ k_ ∨ P1_1_ k_)) (by repeat (first | (with_reducible first | exact HK.out | apply Kept.alloc | apply Kept.drewN | apply Kept.drew) | exact HK.out)) hb); have GE606 := A0_ ((by rw [hg]; exact (below_size (qm_ HB.out)) : w0.heap.size ≤ gb606)); replace HB := hs_ hb; clear hb hbox hg; obtain ⟨Ao21, co21, eo21⟩ := Kd.R_slice HO1_1.out; subst eo21) | ((with_reducible refine gate_dst (N := 3) rfl ?_); refine box_event ?hg (N := 3) ?hd (cs := #[.bool a1_0, .slice Ao21 l1_1.length co21, .int .i64 a1_2]) (t := 124) ?hr ?_; (case hd => rfl); (case hg => rfl); (case hr => first | (go_simp; done) | (go_simp; rfl)); intro gb607 hg w22 hbox hb; replace HO0_1 := A0_ (Kd.R_below (by exact rm_ HO0_1.out) hb); replace HO1_1 := A0_ (Kd.R_below (by exact rm_ HO1_1.out) hb); have BK607 := A0_ (hbox); have GW607 := A0_ ((by rw [hg]; exact (by first | exact HK.out.1 | exact (show Kept w _ (fun k_ => P0_1_ k_ ∨ P1_1_ k_) from by repeat (first | (with_reducible first | exact HK.out | apply Kept.alloc | apply Kept.drewN | apply Kept.drew | refine Kept.setCell ?_ (.inr GW606.out) _) | exact HK.out)).1) : w.heap.size ≤ gb607)); replace HK := A0_ (Kept.below (S := (fun k_ => P0_1_ k_ ∨ P1_1_ k_)) (by repeat (first | (with_reducible first | exact HK.out | apply Kept.alloc | apply Kept.drewN | apply Kept.drew | refine Kept.setCell ?_ (.inr GW606.out) _) | exact HK.out)) hb); have GE607 := A0_ ((by rw [hg]; exact (below_size qz_) : w0.heap.size ≤ gb607)); replace HB := hs_ hb; have NB606_607 := nl_ hg BK606; have NB607_606 := ng_ hg BK606; replace BK606 := bb_ BK606 hb; clear hb hbox hg))
    replace HO0_1 := A0_ (Kd.R_drew HO0_1.out)
    replace HO1_1 := A0_ (Kd.R_drew HO1_1.out)
    replace BK606 := A0_ (blk_drew BK606.out)
    replace BK607 := A0_ (blk_drew BK607.out)
    replace HK := A0_ (Kept.drew HK.out)
    replace HB := A0_ (below_drew1 HB.out)
    refine start_ (n := 6) (S := fun w' => w'.cell? ⟨gb606, 0, none⟩ = some (.bool a0_0) ∧ w'.cell? ⟨gb606, 1, none⟩ = some (.slice Ao19 l0_1.length co19) ∧ w'.cell? ⟨gb606, 2, none⟩ = some (.int .i64 a0_2) ∧ w'.cell? ⟨gb607, 0, none⟩ = some (.bool a1_0) ∧ w'.cell? ⟨gb607, 1, none⟩ = some (.slice Ao21 l1_1.length co21) ∧ w'.cell? ⟨gb607, 2, none⟩ = some (.int .i64 a1_2)) (ds := []) #[false, false, false, false, false, false] (by kernel_rfl) rfl rfl ⟨bC_ BK606.out 0, bC_ BK606.out 1, bC_ BK606.out 2, bC_ BK607.out 0, bC_ BK607.out 1, bC_ BK607.out 2⟩ (fun hHeld => ?_)
    generalize w22.drew = w23 at HO0_1 HO1_1 BK606 BK607 HK HB hHeld ⊢
    refine take_ (i := 0) (N := some 7) (v := ?_) (a' := ?_) #[true, false, false, false, false, false] rfl rfl (by kernel_rfl) (fun _ _ _ h => h) (Or.inl ⟨by rfl, ?_⟩) hHeld ?_ ?_
    rotate_left
    ·rintro w' ⟨s0, s1, s2, s3, s4, s5⟩
     go_simp
     with_reducible rfl
    rotate_left
    ·simp only [Act.put, sp_, i64_w, i32_w]
     rfl
    refine take_ (i := 2) (N := some 9) (v := ?_) (a' := ?_) #[true, false, true, false, false, false] rfl rfl (by kernel_rfl) (fun _ _ _ h => h) (Or.inl ⟨by rfl, ?_⟩) hHeld ?_ ?_
    rotate_left
    ·rintro w' ⟨s0, s1, s2, s3, s4, s5⟩
     go_simp
     with_reducible rfl
    rotate_left
    ·simp only [Act.put, sp_, i64_w, i32_w]
     rfl
    refine one_ (i := 1) (N := some 8) #[true, true, true, false, false, false] rfl rfl (by kernel_rfl) (by decide) (fun K hK => ?_)
    refine goes_ Try.func102 (by kernel_rfl) rfl #[.agg #[.bool a0_0, .slice Ao19 l0_1.length co19, .int .i64 a0_2]] (by rfl) rfl rfl (am_ rfl) ?_
    with_reducible refine (cutplaneref02_Sign.calls a0_0 _ _ l0_1 a0_2 t608 _ ?side1 ?side2 A3.out).mono ?_
    (case side1 => repeat (first | exact (Kd.R_reads' HO0_1.out).2.2 | (with_reducible refine Kd.C_alloc ?_ _) | (with_reducible refine Kd.C_drewN ?_ _) | (with_reducible refine Kd.C_drew ?_)))
    (case side2 => exact (Kd.R_reads' HO0_1.out).2.1)
    rintro e w24 ⟨rfl, hb⟩
    refine ⟨_, rfl, ?_⟩
    replace HO0_1 := A0_ (Kd.R_below (by exact rm_ HO0_1.out) hb)
    replace HO1_1 := A0_ (Kd.R_below (by exact rm_ HO1_1.out) hb)
    replace BK606 := bb_ BK606 hb
    replace BK607 := bb_ BK607 hb
    replace HK := A0_ (Kept.below (S := (fun k_ => P0_1_ k_ ∨ P1_1_ k_)) (by repeat (first | (with_reducible first | exact HK.out | apply Kept.alloc | apply Kept.drewN | apply Kept.drew | refine Kept.setCell ?_ (.inr GW606.out) _ | refine Kept.setCell ?_ (.inr GW607.out) _) | exact HK.out)) hb)
    replace HB := hs_ hb
    (try clear hb)
    refine hK.out _ _ ⟨bC_ BK606.out 0, bC_ BK606.out 1, bC_ BK606.out 2, bC_ BK607.out 0, bC_ BK607.out 1, bC_ BK607.out 2⟩ (fun hHeld => ?_)
    clear hK K
    refine norm_ (a' := ?_) ?_ ?_
    rotate_left
    ·show Act.put _ (some 8) _ = _
     simp only [Act.put, sp_, i64_w, i32_w]
     rfl
    refine one_ (i := 3) (N := some 10) #[true, true, true, true, false, false] rfl rfl (by kernel_rfl) (by decide) (fun K hK => ?_)
    refine goes_ Try.func102 (by kernel_rfl) rfl #[.agg #[.bool a1_0, .slice Ao21 l1_1.length co21, .int .i64 a1_2]] (by rfl) rfl rfl (am_ rfl) ?_
    with_reducible refine (cutplaneref02_Sign.calls a1_0 _ _ l1_1 a1_2 t609 _ ?side1 ?side2 A4.out).mono ?_
    (case side1 => repeat (first | exact (Kd.R_reads' HO1_1.out).2.2 | (with_reducible refine Kd.C_alloc ?_ _) | (with_reducible refine Kd.C_drewN ?_ _) | (with_reducible refine Kd.C_drew ?_)))
    (case side2 => exact (Kd.R_reads' HO1_1.out).2.1)
    rintro e w25 ⟨rfl, hb⟩
    refine ⟨_, rfl, ?_⟩
    replace HO0_1 := A0_ (Kd.R_below (by exact rm_ HO0_1.out) hb)
    replace HO1_1 := A0_ (Kd.R_below (by exact rm_ HO1_1.out) hb)
    replace BK606 := bb_ BK606 hb
    replace BK607 := bb_ BK607 hb
    replace HK := A0_ (Kept.below (S := (fun k_ => P0_1_ k_ ∨ P1_1_ k_)) (by repeat (first | (with_reducible first | exact HK.out | apply Kept.alloc | apply Kept.drewN | apply Kept.drew | refine Kept.setCell ?_ (.inr GW606.out) _ | refine Kept.setCell ?_ (.inr GW607.out) _) | exact HK.out)) hb)
    replace HB := hs_ hb
    (try clear hb)
    refine hK.out _ _ ⟨bC_ BK606.out 0, bC_ BK606.out 1, bC_ BK606.out 2, bC_ BK607.out 0, bC_ BK607.out 1, bC_ BK607.out 2⟩ (fun hHeld => ?_)
    clear hK K
    refine norm_ (a' := ?_) ?_ ?_
    rotate_left
    ·show Act.put _ (some 10) _ = _
     simp only [Act.put, sp_, i64_w, i32_w]
     rfl
    refine pure_ (i := 4) (N := some 5) (v := ?_) (a' := ?_) #[true, true, true, true, true, false] rfl rfl (by kernel_rfl) (fun _ _ _ h => h) (Or.inl ⟨by rfl, ?_⟩) ?_ ?_
    rotate_left
    ·intro w'
     go_simp
     with_reducible rfl
    rotate_left
    ·simp only [Act.put, sp_, i64_w, i32_w]
     rfl
    refine pure_ (i := 5) (N := some 6) (v := ?_) (a' := ?_) #[true, true, true, true, true, true] rfl rfl (by kernel_rfl) (fun _ _ _ h => h) (Or.inl ⟨by rfl, ?_⟩) ?_ ?_
    rotate_left
    ·intro w'
     go_simp
     with_reducible rfl
    rotate_left
    ·simp only [Act.put, sp_, i64_w, i32_w]
     rfl
    refine done_ (by kernel_rfl) ?_
    try go_wp2
    replace HO0_1 := A0_ (Kd.R_drew HO0_1.out)
    replace HO1_1 := A0_ (Kd.R_drew HO1_1.out)
    replace BK606 := A0_ (blk_drew BK606.out)
    replace BK607 := A0_ (blk_drew BK607.out)
    replace HK := A0_ (Kept.drew HK.out)
    replace HB := A0_ (below_drew1 HB.out)
    refine start_ (n := 5) (S := fun w' => w'.cell? ⟨gb606, 0, none⟩ = some (.bool a0_0) ∧ w'.cell? ⟨gb606, 1, none⟩ = some (.slice Ao19 l0_1.length co19) ∧ w'.cell? ⟨gb606, 2, none⟩ = some (.int .i64 a0_2) ∧ w'.cell? ⟨gb607, 0, none⟩ = some (.bool a1_0) ∧ w'.cell? ⟨gb607, 1, none⟩ = some (.slice Ao21 l1_1.length co21) ∧ w'.cell? ⟨gb607, 2, none⟩ = some (.int .i64 a1_2)) (ds := []) #[false, false, false, false, false] (by kernel_rfl) rfl rfl ⟨bC_ BK606.out 0, bC_ BK606.out 1, bC_ BK606.out 2, bC_ BK607.out 0, bC_ BK607.out 1, bC_ BK607.out 2⟩ (fun hHeld => ?_)
    generalize w25.drew = w26 at HO0_1 HO1_1 BK606 BK607 HK HB hHeld ⊢
    refine take_ (i := 0) (N := some 19) (v := ?_) (a' := ?_) #[true, false, false, false, false] rfl rfl (by kernel_rfl) (fun _ _ _ h => h) (Or.inl ⟨by rfl, ?_⟩) hHeld ?_ ?_
    rotate_left
    ·rintro w' ⟨s0, s1, s2, s3, s4, s5⟩
     go_simp
     with_reducible rfl
    rotate_left
    ·simp only [Act.put, sp_, i64_w, i32_w]
     rfl
    refine take_ (i := 2) (N := some 21) (v := ?_) (a' := ?_) #[true, false, true, false, false] rfl rfl (by kernel_rfl) (fun _ _ _ h => h) (Or.inl ⟨by rfl, ?_⟩) hHeld ?_ ?_
    rotate_left
    ·rintro w' ⟨s0, s1, s2, s3, s4, s5⟩
     go_simp
     with_reducible rfl
    rotate_left
    ·simp only [Act.put, sp_, i64_w, i32_w]
     rfl
    refine one_ (i := 1) (N := some 20) #[true, true, true, false, false] rfl rfl (by kernel_rfl) (by decide) (fun K hK => ?_)
    refine goes_ Try.func103 (by kernel_rfl) rfl #[.agg #[.bool a0_0, .slice Ao19 l0_1.length co19, .int .i64 a0_2]] (by rfl) rfl rfl (am_ rfl) ?_
    with_reducible refine (cutplaneref02_Top.calls k a0_0 _ _ l0_1 a0_2 t610 _ ?side1 ?side2 A14.out).mono ?_
    (case side1 => repeat (first | exact (Kd.R_reads' HO0_1.out).2.2 | (with_reducible refine Kd.C_alloc ?_ _) | (with_reducible refine Kd.C_drewN ?_ _) | (with_reducible refine Kd.C_drew ?_)))
    (case side2 => exact (Kd.R_reads' HO0_1.out).2.1)
    rintro e w27 ⟨rfl, hb⟩
    refine ⟨_, rfl, ?_⟩
    replace HO0_1 := A0_ (Kd.R_below (by exact rm_ HO0_1.out) hb)
    replace HO1_1 := A0_ (Kd.R_below (by exact rm_ HO1_1.out) hb)
    replace BK606 := bb_ BK606 hb
    replace BK607 := bb_ BK607 hb
    replace HK := A0_ (Kept.below (S := (fun k_ => P0_1_ k_ ∨ P1_1_ k_)) (by repeat (first | (with_reducible first | exact HK.out | apply Kept.alloc | apply Kept.drewN | apply Kept.drew | refine Kept.setCell ?_ (.inr GW606.out) _ | refine Kept.setCell ?_ (.inr GW607.out) _) | exact HK.out)) hb)
    replace HB := hs_ hb
    (try clear hb)
    refine hK.out _ _ ⟨bC_ BK606.out 0, bC_ BK606.out 1, bC_ BK606.out 2, bC_ BK607.out 0, bC_ BK607.out 1, bC_ BK607.out 2⟩ (fun hHeld => ?_)
    clear hK K
    refine norm_ (a' := ?_) ?_ ?_
    rotate_left
    ·show Act.put _ (some 20) _ = _
     simp only [Act.put, sp_, i64_w, i32_w]
     rfl
    refine one_ (i := 3) (N := some 22) #[true, true, true, true, false] rfl rfl (by kernel_rfl) (by decide) (fun K hK => ?_)
    refine goes_ Try.func103 (by kernel_rfl) rfl #[.agg #[.bool a1_0, .slice Ao21 l1_1.length co21, .int .i64 a1_2]] (by rfl) rfl rfl (am_ rfl) ?_
    with_reducible refine (cutplaneref02_Top.calls k a1_0 _ _ l1_1 a1_2 t611 _ ?side1 ?side2 A15.out).mono ?_
    (case side1 => repeat (first | exact (Kd.R_reads' HO1_1.out).2.2 | (with_reducible refine Kd.C_alloc ?_ _) | (with_reducible refine Kd.C_drewN ?_ _) | (with_reducible refine Kd.C_drew ?_)))
    (case side2 => exact (Kd.R_reads' HO1_1.out).2.1)
    rintro e w28 ⟨rfl, hb⟩
    refine ⟨_, rfl, ?_⟩
    replace HO0_1 := A0_ (Kd.R_below (by exact rm_ HO0_1.out) hb)
    replace HO1_1 := A0_ (Kd.R_below (by exact rm_ HO1_1.out) hb)
    replace BK606 := bb_ BK606 hb
    replace BK607 := bb_ BK607 hb
    replace HK := A0_ (Kept.below (S := (fun k_ => P0_1_ k_ ∨ P1_1_ k_)) (by repeat (first | (with_reducible first | exact HK.out | apply Kept.alloc | apply Kept.drewN | apply Kept.drew | refine Kept.setCell ?_ (.inr GW606.out) _ | refine Kept.setCell ?_ (.inr GW607.out) _) | exact HK.out)) hb)
    replace HB := hs_ hb
    (try clear hb)
    refine hK.out _ _ ⟨bC_ BK606.out 0, bC_ BK606.out 1, bC_ BK606.out 2, bC_ BK607.out 0, bC_ BK607.out 1, bC_ BK607.out 2⟩ (fun hHeld => ?_)
    clear hK K
    refine norm_ (a' := ?_) ?_ ?_
    rotate_left
    ·show Act.put _ (some 22) _ = _
     simp only [Act.put, sp_, i64_w, i32_w]
     rfl
    refine pure_ (i := 4) (N := some 23) (v := ?_) (a' := ?_) #[true, true, true, true, true] rfl rfl (by kernel_rfl) (fun _ _ _ h => h) (Or.inl ⟨by rfl, ?_⟩) ?_ ?_
    rotate_left
    ·intro w'
     go_simp
     with_reducible rfl
    rotate_left
    ·simp only [Act.put, sp_, i64_w, i32_w]
     rfl
    refine done_ (by kernel_rfl) ?_
    have hnb29 := NB606_607.out
    have hnc29 := NB607_606.out
    have hcz30 := bc3_ BK606.out
    have hfz30 := bf3_ BK606.out
    have hcz31 := bc3_ BK607.out
    have hfz31 := bf3_ BK607.out
    try go_wp2_with (first | ((with_reducible refine gate_callee (f := 104) rfl ?_); refine goesL_ (some 34) rfl rfl Try.func104 (by kernel_rfl) rfl #[.agg #[.bool a0_0, .slice Ao19 l0_1.length co19, .int .i64 a0_2], .agg #[.bool a1_0, .slice Ao21 l1_1.length co21, .int .i64 a1_2]] rfl (am_ rfl) ?_; (with_reducible refine (cutplaneref02_Sub.calls k a0_0 (fun k_ => some k_ = (.slice Ao19 l0_1.length co19 : Value).ownBlock) (.slice Ao19 l0_1.length co19) l0_1 a0_2 a1_0 (fun k_ => some k_ = (.slice Ao21 l1_1.length co21 : Value).ownBlock) (.slice Ao21 l1_1.length co21) l1_1 a1_2 t612 t613 t616 w0 _ ?side1 ?side2 ?side3 ?side4 ?side5 A17.out).mono ?_); (case side1 => repeat with_reducible first | exact HB.out | apply below_alloc | apply pw_below_drewN | apply below_drew1 | refine bS_ ?_ (by assumption)); (case side2 => exact Kd.R_tight rfl HO0_1.out); (case side3 => exact fun k_ e_ => (HO0_1.out.1 k_ e_.symm).2); (case side4 => exact Kd.R_tight rfl HO1_1.out); (case side5 => exact fun k_ e_ => (HO1_1.out.1 k_ e_.symm).2); rintro e w32 ⟨v614, rfl, ho0, hb, hkp⟩; refine ⟨_, rfl, ?_⟩; replace BK606 := A0_ (blk_kept (bm_ BK606.out) hkp (fun hs_ => Or.elim hs_ (fun e_ => (fun e_ => (Kd.R_ne HO0_1.out BK606.out (by decide)) e_) e_) (fun e_ => (fun e_ => (Kd.R_ne HO1_1.out BK606.out (by decide)) e_) e_))); replace BK607 := A0_ (blk_kept (bm_ BK607.out) hkp (fun hs_ => Or.elim hs_ (fun e_ => (fun e_ => (Kd.R_ne HO0_1.out BK607.out (by decide)) e_) e_) (fun e_ => (fun e_ => (Kd.R_ne HO1_1.out BK607.out (by decide)) e_) e_))); have HO615 := A0_ (Kd.R_mono (ok' := fun k_ => ((P0_1_ k_ ∨ P1_1_ k_) ∨ w.heap.size ≤ k_)) ho0 (fun k_ hk_ => Or.elim hk_ (fun hs_ => Or.elim hs_ (fun hs_ => (HO0_1.out.1 k_ (hs_).symm).1) (fun hs_ => (HO1_1.out.1 k_ (hs_).symm).1)) (fun hn_ => (.inr (Nat.le_trans (by first | exact HK.out.1 | exact (show Kept w _ (fun k_ => P0_1_ k_ ∨ P1_1_ k_) from by repeat (first | (with_reducible first | exact HK.out | apply Kept.alloc | apply Kept.drewN | apply Kept.drew | refine Kept.setCell ?_ (.inr GW606.out) _ | refine Kept.setCell ?_ (.inr GW607.out) _) | exact HK.out)).1) hn_))))); replace HK := A0_ (Kept.then_ (S := (fun k_ => P0_1_ k_ ∨ P1_1_ k_)) (by repeat (first | (with_reducible first | exact HK.out | apply Kept.alloc | apply Kept.drewN | apply Kept.drew | refine Kept.setCell ?_ (.inr GW606.out) _ | refine Kept.setCell ?_ (.inr GW607.out) _) | exact HK.out)) hkp (fun k_ hs_ => Or.elim hs_ (fun e_ => (fun e_ => (HO0_1.out.1 k_ e_.symm).1) e_) (fun e_ => (fun e_ => (HO1_1.out.1 k_ e_.symm).1) e_))); replace HB := A0_ (hb); clear HO0_1 HO1_1; (try clear hb); (try clear hkp); (try clear ho0); obtain ⟨Ao33, co33, eo33⟩ := Kd.R_slice HO615.out; subst eo33) | ((with_reducible refine gate_callee (f := 102) rfl ?_); refine goesL_ (some 35) rfl rfl Try.func102 (by kernel_rfl) rfl #[.agg #[.bool t612, .slice Ao33 t613.length co33, .int .i64 t616]] rfl (am_ rfl) ?_; (with_reducible refine (cutplaneref02_Sign.calls t612 _ _ t613 t616 t617 _ ?side1 ?side2 A18.out).mono ?_); (case side1 => repeat (first | exact (Kd.R_reads' HO615.out).2.2 | (with_reducible refine Kd.C_alloc ?_ _) | (with_reducible refine Kd.C_drewN ?_ _) | (with_reducible refine Kd.C_drew ?_))); (case side2 => exact (Kd.R_reads' HO615.out).2.1); rintro e w34 ⟨rfl, hb⟩; refine ⟨_, rfl, ?_⟩; replace HO615 := A0_ (Kd.R_below (by exact rm_ HO615.out) hb); replace BK606 := bb_ BK606 hb; replace BK607 := bb_ BK607 hb; replace HK := A0_ (Kept.below (S := (fun k_ => P0_1_ k_ ∨ P1_1_ k_)) (by repeat (first | (with_reducible first | exact HK.out | apply Kept.alloc | apply Kept.drewN | apply Kept.drew | refine Kept.setCell ?_ (.inr GW606.out) _ | refine Kept.setCell ?_ (.inr GW607.out) _) | exact HK.out)) hb); replace HB := hs_ hb; (try clear hb)))
    go_ret
    exact ⟨by first | rfl | (simp [errW_none, errW_some] <;> rfl) | (simp [*, errW_none, errW_some] <;> rfl), by repeat with_reducible first | exact qm_ HB.out | apply qA_ | apply qN_ | apply qD_ | refine bS_ ?_ (by assumption), by repeat (first | (with_reducible first | exact HK.out | apply Kept.alloc | apply Kept.drewN | apply Kept.drew | refine Kept.setCell ?_ (.inr GW606.out) _ | refine Kept.setCell ?_ (.inr GW607.out) _) | exact HK.out)⟩
   ·rw [if_neg c16] at H
    have c16b0 : (t610 == t611) = false := beq_eq_false_iff_ne.mpr c16
    have c16b1 : (t610 != t611) = true := bne_iff_ne.mpr c16
    obtain ⟨t618, A35, H⟩ := bs_ H
    try dsimp -simprocs only at H
    obtain ⟨t619, A36, H⟩ := bs_ H
    try dsimp -simprocs only at H
    by_cases c37 : ((decide (t618 < t619)) == (decide (t608 > 0))) = true
    ·rw [if_pos c37] at H
     have c37b0 : ((decide (t618 < t619)) == (decide (t608 > 0))) = true := c37
     (try (have c37b1 : decide ((decide (t618 < t619)) = (decide (t608 > 0))) = true := by simpa using c37))
     (try (have c37b2 : ((decide (t618 < t619)) == (decide (t608 > 0))) = true := by simpa using c37))
     clear c37
     obtain rfl := Option.some.inj H
     obtain ⟨Ao38, co38, eo38⟩ := Kd.R_slice HO0_1.out
     subst eo38
     go_enter Try.func85, Try.ntmps85
     try go_wp2_with (first | ((with_reducible refine gate_dst (N := 2) rfl ?_); refine box_event ?hg (N := 2) ?hd (cs := #[.bool a0_0, .slice Ao38 l0_1.length co38, .int .i64 a0_2]) (t := 124) ?hr ?_; (case hd => rfl); (case hg => rfl); (case hr => first | (go_simp; done) | (go_simp; rfl)); intro gb606 hg w39 hbox hb; replace HO0_1 := A0_ (Kd.R_below (by exact rm_ HO0_1.out) hb); replace HO1_1 := A0_ (Kd.R_below (by exact rm_ HO1_1.out) hb); have BK606 := A0_ (hbox); have GW606 := A0_ ((by rw [hg]; exact (by first | exact HK.out.1 | exact (show Kept w _ (fun k_ => P0_1_ k_ ∨ P1_1_ k_) from by repeat (first | (with_reducible first | exact HK.out | apply Kept.alloc | apply Kept.drewN | apply Kept.drew) | exact HK.out)).1) : w.heap.size ≤ gb606)); replace HK := A0_ (Kept.below (S := (fun k_ => P0_1_ k_ ∨ P1_1_ k_)) (by repeat (first | (with_reducible first | exact HK.out | apply Kept.alloc | apply Kept.drewN | apply Kept.drew) | exact HK.out)) hb); have GE606 := A0_ ((by rw [hg]; exact (below_size (qm_ HB.out)) : w0.heap.size ≤ gb606)); replace HB := hs_ hb; clear hb hbox hg; obtain ⟨Ao40, co40, eo40⟩ := Kd.R_slice HO1_1.out; subst eo40) | ((with_reducible refine gate_dst (N := 3) rfl ?_); refine box_event ?hg (N := 3) ?hd (cs := #[.bool a1_0, .slice Ao40 l1_1.length co40, .int .i64 a1_2]) (t := 124) ?hr ?_; (case hd => rfl); (case hg => rfl); (case hr => first | (go_simp; done) | (go_simp; rfl)); intro gb607 hg w41 hbox hb; replace HO0_1 := A0_ (Kd.R_below (by exact rm_ HO0_1.out) hb); replace HO1_1 := A0_ (Kd.R_below (by exact rm_ HO1_1.out) hb); have BK607 := A0_ (hbox); have GW607 := A0_ ((by rw [hg]; exact (by first | exact HK.out.1 | exact (show Kept w _ (fun k_ => P0_1_ k_ ∨ P1_1_ k_) from by repeat (first | (with_reducible first | exact HK.out | apply Kept.alloc | apply Kept.drewN | apply Kept.drew | refine Kept.setCell ?_ (.inr GW606.out) _) | exact HK.out)).1) : w.heap.size ≤ gb607)); replace HK := A0_ (Kept.below (S := (fun k_ => P0_1_ k_ ∨ P1_1_ k_)) (by repeat (first | (with_reducible first | exact HK.out | apply Kept.alloc | apply Kept.drewN | apply Kept.drew | refine Kept.setCell ?_ (.inr GW606.out) _) | exact HK.out)) hb); have GE607 := A0_ ((by rw [hg]; exact (below_size qz_) : w0.heap.size ≤ gb607)); replace HB := hs_ hb; have NB606_607 := nl_ hg BK606; have NB607_606 := ng_ hg BK606; replace BK606 := bb_ BK606 hb; clear hb hbox hg))
     replace HO0_1 := A0_ (Kd.R_drew HO0_1.out)
     replace HO1_1 := A0_ (Kd.R_drew HO1_1.out)
     replace BK606 := A0_ (blk_drew BK606.out)
     replace BK607 := A0_ (blk_drew BK607.out)
     replace HK := A0_ (Kept.drew HK.out)
     replace HB := A0_ (below_drew1 HB.out)
     refine start_ (n := 6) (S := fun w' => w'.cell? ⟨gb606, 0, none⟩ = some (.bool a0_0) ∧ w'.cell? ⟨gb606, 1, none⟩ = some (.slice Ao38 l0_1.length co38) ∧ w'.cell? ⟨gb606, 2, none⟩ = some (.int .i64 a0_2) ∧ w'.cell? ⟨gb607, 0, none⟩ = some (.bool a1_0) ∧ w'.cell? ⟨gb607, 1, none⟩ = some (.slice Ao40 l1_1.length co40) ∧ w'.cell? ⟨gb607, 2, none⟩ = some (.int .i64 a1_2)) (ds := []) #[false, false, false, false, false, false] (by kernel_rfl) rfl rfl ⟨bC_ BK606.out 0, bC_ BK606.out 1, bC_ BK606.out 2, bC_ BK607.out 0, bC_ BK607.out 1, bC_ BK607.out 2⟩ (fun hHeld => ?_)
     generalize w41.drew = w42 at HO0_1 HO1_1 BK606 BK607 HK HB hHeld ⊢
     refine take_ (i := 0) (N := some 7) (v := ?_) (a' := ?_) #[true, false, false, false, false, false] rfl rfl (by kernel_rfl) (fun _ _ _ h => h) (Or.inl ⟨by rfl, ?_⟩) hHeld ?_ ?_
     rotate_left
     ·rintro w' ⟨s0, s1, s2, s3, s4, s5⟩
      go_simp
      with_reducible rfl
     rotate_left
     ·simp only [Act.put, sp_, i64_w, i32_w]
      rfl
     refine take_ (i := 2) (N := some 9) (v := ?_) (a' := ?_) #[true, false, true, false, false, false] rfl rfl (by kernel_rfl) (fun _ _ _ h => h) (Or.inl ⟨by rfl, ?_⟩) hHeld ?_ ?_
     rotate_left
     ·rintro w' ⟨s0, s1, s2, s3, s4, s5⟩
      go_simp
      with_reducible rfl
     rotate_left
     ·simp only [Act.put, sp_, i64_w, i32_w]
      rfl
     refine one_ (i := 1) (N := some 8) #[true, true, true, false, false, false] rfl rfl (by kernel_rfl) (by decide) (fun K hK => ?_)
     refine goes_ Try.func102 (by kernel_rfl) rfl #[.agg #[.bool a0_0, .slice Ao38 l0_1.length co38, .int .i64 a0_2]] (by rfl) rfl rfl (am_ rfl) ?_
     with_reducible refine (cutplaneref02_Sign.calls a0_0 _ _ l0_1 a0_2 t608 _ ?side1 ?side2 A3.out).mono ?_
     (case side1 => repeat (first | exact (Kd.R_reads' HO0_1.out).2.2 | (with_reducible refine Kd.C_alloc ?_ _) | (with_reducible refine Kd.C_drewN ?_ _) | (with_reducible refine Kd.C_drew ?_)))
     (case side2 => exact (Kd.R_reads' HO0_1.out).2.1)
     rintro e w43 ⟨rfl, hb⟩
     refine ⟨_, rfl, ?_⟩
     replace HO0_1 := A0_ (Kd.R_below (by exact rm_ HO0_1.out) hb)
     replace HO1_1 := A0_ (Kd.R_below (by exact rm_ HO1_1.out) hb)
     replace BK606 := bb_ BK606 hb
     replace BK607 := bb_ BK607 hb
     replace HK := A0_ (Kept.below (S := (fun k_ => P0_1_ k_ ∨ P1_1_ k_)) (by repeat (first | (with_reducible first | exact HK.out | apply Kept.alloc | apply Kept.drewN | apply Kept.drew | refine Kept.setCell ?_ (.inr GW606.out) _ | refine Kept.setCell ?_ (.inr GW607.out) _) | exact HK.out)) hb)
     replace HB := hs_ hb
     (try clear hb)
     refine hK.out _ _ ⟨bC_ BK606.out 0, bC_ BK606.out 1, bC_ BK606.out 2, bC_ BK607.out 0, bC_ BK607.out 1, bC_ BK607.out 2⟩ (fun hHeld => ?_)
     clear hK K
     refine norm_ (a' := ?_) ?_ ?_
     rotate_left
     ·show Act.put _ (some 8) _ = _
      simp only [Act.put, sp_, i64_w, i32_w]
      rfl
     refine one_ (i := 3) (N := some 10) #[true, true, true, true, false, false] rfl rfl (by kernel_rfl) (by decide) (fun K hK => ?_)
     refine goes_ Try.func102 (by kernel_rfl) rfl #[.agg #[.bool a1_0, .slice Ao40 l1_1.length co40, .int .i64 a1_2]] (by rfl) rfl rfl (am_ rfl) ?_
     with_reducible refine (cutplaneref02_Sign.calls a1_0 _ _ l1_1 a1_2 t609 _ ?side1 ?side2 A4.out).mono ?_
     (case side1 => repeat (first | exact (Kd.R_reads' HO1_1.out).2.2 | (with_reducible refine Kd.C_alloc ?_ _) | (with_reducible refine Kd.C_drewN ?_ _) | (with_reducible refine Kd.C_drew ?_)))
     (case side2 => exact (Kd.R_reads' HO1_1.out).2.1)
     rintro e w44 ⟨rfl, hb⟩
     refine ⟨_, rfl, ?_⟩
     replace HO0_1 := A0_ (Kd.R_below (by exact rm_ HO0_1.out) hb)
     replace HO1_1 := A0_ (Kd.R_below (by exact rm_ HO1_1.out) hb)
     replace BK606 := bb_ BK606 hb
     replace BK607 := bb_ BK607 hb
     replace HK := A0_ (Kept.below (S := (fun k_ => P0_1_ k_ ∨ P1_1_ k_)) (by repeat (first | (with_reducible first | exact HK.out | apply Kept.alloc | apply Kept.drewN | apply Kept.drew | refine Kept.setCell ?_ (.inr GW606.out) _ | refine Kept.setCell ?_ (.inr GW607.out) _) | exact HK.out)) hb)
     replace HB := hs_ hb
     (try clear hb)
     refine hK.out _ _ ⟨bC_ BK606.out 0, bC_ BK606.out 1, bC_ BK606.out 2, bC_ BK607.out 0, bC_ BK607.out 1, bC_ BK607.out 2⟩ (fun hHeld => ?_)
     clear hK K
     refine norm_ (a' := ?_) ?_ ?_
     rotate_left
     ·show Act.put _ (some 10) _ = _
      simp only [Act.put, sp_, i64_w, i32_w]
      rfl
     refine pure_ (i := 4) (N := some 5) (v := ?_) (a' := ?_) #[true, true, true, true, true, false] rfl rfl (by kernel_rfl) (fun _ _ _ h => h) (Or.inl ⟨by rfl, ?_⟩) ?_ ?_
     rotate_left
     ·intro w'
      go_simp
      with_reducible rfl
     rotate_left
     ·simp only [Act.put, sp_, i64_w, i32_w]
      rfl
     refine pure_ (i := 5) (N := some 6) (v := ?_) (a' := ?_) #[true, true, true, true, true, true] rfl rfl (by kernel_rfl) (fun _ _ _ h => h) (Or.inl ⟨by rfl, ?_⟩) ?_ ?_
     rotate_left
     ·intro w'
      go_simp
      with_reducible rfl
     rotate_left
     ·simp only [Act.put, sp_, i64_w, i32_w]
      rfl
     refine done_ (by kernel_rfl) ?_
     try go_wp2
     replace HO0_1 := A0_ (Kd.R_drew HO0_1.out)
     replace HO1_1 := A0_ (Kd.R_drew HO1_1.out)
     replace BK606 := A0_ (blk_drew BK606.out)
     replace BK607 := A0_ (blk_drew BK607.out)
     replace HK := A0_ (Kept.drew HK.out)
     replace HB := A0_ (below_drew1 HB.out)
     refine start_ (n := 5) (S := fun w' => w'.cell? ⟨gb606, 0, none⟩ = some (.bool a0_0) ∧ w'.cell? ⟨gb606, 1, none⟩ = some (.slice Ao38 l0_1.length co38) ∧ w'.cell? ⟨gb606, 2, none⟩ = some (.int .i64 a0_2) ∧ w'.cell? ⟨gb607, 0, none⟩ = some (.bool a1_0) ∧ w'.cell? ⟨gb607, 1, none⟩ = some (.slice Ao40 l1_1.length co40) ∧ w'.cell? ⟨gb607, 2, none⟩ = some (.int .i64 a1_2)) (ds := []) #[false, false, false, false, false] (by kernel_rfl) rfl rfl ⟨bC_ BK606.out 0, bC_ BK606.out 1, bC_ BK606.out 2, bC_ BK607.out 0, bC_ BK607.out 1, bC_ BK607.out 2⟩ (fun hHeld => ?_)
     generalize w44.drew = w45 at HO0_1 HO1_1 BK606 BK607 HK HB hHeld ⊢
     refine take_ (i := 0) (N := some 19) (v := ?_) (a' := ?_) #[true, false, false, false, false] rfl rfl (by kernel_rfl) (fun _ _ _ h => h) (Or.inl ⟨by rfl, ?_⟩) hHeld ?_ ?_
     rotate_left
     ·rintro w' ⟨s0, s1, s2, s3, s4, s5⟩
      go_simp
      with_reducible rfl
     rotate_left
     ·simp only [Act.put, sp_, i64_w, i32_w]
      rfl
     refine take_ (i := 2) (N := some 21) (v := ?_) (a' := ?_) #[true, false, true, false, false] rfl rfl (by kernel_rfl) (fun _ _ _ h => h) (Or.inl ⟨by rfl, ?_⟩) hHeld ?_ ?_
     rotate_left
     ·rintro w' ⟨s0, s1, s2, s3, s4, s5⟩
      go_simp
      with_reducible rfl
     rotate_left
     ·simp only [Act.put, sp_, i64_w, i32_w]
      rfl
     refine one_ (i := 1) (N := some 20) #[true, true, true, false, false] rfl rfl (by kernel_rfl) (by decide) (fun K hK => ?_)
     refine goes_ Try.func103 (by kernel_rfl) rfl #[.agg #[.bool a0_0, .slice Ao38 l0_1.length co38, .int .i64 a0_2]] (by rfl) rfl rfl (am_ rfl) ?_
     with_reducible refine (cutplaneref02_Top.calls k a0_0 _ _ l0_1 a0_2 t610 _ ?side1 ?side2 A14.out).mono ?_
     (case side1 => repeat (first | exact (Kd.R_reads' HO0_1.out).2.2 | (with_reducible refine Kd.C_alloc ?_ _) | (with_reducible refine Kd.C_drewN ?_ _) | (with_reducible refine Kd.C_drew ?_)))
     (case side2 => exact (Kd.R_reads' HO0_1.out).2.1)
     rintro e w46 ⟨rfl, hb⟩
     refine ⟨_, rfl, ?_⟩
     replace HO0_1 := A0_ (Kd.R_below (by exact rm_ HO0_1.out) hb)
     replace HO1_1 := A0_ (Kd.R_below (by exact rm_ HO1_1.out) hb)
     replace BK606 := bb_ BK606 hb
     replace BK607 := bb_ BK607 hb
     replace HK := A0_ (Kept.below (S := (fun k_ => P0_1_ k_ ∨ P1_1_ k_)) (by repeat (first | (with_reducible first | exact HK.out | apply Kept.alloc | apply Kept.drewN | apply Kept.drew | refine Kept.setCell ?_ (.inr GW606.out) _ | refine Kept.setCell ?_ (.inr GW607.out) _) | exact HK.out)) hb)
     replace HB := hs_ hb
     (try clear hb)
     refine hK.out _ _ ⟨bC_ BK606.out 0, bC_ BK606.out 1, bC_ BK606.out 2, bC_ BK607.out 0, bC_ BK607.out 1, bC_ BK607.out 2⟩ (fun hHeld => ?_)
     clear hK K
     refine norm_ (a' := ?_) ?_ ?_
     rotate_left
     ·show Act.put _ (some 20) _ = _
      simp only [Act.put, sp_, i64_w, i32_w]
      rfl
     refine one_ (i := 3) (N := some 22) #[true, true, true, true, false] rfl rfl (by kernel_rfl) (by decide) (fun K hK => ?_)
     refine goes_ Try.func103 (by kernel_rfl) rfl #[.agg #[.bool a1_0, .slice Ao40 l1_1.length co40, .int .i64 a1_2]] (by rfl) rfl rfl (am_ rfl) ?_
     with_reducible refine (cutplaneref02_Top.calls k a1_0 _ _ l1_1 a1_2 t611 _ ?side1 ?side2 A15.out).mono ?_
     (case side1 => repeat (first | exact (Kd.R_reads' HO1_1.out).2.2 | (with_reducible refine Kd.C_alloc ?_ _) | (with_reducible refine Kd.C_drewN ?_ _) | (with_reducible refine Kd.C_drew ?_)))
     (case side2 => exact (Kd.R_reads' HO1_1.out).2.1)
     rintro e w47 ⟨rfl, hb⟩
     refine ⟨_, rfl, ?_⟩
     replace HO0_1 := A0_ (Kd.R_below (by exact rm_ HO0_1.out) hb)
     replace HO1_1 := A0_ (Kd.R_below (by exact rm_ HO1_1.out) hb)
     replace BK606 := bb_ BK606 hb
     replace BK607 := bb_ BK607 hb
     replace HK := A0_ (Kept.below (S := (fun k_ => P0_1_ k_ ∨ P1_1_ k_)) (by repeat (first | (with_reducible first | exact HK.out | apply Kept.alloc | apply Kept.drewN | apply Kept.drew | refine Kept.setCell ?_ (.inr GW606.out) _ | refine Kept.setCell ?_ (.inr GW607.out) _) | exact HK.out)) hb)
     replace HB := hs_ hb
     (try clear hb)
     refine hK.out _ _ ⟨bC_ BK606.out 0, bC_ BK606.out 1, bC_ BK606.out 2, bC_ BK607.out 0, bC_ BK607.out 1, bC_ BK607.out 2⟩ (fun hHeld => ?_)
     clear hK K
     refine norm_ (a' := ?_) ?_ ?_
     rotate_left
     ·show Act.put _ (some 22) _ = _
      simp only [Act.put, sp_, i64_w, i32_w]
      rfl
     refine pure_ (i := 4) (N := some 23) (v := ?_) (a' := ?_) #[true, true, true, true, true] rfl rfl (by kernel_rfl) (fun _ _ _ h => h) (Or.inl ⟨by rfl, ?_⟩) ?_ ?_
     rotate_left
     ·intro w'
      go_simp
      with_reducible rfl
     rotate_left
     ·simp only [Act.put, sp_, i64_w, i32_w]
      rfl
     refine done_ (by kernel_rfl) ?_
     try go_wp2
     replace HO0_1 := A0_ (Kd.R_drew HO0_1.out)
     replace HO1_1 := A0_ (Kd.R_drew HO1_1.out)
     replace BK606 := A0_ (blk_drew BK606.out)
     replace BK607 := A0_ (blk_drew BK607.out)
     replace HK := A0_ (Kept.drew HK.out)
     replace HB := A0_ (below_drew1 HB.out)
     refine start_ (n := 8) (S := fun w' => w'.cell? ⟨gb606, 0, none⟩ = some (.bool a0_0) ∧ w'.cell? ⟨gb606, 1, none⟩ = some (.slice Ao38 l0_1.length co38) ∧ w'.cell? ⟨gb606, 2, none⟩ = some (.int .i64 a0_2) ∧ w'.cell? ⟨gb607, 0, none⟩ = some (.bool a1_0) ∧ w'.cell? ⟨gb607, 1, none⟩ = some (.slice Ao40 l1_1.length co40) ∧ w'.cell? ⟨gb607, 2, none⟩ = some (.int .i64 a1_2)) (ds := []) #[false, false, false, false, false, false, false, false] (by kernel_rfl) rfl rfl ⟨bC_ BK606.out 0, bC_ BK606.out 1, bC_ BK606.out 2, bC_ BK607.out 0, bC_ BK607.out 1, bC_ BK607.out 2⟩ (fun hHeld => ?_); refine with_tabW cutplaneref02_Cmp.tab9 cutplaneref02_Cmp.bits9 (fun HT_ HW_ => ?_)
     generalize w47.drew = w48 at HO0_1 HO1_1 BK606 BK607 HK HB hHeld ⊢
     refine pure_ (i := 5) (N := some 29) (v := ?_) (a' := ?_) #[false, false, false, false, false, true, false, false] rfl rfl (any_of HT_.out (by kernel_rfl)) (fun _ _ _ h => h) (Or.inl ⟨by rfl, ?_⟩) ?_ ?_
     rotate_left
     ·intro w'
      go_simp
      with_reducible rfl
     rotate_left
     ·simp only [Act.put, sp_, i64_w, i32_w]
      rfl
     refine pure_ (i := 6) (N := some 30) (v := ?_) (a' := ?_) #[false, false, false, false, false, true, true, false] rfl rfl (any_of HT_.out (by kernel_rfl)) (fun _ _ _ h => h) (Or.inl ⟨by rfl, ?_⟩) ?_ ?_
     rotate_left
     ·intro w'
      go_simp
      with_reducible rfl
     rotate_left
     ·simp only [Act.put, sp_, i64_w, i32_w]
      rfl
     refine take_ (i := 0) (N := some 24) (v := ?_) (a' := ?_) #[true, false, false, false, false, true, true, false] rfl rfl (take_ofW HT_.out HW_.out (by kernel_rfl)) (fun _ _ _ h => h) (Or.inl ⟨by rfl, ?_⟩) hHeld ?_ ?_
     rotate_left
     ·rintro w' ⟨s0, s1, s2, s3, s4, s5⟩
      go_simp
      with_reducible rfl
     rotate_left
     ·simp only [Act.put, sp_, i64_w, i32_w]
      rfl
     refine take_ (i := 2) (N := some 26) (v := ?_) (a' := ?_) #[true, false, true, false, false, true, true, false] rfl rfl (take_ofW HT_.out HW_.out (by kernel_rfl)) (fun _ _ _ h => h) (Or.inl ⟨by rfl, ?_⟩) hHeld ?_ ?_
     rotate_left
     ·rintro w' ⟨s0, s1, s2, s3, s4, s5⟩
      go_simp
      with_reducible rfl
     rotate_left
     ·simp only [Act.put, sp_, i64_w, i32_w]
      rfl
     refine one_ (i := 1) (N := some 25) #[true, true, true, false, false, true, true, false] rfl rfl (one_of HT_.out (by kernel_rfl)) (by decide) (fun K hK => ?_)
     refine goes_ Try.func103 (by kernel_rfl) rfl #[.agg #[.bool a0_0, .slice Ao38 l0_1.length co38, .int .i64 a0_2]] (by rfl) rfl rfl (am_ rfl) ?_
     with_reducible refine (cutplaneref02_Top.calls k a0_0 _ _ l0_1 a0_2 t618 _ ?side1 ?side2 A35.out).mono ?_
     (case side1 => repeat (first | exact (Kd.R_reads' HO0_1.out).2.2 | (with_reducible refine Kd.C_alloc ?_ _) | (with_reducible refine Kd.C_drewN ?_ _) | (with_reducible refine Kd.C_drew ?_)))
     (case side2 => exact (Kd.R_reads' HO0_1.out).2.1)
     rintro e w49 ⟨rfl, hb⟩
     refine ⟨_, rfl, ?_⟩
     replace HO0_1 := A0_ (Kd.R_below (by exact rm_ HO0_1.out) hb)
     replace HO1_1 := A0_ (Kd.R_below (by exact rm_ HO1_1.out) hb)
     replace BK606 := bb_ BK606 hb
     replace BK607 := bb_ BK607 hb
     replace HK := A0_ (Kept.below (S := (fun k_ => P0_1_ k_ ∨ P1_1_ k_)) (by repeat (first | (with_reducible first | exact HK.out | apply Kept.alloc | apply Kept.drewN | apply Kept.drew | refine Kept.setCell ?_ (.inr GW606.out) _ | refine Kept.setCell ?_ (.inr GW607.out) _) | exact HK.out)) hb)
     replace HB := hs_ hb
     (try clear hb)
     refine hK.out _ _ ⟨bC_ BK606.out 0, bC_ BK606.out 1, bC_ BK606.out 2, bC_ BK607.out 0, bC_ BK607.out 1, bC_ BK607.out 2⟩ (fun hHeld => ?_)
     clear hK K
     refine norm_ (a' := ?_) ?_ ?_
     rotate_left
     ·show Act.put _ (some 25) _ = _
      simp only [Act.put, sp_, i64_w, i32_w]
      rfl
     refine one_ (i := 3) (N := some 27) #[true, true, true, true, false, true, true, false] rfl rfl (one_of HT_.out (by kernel_rfl)) (by decide) (fun K hK => ?_)
     refine goes_ Try.func103 (by kernel_rfl) rfl #[.agg #[.bool a1_0, .slice Ao40 l1_1.length co40, .int .i64 a1_2]] (by rfl) rfl rfl (am_ rfl) ?_
     with_reducible refine (cutplaneref02_Top.calls k a1_0 _ _ l1_1 a1_2 t619 _ ?side1 ?side2 A36.out).mono ?_
     (case side1 => repeat (first | exact (Kd.R_reads' HO1_1.out).2.2 | (with_reducible refine Kd.C_alloc ?_ _) | (with_reducible refine Kd.C_drewN ?_ _) | (with_reducible refine Kd.C_drew ?_)))
     (case side2 => exact (Kd.R_reads' HO1_1.out).2.1)
     rintro e w50 ⟨rfl, hb⟩
     refine ⟨_, rfl, ?_⟩
     replace HO0_1 := A0_ (Kd.R_below (by exact rm_ HO0_1.out) hb)
     replace HO1_1 := A0_ (Kd.R_below (by exact rm_ HO1_1.out) hb)
     replace BK606 := bb_ BK606 hb
     replace BK607 := bb_ BK607 hb
     replace HK := A0_ (Kept.below (S := (fun k_ => P0_1_ k_ ∨ P1_1_ k_)) (by repeat (first | (with_reducible first | exact HK.out | apply Kept.alloc | apply Kept.drewN | apply Kept.drew | refine Kept.setCell ?_ (.inr GW606.out) _ | refine Kept.setCell ?_ (.inr GW607.out) _) | exact HK.out)) hb)
     replace HB := hs_ hb
     (try clear hb)
     refine hK.out _ _ ⟨bC_ BK606.out 0, bC_ BK606.out 1, bC_ BK606.out 2, bC_ BK607.out 0, bC_ BK607.out 1, bC_ BK607.out 2⟩ (fun hHeld => ?_)
     clear hK K
     refine norm_ (a' := ?_) ?_ ?_
     rotate_left
     ·show Act.put _ (some 27) _ = _
      simp only [Act.put, sp_, i64_w, i32_w]
      rfl
     refine pure_ (i := 4) (N := some 28) (v := ?_) (a' := ?_) #[true, true, true, true, true, true, true, false] rfl rfl (any_of HT_.out (by kernel_rfl)) (fun _ _ _ h => h) (Or.inl ⟨by rfl, ?_⟩) ?_ ?_
     rotate_left
     ·intro w'
      go_simp
      with_reducible rfl
     rotate_left
     ·simp only [Act.put, sp_, i64_w, i32_w]
      rfl
     refine pure_ (i := 7) (N := some 31) (v := ?_) (a' := ?_) #[true, true, true, true, true, true, true, true] rfl rfl (any_of HT_.out (by kernel_rfl)) (fun _ _ _ h => h) (Or.inl ⟨by rfl, ?_⟩) ?_ ?_
     rotate_left
     ·intro w'
      go_simp
      with_reducible rfl
     rotate_left
     ·simp only [Act.put, sp_, i64_w, i32_w]
      rfl
     refine done_ (done_of HT_.out (by kernel_rfl)) ?_
     try go_wp2
     go_ret
     exact ⟨by first | rfl | (simp [errW_none, errW_some] <;> rfl) | (simp [*, errW_none, errW_some] <;> rfl), by repeat with_reducible first | exact qm_ HB.out | apply qA_ | apply qN_ | apply qD_ | refine bS_ ?_ (by assumption), by repeat (first | (with_reducible first | exact HK.out | apply Kept.alloc | apply Kept.drewN | apply Kept.drew | refine Kept.setCell ?_ (.inr GW606.out) _ | refine Kept.setCell ?_ (.inr GW607.out) _) | exact HK.out)⟩
    ·rw [if_neg c37] at H
     have c37b0 : ((decide (t618 < t619)) == (decide (t608 > 0))) = false := by simpa using c37
     (try (have c37b1 : decide ((decide (t618 < t619)) = (decide (t608 > 0))) = false := by simpa using c37))
     (try (have c37b2 : ((decide (t618 < t619)) == (decide (t608 > 0))) = false := by simpa using c37))
     (try (have c37b3 : ¬ ((decide (t618 < t619)) = (decide (t608 > 0))) := by simpa using c37))
     clear c37
     obtain rfl := Option.some.inj H
     obtain ⟨Ao51, co51, eo51⟩ := Kd.R_slice HO0_1.out
     subst eo51
     go_enter Try.func85, Try.ntmps85
     try go_wp2_with (first | ((with_reducible refine gate_dst (N := 2) rfl ?_); refine box_event ?hg (N := 2) ?hd (cs := #[.bool a0_0, .slice Ao51 l0_1.length co51, .int .i64 a0_2]) (t := 124) ?hr ?_; (case hd => rfl); (case hg => rfl); (case hr => first | (go_simp; done) | (go_simp; rfl)); intro gb606 hg w52 hbox hb; replace HO0_1 := A0_ (Kd.R_below (by exact rm_ HO0_1.out) hb); replace HO1_1 := A0_ (Kd.R_below (by exact rm_ HO1_1.out) hb); have BK606 := A0_ (hbox); have GW606 := A0_ ((by rw [hg]; exact (by first | exact HK.out.1 | exact (show Kept w _ (fun k_ => P0_1_ k_ ∨ P1_1_ k_) from by repeat (first | (with_reducible first | exact HK.out | apply Kept.alloc | apply Kept.drewN | apply Kept.drew) | exact HK.out)).1) : w.heap.size ≤ gb606)); replace HK := A0_ (Kept.below (S := (fun k_ => P0_1_ k_ ∨ P1_1_ k_)) (by repeat (first | (with_reducible first | exact HK.out | apply Kept.alloc | apply Kept.drewN | apply Kept.drew) | exact HK.out)) hb); have GE606 := A0_ ((by rw [hg]; exact (below_size (qm_ HB.out)) : w0.heap.size ≤ gb606)); replace HB := hs_ hb; clear hb hbox hg; obtain ⟨Ao53, co53, eo53⟩ := Kd.R_slice HO1_1.out; subst eo53) | ((with_reducible refine gate_dst (N := 3) rfl ?_); refine box_event ?hg (N := 3) ?hd (cs := #[.bool a1_0, .slice Ao53 l1_1.length co53, .int .i64 a1_2]) (t := 124) ?hr ?_; (case hd => rfl); (case hg => rfl); (case hr => first | (go_simp; done) | (go_simp; rfl)); intro gb607 hg w54 hbox hb; replace HO0_1 := A0_ (Kd.R_below (by exact rm_ HO0_1.out) hb); replace HO1_1 := A0_ (Kd.R_below (by exact rm_ HO1_1.out) hb); have BK607 := A0_ (hbox); have GW607 := A0_ ((by rw [hg]; exact (by first | exact HK.out.1 | exact (show Kept w _ (fun k_ => P0_1_ k_ ∨ P1_1_ k_) from by repeat (first | (with_reducible first | exact HK.out | apply Kept.alloc | apply Kept.drewN | apply Kept.drew | refine Kept.setCell ?_ (.inr GW606.out) _) | exact HK.out)).1) : w.heap.size ≤ gb607)); replace HK := A0_ (Kept.below (S := (fun k_ => P0_1_ k_ ∨ P1_1_ k_)) (by repeat (first | (with_reducible first | exact HK.out | apply Kept.alloc | apply Kept.drewN | apply Kept.drew | refine Kept.setCell ?_ (.inr GW606.out) _) | exact HK.out)) hb); have GE607 := A0_ ((by rw [hg]; exact (below_size qz_) : w0.heap.size ≤ gb607)); replace HB := hs_ hb; have NB606_607 := nl_ hg BK606; have NB607_606 := ng_ hg BK606; replace BK606 := bb_ BK606 hb; clear hb hbox hg))
     replace HO0_1 := A0_ (Kd.R_drew HO0_1.out)
     replace HO1_1 := A0_ (Kd.R_drew HO1_1.out)
     replace BK606 := A0_ (blk_drew BK606.out)
     replace BK607 := A0_ (blk_drew BK607.out)
     replace HK := A0_ (Kept.drew HK.out)
     replace HB := A0_ (below_drew1 HB.out)
     refine start_ (n := 6) (S := fun w' => w'.cell? ⟨gb606, 0, none⟩ = some (.bool a0_0) ∧ w'.cell? ⟨gb606, 1, none⟩ = some (.slice Ao51 l0_1.length co51) ∧ w'.cell? ⟨gb606, 2, none⟩ = some (.int .i64 a0_2) ∧ w'.cell? ⟨gb607, 0, none⟩ = some (.bool a1_0) ∧ w'.cell? ⟨gb607, 1, none⟩ = some (.slice Ao53 l1_1.length co53) ∧ w'.cell? ⟨gb607, 2, none⟩ = some (.int .i64 a1_2)) (ds := []) #[false, false, false, false, false, false] (by kernel_rfl) rfl rfl ⟨bC_ BK606.out 0, bC_ BK606.out 1, bC_ BK606.out 2, bC_ BK607.out 0, bC_ BK607.out 1, bC_ BK607.out 2⟩ (fun hHeld => ?_)
     generalize w54.drew = w55 at HO0_1 HO1_1 BK606 BK607 HK HB hHeld ⊢
     refine take_ (i := 0) (N := some 7) (v := ?_) (a' := ?_) #[true, false, false, false, false, false] rfl rfl (by kernel_rfl) (fun _ _ _ h => h) (Or.inl ⟨by rfl, ?_⟩) hHeld ?_ ?_
     rotate_left
     ·rintro w' ⟨s0, s1, s2, s3, s4, s5⟩
      go_simp
      with_reducible rfl
     rotate_left
     ·simp only [Act.put, sp_, i64_w, i32_w]
      rfl
     refine take_ (i := 2) (N := some 9) (v := ?_) (a' := ?_) #[true, false, true, false, false, false] rfl rfl (by kernel_rfl) (fun _ _ _ h => h) (Or.inl ⟨by rfl, ?_⟩) hHeld ?_ ?_
     rotate_left
     ·rintro w' ⟨s0, s1, s2, s3, s4, s5⟩
      go_simp
      with_reducible rfl
     rotate_left
     ·simp only [Act.put, sp_, i64_w, i32_w]
      rfl
     refine one_ (i := 1) (N := some 8) #[true, true, true, false, false, false] rfl rfl (by kernel_rfl) (by decide) (fun K hK => ?_)
     refine goes_ Try.func102 (by kernel_rfl) rfl #[.agg #[.bool a0_0, .slice Ao51 l0_1.length co51, .int .i64 a0_2]] (by rfl) rfl rfl (am_ rfl) ?_
     with_reducible refine (cutplaneref02_Sign.calls a0_0 _ _ l0_1 a0_2 t608 _ ?side1 ?side2 A3.out).mono ?_
     (case side1 => repeat (first | exact (Kd.R_reads' HO0_1.out).2.2 | (with_reducible refine Kd.C_alloc ?_ _) | (with_reducible refine Kd.C_drewN ?_ _) | (with_reducible refine Kd.C_drew ?_)))
     (case side2 => exact (Kd.R_reads' HO0_1.out).2.1)
     rintro e w56 ⟨rfl, hb⟩
     refine ⟨_, rfl, ?_⟩
     replace HO0_1 := A0_ (Kd.R_below (by exact rm_ HO0_1.out) hb)
     replace HO1_1 := A0_ (Kd.R_below (by exact rm_ HO1_1.out) hb)
     replace BK606 := bb_ BK606 hb
     replace BK607 := bb_ BK607 hb
     replace HK := A0_ (Kept.below (S := (fun k_ => P0_1_ k_ ∨ P1_1_ k_)) (by repeat (first | (with_reducible first | exact HK.out | apply Kept.alloc | apply Kept.drewN | apply Kept.drew | refine Kept.setCell ?_ (.inr GW606.out) _ | refine Kept.setCell ?_ (.inr GW607.out) _) | exact HK.out)) hb)
     replace HB := hs_ hb
     (try clear hb)
     refine hK.out _ _ ⟨bC_ BK606.out 0, bC_ BK606.out 1, bC_ BK606.out 2, bC_ BK607.out 0, bC_ BK607.out 1, bC_ BK607.out 2⟩ (fun hHeld => ?_)
     clear hK K
     refine norm_ (a' := ?_) ?_ ?_
     rotate_left
     ·show Act.put _ (some 8) _ = _
      simp only [Act.put, sp_, i64_w, i32_w]
      rfl
     refine one_ (i := 3) (N := some 10) #[true, true, true, true, false, false] rfl rfl (by kernel_rfl) (by decide) (fun K hK => ?_)
     refine goes_ Try.func102 (by kernel_rfl) rfl #[.agg #[.bool a1_0, .slice Ao53 l1_1.length co53, .int .i64 a1_2]] (by rfl) rfl rfl (am_ rfl) ?_
     with_reducible refine (cutplaneref02_Sign.calls a1_0 _ _ l1_1 a1_2 t609 _ ?side1 ?side2 A4.out).mono ?_
     (case side1 => repeat (first | exact (Kd.R_reads' HO1_1.out).2.2 | (with_reducible refine Kd.C_alloc ?_ _) | (with_reducible refine Kd.C_drewN ?_ _) | (with_reducible refine Kd.C_drew ?_)))
     (case side2 => exact (Kd.R_reads' HO1_1.out).2.1)
     rintro e w57 ⟨rfl, hb⟩
     refine ⟨_, rfl, ?_⟩
     replace HO0_1 := A0_ (Kd.R_below (by exact rm_ HO0_1.out) hb)
     replace HO1_1 := A0_ (Kd.R_below (by exact rm_ HO1_1.out) hb)
     replace BK606 := bb_ BK606 hb
     replace BK607 := bb_ BK607 hb
     replace HK := A0_ (Kept.below (S := (fun k_ => P0_1_ k_ ∨ P1_1_ k_)) (by repeat (first | (with_reducible first | exact HK.out | apply Kept.alloc | apply Kept.drewN | apply Kept.drew | refine Kept.setCell ?_ (.inr GW606.out) _ | refine Kept.setCell ?_ (.inr GW607.out) _) | exact HK.out)) hb)
     replace HB := hs_ hb
     (try clear hb)
     refine hK.out _ _ ⟨bC_ BK606.out 0, bC_ BK606.out 1, bC_ BK606.out 2, bC_ BK607.out 0, bC_ BK607.out 1, bC_ BK607.out 2⟩ (fun hHeld => ?_)
     clear hK K
     refine norm_ (a' := ?_) ?_ ?_
     rotate_left
     ·show Act.put _ (some 10) _ = _
      simp only [Act.put, sp_, i64_w, i32_w]
      rfl
     refine pure_ (i := 4) (N := some 5) (v := ?_) (a' := ?_) #[true, true, true, true, true, false] rfl rfl (by kernel_rfl) (fun _ _ _ h => h) (Or.inl ⟨by rfl, ?_⟩) ?_ ?_
     rotate_left
     ·intro w'
      go_simp
      with_reducible rfl
     rotate_left
     ·simp only [Act.put, sp_, i64_w, i32_w]
      rfl
     refine pure_ (i := 5) (N := some 6) (v := ?_) (a' := ?_) #[true, true, true, true, true, true] rfl rfl (by kernel_rfl) (fun _ _ _ h => h) (Or.inl ⟨by rfl, ?_⟩) ?_ ?_
     rotate_left
     ·intro w'
      go_simp
      with_reducible rfl
     rotate_left
     ·simp only [Act.put, sp_, i64_w, i32_w]
      rfl
     refine done_ (by kernel_rfl) ?_
     try go_wp2
     replace HO0_1 := A0_ (Kd.R_drew HO0_1.out)
     replace HO1_1 := A0_ (Kd.R_drew HO1_1.out)
     replace BK606 := A0_ (blk_drew BK606.out)
     replace BK607 := A0_ (blk_drew BK607.out)
     replace HK := A0_ (Kept.drew HK.out)
     replace HB := A0_ (below_drew1 HB.out)
     refine start_ (n := 5) (S := fun w' => w'.cell? ⟨gb606, 0, none⟩ = some (.bool a0_0) ∧ w'.cell? ⟨gb606, 1, none⟩ = some (.slice Ao51 l0_1.length co51) ∧ w'.cell? ⟨gb606, 2, none⟩ = some (.int .i64 a0_2) ∧ w'.cell? ⟨gb607, 0, none⟩ = some (.bool a1_0) ∧ w'.cell? ⟨gb607, 1, none⟩ = some (.slice Ao53 l1_1.length co53) ∧ w'.cell? ⟨gb607, 2, none⟩ = some (.int .i64 a1_2)) (ds := []) #[false, false, false, false, false] (by kernel_rfl) rfl rfl ⟨bC_ BK606.out 0, bC_ BK606.out 1, bC_ BK606.out 2, bC_ BK607.out 0, bC_ BK607.out 1, bC_ BK607.out 2⟩ (fun hHeld => ?_)
     generalize w57.drew = w58 at HO0_1 HO1_1 BK606 BK607 HK HB hHeld ⊢
     refine take_ (i := 0) (N := some 19) (v := ?_) (a' := ?_) #[true, false, false, false, false] rfl rfl (by kernel_rfl) (fun _ _ _ h => h) (Or.inl ⟨by rfl, ?_⟩) hHeld ?_ ?_
     rotate_left
     ·rintro w' ⟨s0, s1, s2, s3, s4, s5⟩
      go_simp
      with_reducible rfl
     rotate_left
     ·simp only [Act.put, sp_, i64_w, i32_w]
      rfl
     refine take_ (i := 2) (N := some 21) (v := ?_) (a' := ?_) #[true, false, true, false, false] rfl rfl (by kernel_rfl) (fun _ _ _ h => h) (Or.inl ⟨by rfl, ?_⟩) hHeld ?_ ?_
     rotate_left
     ·rintro w' ⟨s0, s1, s2, s3, s4, s5⟩
      go_simp
      with_reducible rfl
     rotate_left
     ·simp only [Act.put, sp_, i64_w, i32_w]
      rfl
     refine one_ (i := 1) (N := some 20) #[true, true, true, false, false] rfl rfl (by kernel_rfl) (by decide) (fun K hK => ?_)
     refine goes_ Try.func103 (by kernel_rfl) rfl #[.agg #[.bool a0_0, .slice Ao51 l0_1.length co51, .int .i64 a0_2]] (by rfl) rfl rfl (am_ rfl) ?_
     with_reducible refine (cutplaneref02_Top.calls k a0_0 _ _ l0_1 a0_2 t610 _ ?side1 ?side2 A14.out).mono ?_
     (case side1 => repeat (first | exact (Kd.R_reads' HO0_1.out).2.2 | (with_reducible refine Kd.C_alloc ?_ _) | (with_reducible refine Kd.C_drewN ?_ _) | (with_reducible refine Kd.C_drew ?_)))
     (case side2 => exact (Kd.R_reads' HO0_1.out).2.1)
     rintro e w59 ⟨rfl, hb⟩
     refine ⟨_, rfl, ?_⟩
     replace HO0_1 := A0_ (Kd.R_below (by exact rm_ HO0_1.out) hb)
     replace HO1_1 := A0_ (Kd.R_below (by exact rm_ HO1_1.out) hb)
     replace BK606 := bb_ BK606 hb
     replace BK607 := bb_ BK607 hb
     replace HK := A0_ (Kept.below (S := (fun k_ => P0_1_ k_ ∨ P1_1_ k_)) (by repeat (first | (with_reducible first | exact HK.out | apply Kept.alloc | apply Kept.drewN | apply Kept.drew | refine Kept.setCell ?_ (.inr GW606.out) _ | refine Kept.setCell ?_ (.inr GW607.out) _) | exact HK.out)) hb)
     replace HB := hs_ hb
     (try clear hb)
     refine hK.out _ _ ⟨bC_ BK606.out 0, bC_ BK606.out 1, bC_ BK606.out 2, bC_ BK607.out 0, bC_ BK607.out 1, bC_ BK607.out 2⟩ (fun hHeld => ?_)
     clear hK K
     refine norm_ (a' := ?_) ?_ ?_
     rotate_left
     ·show Act.put _ (some 20) _ = _
      simp only [Act.put, sp_, i64_w, i32_w]
      rfl
     refine one_ (i := 3) (N := some 22) #[true, true, true, true, false] rfl rfl (by kernel_rfl) (by decide) (fun K hK => ?_)
     refine goes_ Try.func103 (by kernel_rfl) rfl #[.agg #[.bool a1_0, .slice Ao53 l1_1.length co53, .int .i64 a1_2]] (by rfl) rfl rfl (am_ rfl) ?_
     with_reducible refine (cutplaneref02_Top.calls k a1_0 _ _ l1_1 a1_2 t611 _ ?side1 ?side2 A15.out).mono ?_
     (case side1 => repeat (first | exact (Kd.R_reads' HO1_1.out).2.2 | (with_reducible refine Kd.C_alloc ?_ _) | (with_reducible refine Kd.C_drewN ?_ _) | (with_reducible refine Kd.C_drew ?_)))
     (case side2 => exact (Kd.R_reads' HO1_1.out).2.1)
     rintro e w60 ⟨rfl, hb⟩
     refine ⟨_, rfl, ?_⟩
     replace HO0_1 := A0_ (Kd.R_below (by exact rm_ HO0_1.out) hb)
     replace HO1_1 := A0_ (Kd.R_below (by exact rm_ HO1_1.out) hb)
     replace BK606 := bb_ BK606 hb
     replace BK607 := bb_ BK607 hb
     replace HK := A0_ (Kept.below (S := (fun k_ => P0_1_ k_ ∨ P1_1_ k_)) (by repeat (first | (with_reducible first | exact HK.out | apply Kept.alloc | apply Kept.drewN | apply Kept.drew | refine Kept.setCell ?_ (.inr GW606.out) _ | refine Kept.setCell ?_ (.inr GW607.out) _) | exact HK.out)) hb)
     replace HB := hs_ hb
     (try clear hb)
     refine hK.out _ _ ⟨bC_ BK606.out 0, bC_ BK606.out 1, bC_ BK606.out 2, bC_ BK607.out 0, bC_ BK607.out 1, bC_ BK607.out 2⟩ (fun hHeld => ?_)
     clear hK K
     refine norm_ (a' := ?_) ?_ ?_
     rotate_left
     ·show Act.put _ (some 22) _ = _
      simp only [Act.put, sp_, i64_w, i32_w]
      rfl
     refine pure_ (i := 4) (N := some 23) (v := ?_) (a' := ?_) #[true, true, true, true, true] rfl rfl (by kernel_rfl) (fun _ _ _ h => h) (Or.inl ⟨by rfl, ?_⟩) ?_ ?_
     rotate_left
     ·intro w'
      go_simp
      with_reducible rfl
     rotate_left
     ·simp only [Act.put, sp_, i64_w, i32_w]
      rfl
     refine done_ (by kernel_rfl) ?_
     try go_wp2
     replace HO0_1 := A0_ (Kd.R_drew HO0_1.out)
     replace HO1_1 := A0_ (Kd.R_drew HO1_1.out)
     replace BK606 := A0_ (blk_drew BK606.out)
     replace BK607 := A0_ (blk_drew BK607.out)
     replace HK := A0_ (Kept.drew HK.out)
     replace HB := A0_ (below_drew1 HB.out)
     refine start_ (n := 8) (S := fun w' => w'.cell? ⟨gb606, 0, none⟩ = some (.bool a0_0) ∧ w'.cell? ⟨gb606, 1, none⟩ = some (.slice Ao51 l0_1.length co51) ∧ w'.cell? ⟨gb606, 2, none⟩ = some (.int .i64 a0_2) ∧ w'.cell? ⟨gb607, 0, none⟩ = some (.bool a1_0) ∧ w'.cell? ⟨gb607, 1, none⟩ = some (.slice Ao53 l1_1.length co53) ∧ w'.cell? ⟨gb607, 2, none⟩ = some (.int .i64 a1_2)) (ds := []) #[false, false, false, false, false, false, false, false] (by kernel_rfl) rfl rfl ⟨bC_ BK606.out 0, bC_ BK606.out 1, bC_ BK606.out 2, bC_ BK607.out 0, bC_ BK607.out 1, bC_ BK607.out 2⟩ (fun hHeld => ?_); refine with_tabW cutplaneref02_Cmp.tab9 cutplaneref02_Cmp.bits9 (fun HT_ HW_ => ?_)
     generalize w60.drew = w61 at HO0_1 HO1_1 BK606 BK607 HK HB hHeld ⊢
     refine pure_ (i := 5) (N := some 29) (v := ?_) (a' := ?_) #[false, false, false, false, false, true, false, false] rfl rfl (any_of HT_.out (by kernel_rfl)) (fun _ _ _ h => h) (Or.inl ⟨by rfl, ?_⟩) ?_ ?_
     rotate_left
     ·intro w'
      go_simp
      with_reducible rfl
     rotate_left
     ·simp only [Act.put, sp_, i64_w, i32_w]
      rfl
     refine pure_ (i := 6) (N := some 30) (v := ?_) (a' := ?_) #[false, false, false, false, false, true, true, false] rfl rfl (any_of HT_.out (by kernel_rfl)) (fun _ _ _ h => h) (Or.inl ⟨by rfl, ?_⟩) ?_ ?_
     rotate_left
     ·intro w'
      go_simp
      with_reducible rfl
     rotate_left
     ·simp only [Act.put, sp_, i64_w, i32_w]
      rfl
     refine take_ (i := 0) (N := some 24) (v := ?_) (a' := ?_) #[true, false, false, false, false, true, true, false] rfl rfl (take_ofW HT_.out HW_.out (by kernel_rfl)) (fun _ _ _ h => h) (Or.inl ⟨by rfl, ?_⟩) hHeld ?_ ?_
     rotate_left
     ·rintro w' ⟨s0, s1, s2, s3, s4, s5⟩
      go_simp
      with_reducible rfl
     rotate_left
     ·simp only [Act.put, sp_, i64_w, i32_w]
      rfl
     refine take_ (i := 2) (N := some 26) (v := ?_) (a' := ?_) #[true, false, true, false, false, true, true, false] rfl rfl (take_ofW HT_.out HW_.out (by kernel_rfl)) (fun _ _ _ h => h) (Or.inl ⟨by rfl, ?_⟩) hHeld ?_ ?_
     rotate_left
     ·rintro w' ⟨s0, s1, s2, s3, s4, s5⟩
      go_simp
      with_reducible rfl
     rotate_left
     ·simp only [Act.put, sp_, i64_w, i32_w]
      rfl
     refine one_ (i := 1) (N := some 25) #[true, true, true, false, false, true, true, false] rfl rfl (one_of HT_.out (by kernel_rfl)) (by decide) (fun K hK => ?_)
     refine goes_ Try.func103 (by kernel_rfl) rfl #[.agg #[.bool a0_0, .slice Ao51 l0_1.length co51, .int .i64 a0_2]] (by rfl) rfl rfl (am_ rfl) ?_
     with_reducible refine (cutplaneref02_Top.calls k a0_0 _ _ l0_1 a0_2 t618 _ ?side1 ?side2 A35.out).mono ?_
     (case side1 => repeat (first | exact (Kd.R_reads' HO0_1.out).2.2 | (with_reducible refine Kd.C_alloc ?_ _) | (with_reducible refine Kd.C_drewN ?_ _) | (with_reducible refine Kd.C_drew ?_)))
     (case side2 => exact (Kd.R_reads' HO0_1.out).2.1)
     rintro e w62 ⟨rfl, hb⟩
     refine ⟨_, rfl, ?_⟩
     replace HO0_1 := A0_ (Kd.R_below (by exact rm_ HO0_1.out) hb)
     replace HO1_1 := A0_ (Kd.R_below (by exact rm_ HO1_1.out) hb)
     replace BK606 := bb_ BK606 hb
     replace BK607 := bb_ BK607 hb
     replace HK := A0_ (Kept.below (S := (fun k_ => P0_1_ k_ ∨ P1_1_ k_)) (by repeat (first | (with_reducible first | exact HK.out | apply Kept.alloc | apply Kept.drewN | apply Kept.drew | refine Kept.setCell ?_ (.inr GW606.out) _ | refine Kept.setCell ?_ (.inr GW607.out) _) | exact HK.out)) hb)
     replace HB := hs_ hb
     (try clear hb)
     refine hK.out _ _ ⟨bC_ BK606.out 0, bC_ BK606.out 1, bC_ BK606.out 2, bC_ BK607.out 0, bC_ BK607.out 1, bC_ BK607.out 2⟩ (fun hHeld => ?_)
     clear hK K
     refine norm_ (a' := ?_) ?_ ?_
     rotate_left
     ·show Act.put _ (some 25) _ = _
      simp only [Act.put, sp_, i64_w, i32_w]
      rfl
     refine one_ (i := 3) (N := some 27) #[true, true, true, true, false, true, true, false] rfl rfl (one_of HT_.out (by kernel_rfl)) (by decide) (fun K hK => ?_)
     refine goes_ Try.func103 (by kernel_rfl) rfl #[.agg #[.bool a1_0, .slice Ao53 l1_1.length co53, .int .i64 a1_2]] (by rfl) rfl rfl (am_ rfl) ?_
     with_reducible refine (cutplaneref02_Top.calls k a1_0 _ _ l1_1 a1_2 t619 _ ?side1 ?side2 A36.out).mono ?_
     (case side1 => repeat (first | exact (Kd.R_reads' HO1_1.out).2.2 | (with_reducible refine Kd.C_alloc ?_ _) | (with_reducible refine Kd.C_drewN ?_ _) | (with_reducible refine Kd.C_drew ?_)))
     (case side2 => exact (Kd.R_reads' HO1_1.out).2.1)
     rintro e w63 ⟨rfl, hb⟩
     refine ⟨_, rfl, ?_⟩
     replace HO0_1 := A0_ (Kd.R_below (by exact rm_ HO0_1.out) hb)
     replace HO1_1 := A0_ (Kd.R_below (by exact rm_ HO1_1.out) hb)
     replace BK606 := bb_ BK606 hb
     replace BK607 := bb_ BK607 hb
     replace HK := A0_ (Kept.below (S := (fun k_ => P0_1_ k_ ∨ P1_1_ k_)) (by repeat (first | (with_reducible first | exact HK.out | apply Kept.alloc | apply Kept.drewN | apply Kept.drew | refine Kept.setCell ?_ (.inr GW606.out) _ | refine Kept.setCell ?_ (.inr GW607.out) _) | exact HK.out)) hb)
     replace HB := hs_ hb
     (try clear hb)
     refine hK.out _ _ ⟨bC_ BK606.out 0, bC_ BK606.out 1, bC_ BK606.out 2, bC_ BK607.out 0, bC_ BK607.out 1, bC_ BK607.out 2⟩ (fun hHeld => ?_)
     clear hK K
     refine norm_ (a' := ?_) ?_ ?_
     rotate_left
     ·show Act.put _ (some 27) _ = _
      simp only [Act.put, sp_, i64_w, i32_w]
      rfl
     refine pure_ (i := 4) (N := some 28) (v := ?_) (a' := ?_) #[true, true, true, true, true, true, true, false] rfl rfl (any_of HT_.out (by kernel_rfl)) (fun _ _ _ h => h) (Or.inl ⟨by rfl, ?_⟩) ?_ ?_
     rotate_left
     ·intro w'
      go_simp
      with_reducible rfl
     rotate_left
     ·simp only [Act.put, sp_, i64_w, i32_w]
      rfl
     refine pure_ (i := 7) (N := some 31) (v := ?_) (a' := ?_) #[true, true, true, true, true, true, true, true] rfl rfl (any_of HT_.out (by kernel_rfl)) (fun _ _ _ h => h) (Or.inl ⟨by rfl, ?_⟩) ?_ ?_
     rotate_left
     ·intro w'
      go_simp
      with_reducible rfl
     rotate_left
     ·simp only [Act.put, sp_, i64_w, i32_w]
      rfl
     refine done_ (done_of HT_.out (by kernel_rfl)) ?_
     try go_wp2
     go_ret
     exact ⟨by first | rfl | (simp [errW_none, errW_some] <;> rfl) | (simp [*, errW_none, errW_some] <;> rfl), by repeat with_reducible first | exact qm_ HB.out | apply qA_ | apply qN_ | apply qD_ | refine bS_ ?_ (by assumption), by repeat (first | (with_reducible first | exact HK.out | apply Kept.alloc | apply Kept.drewN | apply Kept.drew | refine Kept.setCell ?_ (.inr GW606.out) _ | refine Kept.setCell ?_ (.inr GW607.out) _) | exact HK.out)⟩
 ·rw [if_neg c5] at H
  have c5b0 : (t608 == t609) = false := beq_eq_false_iff_ne.mpr c5
  have c5b1 : (t608 != t609) = true := bne_iff_ne.mpr c5
  by_cases c64 : t608 < t609
  ·rw [if_pos c64] at H
   have c64b0 : decide (t608 < t609) = true := decide_eq_true c64
   clear c64
   obtain rfl := Option.some.inj H
   obtain ⟨Ao65, co65, eo65⟩ := Kd.R_slice HO0_1.out
   subst eo65
   go_enter Try.func85, Try.ntmps85
   try go_wp2_with (first | ((with_reducible refine gate_dst (N := 2) rfl ?_); refine box_event ?hg (N := 2) ?hd (cs := #[.bool a0_0, .slice Ao65 l0_1.length co65, .int .i64 a0_2]) (t := 124) ?hr ?_; (case hd => rfl); (case hg => rfl); (case hr => first | (go_simp; done) | (go_simp; rfl)); intro gb606 hg w66 hbox hb; replace HO0_1 := A0_ (Kd.R_below (by exact rm_ HO0_1.out) hb); replace HO1_1 := A0_ (Kd.R_below (by exact rm_ HO1_1.out) hb); have BK606 := A0_ (hbox); have GW606 := A0_ ((by rw [hg]; exact (by first | exact HK.out.1 | exact (show Kept w _ (fun k_ => P0_1_ k_ ∨ P1_1_ k_) from by repeat (first | (with_reducible first | exact HK.out | apply Kept.alloc | apply Kept.drewN | apply Kept.drew) | exact HK.out)).1) : w.heap.size ≤ gb606)); replace HK := A0_ (Kept.below (S := (fun k_ => P0_1_ k_ ∨ P1_1_ k_)) (by repeat (first | (with_reducible first | exact HK.out | apply Kept.alloc | apply Kept.drewN | apply Kept.drew) | exact HK.out)) hb); have GE606 := A0_ ((by rw [hg]; exact (below_size (qm_ HB.out)) : w0.heap.size ≤ gb606)); replace HB := hs_ hb; clear hb hbox hg; obtain ⟨Ao67, co67, eo67⟩ := Kd.R_slice HO1_1.out; subst eo67) | ((with_reducible refine gate_dst (N := 3) rfl ?_); refine box_event ?hg (N := 3) ?hd (cs := #[.bool a1_0, .slice Ao67 l1_1.length co67, .int .i64 a1_2]) (t := 124) ?hr ?_; (case hd => rfl); (case hg => rfl); (case hr => first | (go_simp; done) | (go_simp; rfl)); intro gb607 hg w68 hbox hb; replace HO0_1 := A0_ (Kd.R_below (by exact rm_ HO0_1.out) hb); replace HO1_1 := A0_ (Kd.R_below (by exact rm_ HO1_1.out) hb); have BK607 := A0_ (hbox); have GW607 := A0_ ((by rw [hg]; exact (by first | exact HK.out.1 | exact (show Kept w _ (fun k_ => P0_1_ k_ ∨ P1_1_ k_) from by repeat (first | (with_reducible first | exact HK.out | apply Kept.alloc | apply Kept.drewN | apply Kept.drew | refine Kept.setCell ?_ (.inr GW606.out) _) | exact HK.out)).1) : w.heap.size ≤ gb607)); replace HK := A0_ (Kept.below (S := (fun k_ => P0_1_ k_ ∨ P1_1_ k_)) (by repeat (first | (with_reducible first | exact HK.out | apply Kept.alloc | apply Kept.drewN | apply Kept.drew | refine Kept.setCell ?_ (.inr GW606.out) _) | exact HK.out)) hb); have GE607 := A0_ ((by rw [hg]; exact (below_size qz_) : w0.heap.size ≤ gb607)); replace HB := hs_ hb; have NB606_607 := nl_ hg BK606; have NB607_606 := ng_ hg BK606; replace BK606 := bb_ BK606 hb; clear hb hbox hg))
   replace HO0_1 := A0_ (Kd.R_drew HO0_1.out)
   replace HO1_1 := A0_ (Kd.R_drew HO1_1.out)
   replace BK606 := A0_ (blk_drew BK606.out)
   replace BK607 := A0_ (blk_drew BK607.out)
   replace HK := A0_ (Kept.drew HK.out)
   replace HB := A0_ (below_drew1 HB.out)
   refine start_ (n := 6) (S := fun w' => w'.cell? ⟨gb606, 0, none⟩ = some (.bool a0_0) ∧ w'.cell? ⟨gb606, 1, none⟩ = some (.slice Ao65 l0_1.length co65) ∧ w'.cell? ⟨gb606, 2, none⟩ = some (.int .i64 a0_2) ∧ w'.cell? ⟨gb607, 0, none⟩ = some (.bool a1_0) ∧ w'.cell? ⟨gb607, 1, none⟩ = some (.slice Ao67 l1_1.length co67) ∧ w'.cell? ⟨gb607, 2, none⟩ = some (.int .i64 a1_2)) (ds := []) #[false, false, false, false, false, false] (by kernel_rfl) rfl rfl ⟨bC_ BK606.out 0, bC_ BK606.out 1, bC_ BK606.out 2, bC_ BK607.out 0, bC_ BK607.out 1, bC_ BK607.out 2⟩ (fun hHeld => ?_)
   generalize w68.drew = w69 at HO0_1 HO1_1 BK606 BK607 HK HB hHeld ⊢
   refine take_ (i := 0) (N := some 7) (v := ?_) (a' := ?_) #[true, false, false, false, false, false] rfl rfl (by kernel_rfl) (fun _ _ _ h => h) (Or.inl ⟨by rfl, ?_⟩) hHeld ?_ ?_
   rotate_left
   ·rintro w' ⟨s0, s1, s2, s3, s4, s5⟩
    go_simp
    with_reducible rfl
   rotate_left
   ·simp only [Act.put, sp_, i64_w, i32_w]
    rfl
   refine take_ (i := 2) (N := some 9) (v := ?_) (a' := ?_) #[true, false, true, false, false, false] rfl rfl (by kernel_rfl) (fun _ _ _ h => h) (Or.inl ⟨by rfl, ?_⟩) hHeld ?_ ?_
   rotate_left
   ·rintro w' ⟨s0, s1, s2, s3, s4, s5⟩
    go_simp
    with_reducible rfl
   rotate_left
   ·simp only [Act.put, sp_, i64_w, i32_w]
    rfl
   refine one_ (i := 1) (N := some 8) #[true, true, true, false, false, false] rfl rfl (by kernel_rfl) (by decide) (fun K hK => ?_)
   refine goes_ Try.func102 (by kernel_rfl) rfl #[.agg #[.bool a0_0, .slice Ao65 l0_1.length co65, .int .i64 a0_2]] (by rfl) rfl rfl (am_ rfl) ?_
   with_reducible refine (cutplaneref02_Sign.calls a0_0 _ _ l0_1 a0_2 t608 _ ?side1 ?side2 A3.out).mono ?_
   (case side1 => repeat (first | exact (Kd.R_reads' HO0_1.out).2.2 | (with_reducible refine Kd.C_alloc ?_ _) | (with_reducible refine Kd.C_drewN ?_ _) | (with_reducible refine Kd.C_drew ?_)))
   (case side2 => exact (Kd.R_reads' HO0_1.out).2.1)
   rintro e w70 ⟨rfl, hb⟩
   refine ⟨_, rfl, ?_⟩
   replace HO0_1 := A0_ (Kd.R_below (by exact rm_ HO0_1.out) hb)
   replace HO1_1 := A0_ (Kd.R_below (by exact rm_ HO1_1.out) hb)
   replace BK606 := bb_ BK606 hb
   replace BK607 := bb_ BK607 hb
   replace HK := A0_ (Kept.below (S := (fun k_ => P0_1_ k_ ∨ P1_1_ k_)) (by repeat (first | (with_reducible first | exact HK.out | apply Kept.alloc | apply Kept.drewN | apply Kept.drew | refine Kept.setCell ?_ (.inr GW606.out) _ | refine Kept.setCell ?_ (.inr GW607.out) _) | exact HK.out)) hb)
   replace HB := hs_ hb
   (try clear hb)
   refine hK.out _ _ ⟨bC_ BK606.out 0, bC_ BK606.out 1, bC_ BK606.out 2, bC_ BK607.out 0, bC_ BK607.out 1, bC_ BK607.out 2⟩ (fun hHeld => ?_)
   clear hK K
   refine norm_ (a' := ?_) ?_ ?_
   rotate_left
   ·show Act.put _ (some 8) _ = _
    simp only [Act.put, sp_, i64_w, i32_w]
    rfl
   refine one_ (i := 3) (N := some 10) #[true, true, true, true, false, false] rfl rfl (by kernel_rfl) (by decide) (fun K hK => ?_)
   refine goes_ Try.func102 (by kernel_rfl) rfl #[.agg #[.bool a1_0, .slice Ao67 l1_1.length co67, .int .i64 a1_2]] (by rfl) rfl rfl (am_ rfl) ?_
   with_reducible refine (cutplaneref02_Sign.calls a1_0 _ _ l1_1 a1_2 t609 _ ?side1 ?side2 A4.out).mono ?_
   (case side1 => repeat (first | exact (Kd.R_reads' HO1_1.out).2.2 | (with_reducible refine Kd.C_alloc ?_ _) | (with_reducible refine Kd.C_drewN ?_ _) | (with_reducible refine Kd.C_drew ?_)))
   (case side2 => exact (Kd.R_reads' HO1_1.out).2.1)
   rintro e w71 ⟨rfl, hb⟩
   refine ⟨_, rfl, ?_⟩
   replace HO0_1 := A0_ (Kd.R_below (by exact rm_ HO0_1.out) hb)
   replace HO1_1 := A0_ (Kd.R_below (by exact rm_ HO1_1.out) hb)
   replace BK606 := bb_ BK606 hb
   replace BK607 := bb_ BK607 hb
   replace HK := A0_ (Kept.below (S := (fun k_ => P0_1_ k_ ∨ P1_1_ k_)) (by repeat (first | (with_reducible first | exact HK.out | apply Kept.alloc | apply Kept.drewN | apply Kept.drew | refine Kept.setCell ?_ (.inr GW606.out) _ | refine Kept.setCell ?_ (.inr GW607.out) _) | exact HK.out)) hb)
   replace HB := hs_ hb
   (try clear hb)
   refine hK.out _ _ ⟨bC_ BK606.out 0, bC_ BK606.out 1, bC_ BK606.out 2, bC_ BK607.out 0, bC_ BK607.out 1, bC_ BK607.out 2⟩ (fun hHeld => ?_)
   clear hK K
   refine norm_ (a' := ?_) ?_ ?_
   rotate_left
   ·show Act.put _ (some 10) _ = _
    simp only [Act.put, sp_, i64_w, i32_w]
    rfl
   refine pure_ (i := 4) (N := some 5) (v := ?_) (a' := ?_) #[true, true, true, true, true, false] rfl rfl (by kernel_rfl) (fun _ _ _ h => h) (Or.inl ⟨by rfl, ?_⟩) ?_ ?_
   rotate_left
   ·intro w'
    go_simp
    with_reducible rfl
   rotate_left
   ·simp only [Act.put, sp_, i64_w, i32_w]
    rfl
   refine pure_ (i := 5) (N := some 6) (v := ?_) (a' := ?_) #[true, true, true, true, true, true] rfl rfl (by kernel_rfl) (fun _ _ _ h => h) (Or.inl ⟨by rfl, ?_⟩) ?_ ?_
   rotate_left
   ·intro w'
    go_simp
    with_reducible rfl
   rotate_left
   ·simp only [Act.put, sp_, i64_w, i32_w]
    rfl
   refine done_ (by kernel_rfl) ?_
   try go_wp2
   go_ret
   exact ⟨by first | rfl | (simp [errW_none, errW_some] <;> rfl) | (simp [*, errW_none, errW_some] <;> rfl), by repeat with_reducible first | exact qm_ HB.out | apply qA_ | apply qN_ | apply qD_ | refine bS_ ?_ (by assumption), by repeat (first | (with_reducible first | exact HK.out | apply Kept.alloc | apply Kept.drewN | apply Kept.drew | refine Kept.setCell ?_ (.inr GW606.out) _ | refine Kept.setCell ?_ (.inr GW607.out) _) | exact HK.out)⟩
  ·rw [if_neg c64] at H
   have c64b0 : decide (t608 < t609) = false := decide_eq_false c64
   clear c64
   obtain rfl := Option.some.inj H
   obtain ⟨Ao72, co72, eo72⟩ := Kd.R_slice HO0_1.out
   subst eo72
   go_enter Try.func85, Try.ntmps85
   try go_wp2_with (first | ((with_reducible refine gate_dst (N := 2) rfl ?_); refine box_event ?hg (N := 2) ?hd (cs := #[.bool a0_0, .slice Ao72 l0_1.length co72, .int .i64 a0_2]) (t := 124) ?hr ?_; (case hd => rfl); (case hg => rfl); (case hr => first | (go_simp; done) | (go_simp; rfl)); intro gb606 hg w73 hbox hb; replace HO0_1 := A0_ (Kd.R_below (by exact rm_ HO0_1.out) hb); replace HO1_1 := A0_ (Kd.R_below (by exact rm_ HO1_1.out) hb); have BK606 := A0_ (hbox); have GW606 := A0_ ((by rw [hg]; exact (by first | exact HK.out.1 | exact (show Kept w _ (fun k_ => P0_1_ k_ ∨ P1_1_ k_) from by repeat (first | (with_reducible first | exact HK.out | apply Kept.alloc | apply Kept.drewN | apply Kept.drew) | exact HK.out)).1) : w.heap.size ≤ gb606)); replace HK := A0_ (Kept.below (S := (fun k_ => P0_1_ k_ ∨ P1_1_ k_)) (by repeat (first | (with_reducible first | exact HK.out | apply Kept.alloc | apply Kept.drewN | apply Kept.drew) | exact HK.out)) hb); have GE606 := A0_ ((by rw [hg]; exact (below_size (qm_ HB.out)) : w0.heap.size ≤ gb606)); replace HB := hs_ hb; clear hb hbox hg; obtain ⟨Ao74, co74, eo74⟩ := Kd.R_slice HO1_1.out; subst eo74) | ((with_reducible refine gate_dst (N := 3) rfl ?_); refine box_event ?hg (N := 3) ?hd (cs := #[.bool a1_0, .slice Ao74 l1_1.length co74, .int .i64 a1_2]) (t := 124) ?hr ?_; (case hd => rfl); (case hg => rfl); (case hr => first | (go_simp; done) | (go_simp; rfl)); intro gb607 hg w75 hbox hb; replace HO0_1 := A0_ (Kd.R_below (by exact rm_ HO0_1.out) hb); replace HO1_1 := A0_ (Kd.R_below (by exact rm_ HO1_1.out) hb); have BK607 := A0_ (hbox); have GW607 := A0_ ((by rw [hg]; exact (by first | exact HK.out.1 | exact (show Kept w _ (fun k_ => P0_1_ k_ ∨ P1_1_ k_) from by repeat (first | (with_reducible first | exact HK.out | apply Kept.alloc | apply Kept.drewN | apply Kept.drew | refine Kept.setCell ?_ (.inr GW606.out) _) | exact HK.out)).1) : w.heap.size ≤ gb607)); replace HK := A0_ (Kept.below (S := (fun k_ => P0_1_ k_ ∨ P1_1_ k_)) (by repeat (first | (with_reducible first | exact HK.out | apply Kept.alloc | apply Kept.drewN | apply Kept.drew | refine Kept.setCell ?_ (.inr GW606.out) _) | exact HK.out)) hb); have GE607 := A0_ ((by rw [hg]; exact (below_size qz_) : w0.heap.size ≤ gb607)); replace HB := hs_ hb; have NB606_607 := nl_ hg BK606; have NB607_606 := ng_ hg BK606; replace BK606 := bb_ BK606 hb; clear hb hbox hg))
   replace HO0_1 := A0_ (Kd.R_drew HO0_1.out)
   replace HO1_1 := A0_ (Kd.R_drew HO1_1.out)
   replace BK606 := A0_ (blk_drew BK606.out)
   replace BK607 := A0_ (blk_drew BK607.out)
   replace HK := A0_ (Kept.drew HK.out)
   replace HB := A0_ (below_drew1 HB.out)
   refine start_ (n := 6) (S := fun w' => w'.cell? ⟨gb606, 0, none⟩ = some (.bool a0_0) ∧ w'.cell? ⟨gb606, 1, none⟩ = some (.slice Ao72 l0_1.length co72) ∧ w'.cell? ⟨gb606, 2, none⟩ = some (.int .i64 a0_2) ∧ w'.cell? ⟨gb607, 0, none⟩ = some (.bool a1_0) ∧ w'.cell? ⟨gb607, 1, none⟩ = some (.slice Ao74 l1_1.length co74) ∧ w'.cell? ⟨gb607, 2, none⟩ = some (.int .i64 a1_2)) (ds := []) #[false, false, false, false, false, false] (by kernel_rfl) rfl rfl ⟨bC_ BK606.out 0, bC_ BK606.out 1, bC_ BK606.out 2, bC_ BK607.out 0, bC_ BK607.out 1, bC_ BK607.out 2⟩ (fun hHeld => ?_)
   generalize w75.drew = w76 at HO0_1 HO1_1 BK606 BK607 HK HB hHeld ⊢
   refine take_ (i := 0) (N := some 7) (v := ?_) (a' := ?_) #[true, false, false, false, false, false] rfl rfl (by kernel_rfl) (fun _ _ _ h => h) (Or.inl ⟨by rfl, ?_⟩) hHeld ?_ ?_
   rotate_left
   ·rintro w' ⟨s0, s1, s2, s3, s4, s5⟩
    go_simp
    with_reducible rfl
   rotate_left
   ·simp only [Act.put, sp_, i64_w, i32_w]
    rfl
   refine take_ (i := 2) (N := some 9) (v := ?_) (a' := ?_) #[true, false, true, false, false, false] rfl rfl (by kernel_rfl) (fun _ _ _ h => h) (Or.inl ⟨by rfl, ?_⟩) hHeld ?_ ?_
   rotate_left
   ·rintro w' ⟨s0, s1, s2, s3, s4, s5⟩
    go_simp
    with_reducible rfl
   rotate_left
   ·simp only [Act.put, sp_, i64_w, i32_w]
    rfl
   refine one_ (i := 1) (N := some 8) #[true, true, true, false, false, false] rfl rfl (by kernel_rfl) (by decide) (fun K hK => ?_)
   refine goes_ Try.func102 (by kernel_rfl) rfl #[.agg #[.bool a0_0, .slice Ao72 l0_1.length co72, .int .i64 a0_2]] (by rfl) rfl rfl (am_ rfl) ?_
   with_reducible refine (cutplaneref02_Sign.calls a0_0 _ _ l0_1 a0_2 t608 _ ?side1 ?side2 A3.out).mono ?_
   (case side1 => repeat (first | exact (Kd.R_reads' HO0_1.out).2.2 | (with_reducible refine Kd.C_alloc ?_ _) | (with_reducible refine Kd.C_drewN ?_ _) | (with_reducible refine Kd.C_drew ?_)))
   (case side2 => exact (Kd.R_reads' HO0_1.out).2.1)
   rintro e w77 ⟨rfl, hb⟩
   refine ⟨_, rfl, ?_⟩
   replace HO0_1 := A0_ (Kd.R_below (by exact rm_ HO0_1.out) hb)
   replace HO1_1 := A0_ (Kd.R_below (by exact rm_ HO1_1.out) hb)
   replace BK606 := bb_ BK606 hb
   replace BK607 := bb_ BK607 hb
   replace HK := A0_ (Kept.below (S := (fun k_ => P0_1_ k_ ∨ P1_1_ k_)) (by repeat (first | (with_reducible first | exact HK.out | apply Kept.alloc | apply Kept.drewN | apply Kept.drew | refine Kept.setCell ?_ (.inr GW606.out) _ | refine Kept.setCell ?_ (.inr GW607.out) _) | exact HK.out)) hb)
   replace HB := hs_ hb
   (try clear hb)
   refine hK.out _ _ ⟨bC_ BK606.out 0, bC_ BK606.out 1, bC_ BK606.out 2, bC_ BK607.out 0, bC_ BK607.out 1, bC_ BK607.out 2⟩ (fun hHeld => ?_)
   clear hK K
   refine norm_ (a' := ?_) ?_ ?_
   rotate_left
   ·show Act.put _ (some 8) _ = _
    simp only [Act.put, sp_, i64_w, i32_w]
    rfl
   refine one_ (i := 3) (N := some 10) #[true, true, true, true, false, false] rfl rfl (by kernel_rfl) (by decide) (fun K hK => ?_)
   refine goes_ Try.func102 (by kernel_rfl) rfl #[.agg #[.bool a1_0, .slice Ao74 l1_1.length co74, .int .i64 a1_2]] (by rfl) rfl rfl (am_ rfl) ?_
   with_reducible refine (cutplaneref02_Sign.calls a1_0 _ _ l1_1 a1_2 t609 _ ?side1 ?side2 A4.out).mono ?_
   (case side1 => repeat (first | exact (Kd.R_reads' HO1_1.out).2.2 | (with_reducible refine Kd.C_alloc ?_ _) | (with_reducible refine Kd.C_drewN ?_ _) | (with_reducible refine Kd.C_drew ?_)))
   (case side2 => exact (Kd.R_reads' HO1_1.out).2.1)
   rintro e w78 ⟨rfl, hb⟩
   refine ⟨_, rfl, ?_⟩
   replace HO0_1 := A0_ (Kd.R_below (by exact rm_ HO0_1.out) hb)
   replace HO1_1 := A0_ (Kd.R_below (by exact rm_ HO1_1.out) hb)
   replace BK606 := bb_ BK606 hb
   replace BK607 := bb_ BK607 hb
   replace HK := A0_ (Kept.below (S := (fun k_ => P0_1_ k_ ∨ P1_1_ k_)) (by repeat (first | (with_reducible first | exact HK.out | apply Kept.alloc | apply Kept.drewN | apply Kept.drew | refine Kept.setCell ?_ (.inr GW606.out) _ | refine Kept.setCell ?_ (.inr GW607.out) _) | exact HK.out)) hb)
   replace HB := hs_ hb
   (try clear hb)
   refine hK.out _ _ ⟨bC_ BK606.out 0, bC_ BK606.out 1, bC_ BK606.out 2, bC_ BK607.out 0, bC_ BK607.out 1, bC_ BK607.out 2⟩ (fun hHeld => ?_)
   clear hK K
   refine norm_ (a' := ?_) ?_ ?_
   rotate_left
   ·show Act.put _ (some 10) _ = _
    simp only [Act.put, sp_, i64_w, i32_w]
    rfl
   refine pure_ (i := 4) (N := some 5) (v := ?_) (a' := ?_) #[true, true, true, true, true, false] rfl rfl (by kernel_rfl) (fun _ _ _ h => h) (Or.inl ⟨by rfl, ?_⟩) ?_ ?_
   rotate_left
   ·intro w'
    go_simp
    with_reducible rfl
   rotate_left
   ·simp only [Act.put, sp_, i64_w, i32_w]
    rfl
   refine pure_ (i := 5) (N := some 6) (v := ?_) (a' := ?_) #[true, true, true, true, true, true] rfl rfl (by kernel_rfl) (fun _ _ _ h => h) (Or.inl ⟨by rfl, ?_⟩) ?_ ?_
   rotate_left
   ·intro w'
    go_simp
    with_reducible rfl
   rotate_left
   ·simp only [Act.put, sp_, i64_w, i32_w]
    rfl
   refine done_ (by kernel_rfl) ?_
   try go_wp2
   go_ret
   exact ⟨by first | rfl | (simp [errW_none, errW_some] <;> rfl) | (simp [*, errW_none, errW_some] <;> rfl), by repeat with_reducible first | exact qm_ HB.out | apply qA_ | apply qN_ | apply qD_ | refine bS_ ?_ (by assumption), by repeat (first | (with_reducible first | exact HK.out | apply Kept.alloc | apply Kept.drewN | apply Kept.drew | refine Kept.setCell ?_ (.inr GW606.out) _ | refine Kept.setCell ?_ (.inr GW607.out) _) | exact HK.out)⟩
end Go.Proofs.Ytgaabjjenlbmhaa.PA
end
