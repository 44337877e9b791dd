/- Steps of Go functions that the law SpecialQuotients uses, told as plain Lean functions, each with the proof that its call comes to what it tells; words on memory; plain facts. No condition beyond those that each text names. -/
import Derived.Test.YtlgapmhjaaajfaaGreatProg
import Derived.WalkMore
import Derived.Test.YtlgapmhjaaajfaaGreatSSpecialQuotients0
import Derived.Test.YtlgapmhjaaajfaaGreatSSpecialQuotients1
import Derived.Test.YtlgapmhjaaajfaaGreatSSpecialQuotients2
import Derived.Test.YtlgapmhjaaajfaaGreatSSpecialQuotients3
import Derived.Test.YtlgapmhjaaajfaaGreatSSpecialQuotients5
import Derived.Test.YtlgapmhjaaajfaaGreatSSpecialQuotients6
import Derived.Test.YtlgapmhjaaajfaaGreatSSpecialQuotients7
set_option maxHeartbeats 16000000
set_option maxRecDepth 100000
section
namespace Go.Proofs.YtlgapmhjaaajfaaGreat.PA
open Go.RowKit Go.Proofs.YtlgapmhjaaajfaaGreatW.PrintWords Go.Proofs.YtlgapmhjaaajfaaGreatW.PrintLast Go.Proofs.YtlgapmhjaaajfaaGreatW.PrintMore
attribute [local go_sem] max2_int min2_int max_two min_two max_three min_three max_four min_four   -- for this text's walks alone
set_option linter.unusedVariables false
set_option linter.unusedSimpArgs false
mutual
def cutplaneref03_Of.j0 : Nat → Int → Int → Bool → Bool → List Int → Int → Option (Int × Bool)
 | 0, _, _, _, _, _, _ => none
 | k + 1, x0, x6, x35, x591000, x591001, x591002 => if x35 = true then (none) else ((cutplaneref03_Frac.f x0).bind fun t597 => ((cutplaneref03_Low.f x0).bind fun t598 => (if (wrap64 ((wrap64 (x6 - t597)) - 1)) < t598 then (none) else ((cutplaneref01_Up.f k x591001 (wrap64 (x591002 - (wrap64 ((wrap64 (x6 - t597)) - 1))))).bind fun t599 => (if 0 < (t599.length : Int) then (if (t599.length : Int) > 1 then (if 1 < (t599.length : Int) then (cutplaneref03_Of.j1 k x0 (wrap64 ((wrap64 (x6 - t597)) - 1)) (IntKind.u64.wrap ((IntKind.u64.wrap (rd t599 0)) + (IntKind.u64.wrap ((IntKind.u64.wrap (rd t599 1)) * 4294967296)))) x591000 x591001 x591002) else (none)) else (cutplaneref03_Of.j1 k x0 (wrap64 ((wrap64 (x6 - t597)) - 1)) (IntKind.u64.wrap (rd t599 0)) x591000 x591001 x591002)) else (none))))))
def cutplaneref03_Of.j1 : Nat → Int → Int → Int → Bool → List Int → Int → Option (Int × Bool)
 | 0, _, _, _, _, _, _ => none
 | k + 1, x0, x7, x9, x591000, x591001, x591002 => (cutplaneref03_Frac.f x0).bind fun t605 => (if 0 ≤ t605 then (if (shr .u64 x9 t605) > 0 then ((cutplaneref03_Frac.f x0).bind fun t606 => (if 0 ≤ t606 then ((cutplaneref03_Low.f x0).bind fun t607 => ((cutplaneref03_Join.f x0 x591000 (wrap64 ((wrap64 (x7 - t607)) + 1)) (IntKind.u64.wrap (x9 - (shl .u64 1 t606)))).bind fun t608 => (some (t608, true)))) else (none))) else ((cutplaneref03_Join.f x0 x591000 0 x9).bind fun t609 => (some (t609, true)))) else (none))
end
def cutplaneref03_Of.f (k : Nat) (a0 : Int) (a1_0 : Bool) (l1_1 : List Int) (a1_2 : Int) : Option (Int × Bool) := (cutplaneref02_Sign.f a1_0 l1_1 a1_2).bind fun t591 => (if t591 = 0 then (none) else ((cutplaneref02_Top.f k a1_0 l1_1 a1_2).bind fun t592 => ((cutplaneref03_Wide.f a0).bind fun t593 => (if t592 > t593 then (cutplaneref03_Of.j0 k a0 t592 true a1_0 l1_1 a1_2) else ((cutplaneref03_Low.f a0).bind fun t594 => (if a1_2 < t594 then (cutplaneref03_Of.j0 k a0 t592 true a1_0 l1_1 a1_2) else ((cutplaneref01_Len.f k l1_1).bind fun t595 => ((cutplaneref03_Frac.f a0).bind fun t596 => (cutplaneref03_Of.j0 k a0 t592 (decide (t595 > (wrap64 (t596 + 1)))) a1_0 l1_1 a1_2)))))))))
theorem cutplaneref03_Of.mono_l : ∀ k, (∀ y0 y1 y2 y3 y4 y5, LeO (cutplaneref03_Of.j0 k y0 y1 y2 y3 y4 y5) (cutplaneref03_Of.j0 (k + 1) y0 y1 y2 y3 y4 y5)) ∧ (∀ y0 y1 y2 y3 y4 y5, LeO (cutplaneref03_Of.j1 k y0 y1 y2 y3 y4 y5) (cutplaneref03_Of.j1 (k + 1) y0 y1 y2 y3 y4 y5))
 | 0 => ⟨fun _ _ _ _ _ _ r h => by simp [cutplaneref03_Of.j0] at h, fun _ _ _ _ _ _ r h => by simp [cutplaneref03_Of.j1] at h⟩
 | k + 1 => by
  obtain ⟨ih0, ih1⟩ := cutplaneref03_Of.mono_l k
  refine ⟨?_, ?_⟩
  ·intro y0 y1 y2 y3 y4 y5
   unfold cutplaneref03_Of.j0
   repeat' first
   | (with_reducible exact ih0 _ _ _ _ _ _)
   | (with_reducible exact ih1 _ _ _ _ _ _)
   | (with_reducible exact cutplaneref01_Len.mono _ _)
   | (with_reducible exact cutplaneref01_Up.mono _ _ _)
   | (with_reducible exact cutplaneref02_Top.mono _ _ _ _)
   | (with_reducible exact LeO.refl _)
   | (with_reducible exact LeO.none _)
   | (with_reducible refine LeO.ite ?_ ?_)
   | (with_reducible refine LeO.bind ?_ (fun _ => ?_))
   | exact ih0 _ _ _ _ _ _
   | exact ih1 _ _ _ _ _ _
   | exact cutplaneref01_Len.mono _ _
   | exact cutplaneref01_Up.mono _ _ _
   | exact cutplaneref02_Top.mono _ _ _ _
   | exact LeO.none _
   | refine LeO.ite ?_ ?_
   | refine LeO.bind ?_ (fun _ => ?_)
  ·intro y0 y1 y2 y3 y4 y5
   unfold cutplaneref03_Of.j1
   repeat' first
   | (with_reducible exact ih0 _ _ _ _ _ _)
   | (with_reducible exact ih1 _ _ _ _ _ _)
   | (with_reducible exact cutplaneref01_Len.mono _ _)
   | (with_reducible exact cutplaneref01_Up.mono _ _ _)
   | (with_reducible exact cutplaneref02_Top.mono _ _ _ _)
   | (with_reducible exact LeO.refl _)
   | (with_reducible exact LeO.none _)
   | (with_reducible refine LeO.ite ?_ ?_)
   | (with_reducible refine LeO.bind ?_ (fun _ => ?_))
   | exact ih0 _ _ _ _ _ _
   | exact ih1 _ _ _ _ _ _
   | exact cutplaneref01_Len.mono _ _
   | exact cutplaneref01_Up.mono _ _ _
   | exact cutplaneref02_Top.mono _ _ _ _
   | exact LeO.none _
   | refine LeO.ite ?_ ?_
   | refine LeO.bind ?_ (fun _ => ?_)
theorem cutplaneref03_Of.mono : ∀ a0 a1 a2 a3 k, LeO (cutplaneref03_Of.f k a0 a1 a2 a3) (cutplaneref03_Of.f (k + 1) a0 a1 a2 a3) := by
 intro a0 a1 a2 a3 k
 obtain ⟨ih0, ih1⟩ := cutplaneref03_Of.mono_l k
 unfold cutplaneref03_Of.f
 repeat' first
   | (with_reducible exact ih0 _ _ _ _ _ _)
   | (with_reducible exact ih1 _ _ _ _ _ _)
   | (with_reducible exact cutplaneref01_Len.mono _ _)
   | (with_reducible exact cutplaneref01_Up.mono _ _ _)
   | (with_reducible exact cutplaneref02_Top.mono _ _ _ _)
   | (with_reducible exact LeO.refl _)
   | (with_reducible exact LeO.none _)
   | (with_reducible refine LeO.ite ?_ ?_)
   | (with_reducible refine LeO.bind ?_ (fun _ => ?_))
   | exact ih0 _ _ _ _ _ _
   | exact ih1 _ _ _ _ _ _
   | exact cutplaneref01_Len.mono _ _
   | exact cutplaneref01_Up.mono _ _ _
   | exact cutplaneref02_Top.mono _ _ _ _
   | exact LeO.none _
   | refine LeO.ite ?_ ?_
   | refine LeO.bind ?_ (fun _ => ?_)
set_option maxHeartbeats 8000000 in
set_option maxRecDepth 100000 in
theorem cutplaneref03_Of.calls (k : Nat) (a0 : Int) (a1_0 : Bool) (A1_1 : Option Addr) (c1_1 : Nat) (l1_1 : List Int) (a1_2 : Int) (r1 : Int) (r2 : Bool) (w : World) (hr1_1 : Kd.C (Kd.int .u32) w A1_1 l1_1.length l1_1) (hc1_1 : l1_1.length ≤ c1_1) (h : cutplaneref03_Of.f k a0 a1_0 l1_1 a1_2 = some (r1, r2)) :
  Calls Tryz.prog 83 #[.int .u8 a0, .agg #[.bool a1_0, .slice A1_1 l1_1.length c1_1, .int .i64 a1_2]] w fun e w' => e = .returned (.tuple #[.int .u64 r1, .bool r2]) ∧ Below w.heap.size w w' := by
 have hu107 := Tryz.underlying107
 have hu61 := Tryz.underlying61
 have HR1_1 := A0_ hr1_1
 have HC1_1 := A0_ hc1_1
 clear hr1_1 hc1_1
 have HB := A0_ (Below.refl w.heap.size w)
 have H := h
 clear h
 unfold cutplaneref03_Of.f at H
 obtain ⟨t591, A3, H⟩ := bs_ H
 try dsimp -simprocs only at H
 obtain ⟨c4, H⟩ := id_ H
 have c4b0 : (t591 == 0) = false := beq_eq_false_iff_ne.mpr c4
 have c4b1 : (t591 != 0) = true := bne_iff_ne.mpr c4
 obtain ⟨t592, A5, H⟩ := bs_ H
 try dsimp -simprocs only at H
 have HC6 := A0_ H
 clear H
 go_enter Tryz.func83, Tryz.ntmps83
 go_upto_region 4 with (first | ((with_reducible refine gate_dst (N := 3) rfl ?_); refine box_event ?hg (N := 3) ?hd (cs := #[.bool a1_0, .slice A1_1 l1_1.length c1_1, .int .i64 a1_2]) (t := 107) ?hr ?_; (case hd => rfl); (case hg => rfl); (case hr => first | (go_simp; done) | (go_simp; rfl)); intro gb590 hg w7 hbox hb; have BK590 := A0_ (hbox); have GW590 := A0_ ((by rw [hg]; exact (below_size (qm_ HB.out)) : w.heap.size ≤ gb590)); have GE590 := GW590; replace HB := hs_ hb; clear hb hbox hg; have hcz8 := bc3_ BK590.out; have hfz8 := bf3_ BK590.out) | (go_at_call 70; (with_reducible refine (cutplaneref02_Sign.calls a1_0 _ _ l1_1 a1_2 t591 _ ?side1 ?side2 A3.out).mono ?_); (case side1 => repeat (first | exact (Kd.C_below HR1_1.out HB.out) | (with_reducible refine Kd.C_alloc ?_ _) | (with_reducible refine Kd.C_drewN ?_ _) | (with_reducible refine Kd.C_drew ?_))); (case side2 => exact HC1_1.out); rintro e w9 ⟨rfl, hb⟩; replace BK590 := bb_ BK590 hb; replace HB := hs_ hb; (try clear hb); have hcz10 := bc3_ BK590.out; have hfz10 := bf3_ BK590.out) | (go_at_call 78; (with_reducible refine (cutplaneref02_Top.calls k a1_0 _ _ l1_1 a1_2 t592 _ ?side1 ?side2 A5.out).mono ?_); (case side1 => repeat (first | exact (Kd.C_below HR1_1.out HB.out) | (with_reducible refine Kd.C_alloc ?_ _) | (with_reducible refine Kd.C_drewN ?_ _) | (with_reducible refine Kd.C_drew ?_))); (case side2 => exact HC1_1.out); rintro e w11 ⟨rfl, hb⟩; replace BK590 := bb_ BK590 hb; replace HB := hs_ hb; (try clear hb)))
 repeat (go_quiet (first | ((with_reducible refine gate_dst (N := 3) rfl ?_); refine box_event ?hg (N := 3) ?hd (cs := #[.bool a1_0, .slice A1_1 l1_1.length c1_1, .int .i64 a1_2]) (t := 107) ?hr ?_; (case hd => rfl); (case hg => rfl); (case hr => first | (go_simp; done) | (go_simp; rfl)); intro gb590 hg w7 hbox hb; have BK590 := A0_ (hbox); have GW590 := A0_ ((by rw [hg]; exact (below_size (qm_ HB.out)) : w.heap.size ≤ gb590)); have GE590 := GW590; replace HB := hs_ hb; clear hb hbox hg; have hcz8 := bc3_ BK590.out; have hfz8 := bf3_ BK590.out) | (go_at_call 70; (with_reducible refine (cutplaneref02_Sign.calls a1_0 _ _ l1_1 a1_2 t591 _ ?side1 ?side2 A3.out).mono ?_); (case side1 => repeat (first | exact (Kd.C_below HR1_1.out HB.out) | (with_reducible refine Kd.C_alloc ?_ _) | (with_reducible refine Kd.C_drewN ?_ _) | (with_reducible refine Kd.C_drew ?_))); (case side2 => exact HC1_1.out); rintro e w9 ⟨rfl, hb⟩; replace BK590 := bb_ BK590 hb; replace HB := hs_ hb; (try clear hb); have hcz10 := bc3_ BK590.out; have hfz10 := bf3_ BK590.out) | (go_at_call 78; (with_reducible refine (cutplaneref02_Top.calls k a1_0 _ _ l1_1 a1_2 t592 _ ?side1 ?side2 A5.out).mono ?_); (case side1 => repeat (first | exact (Kd.C_below HR1_1.out HB.out) | (with_reducible refine Kd.C_alloc ?_ _) | (with_reducible refine Kd.C_drewN ?_ _) | (with_reducible refine Kd.C_drew ?_))); (case side2 => exact HC1_1.out); rintro e w11 ⟨rfl, hb⟩; replace BK590 := bb_ BK590 hb; replace HB := hs_ hb; (try clear hb))); go_upto_region 4 with (first | ((with_reducible refine gate_dst (N := 3) rfl ?_); refine box_event ?hg (N := 3) ?hd (cs := #[.bool a1_0, .slice A1_1 l1_1.length c1_1, .int .i64 a1_2]) (t := 107) ?hr ?_; (case hd => rfl); (case hg => rfl); (case hr => first | (go_simp; done) | (go_simp; rfl)); intro gb590 hg w7 hbox hb; have BK590 := A0_ (hbox); have GW590 := A0_ ((by rw [hg]; exact (below_size (qm_ HB.out)) : w.heap.size ≤ gb590)); have GE590 := GW590; replace HB := hs_ hb; clear hb hbox hg; have hcz8 := bc3_ BK590.out; have hfz8 := bf3_ BK590.out) | (go_at_call 70; (with_reducible refine (cutplaneref02_Sign.calls a1_0 _ _ l1_1 a1_2 t591 _ ?side1 ?side2 A3.out).mono ?_); (case side1 => repeat (first | exact (Kd.C_below HR1_1.out HB.out) | (with_reducible refine Kd.C_alloc ?_ _) | (with_reducible refine Kd.C_drewN ?_ _) | (with_reducible refine Kd.C_drew ?_))); (case side2 => exact HC1_1.out); rintro e w9 ⟨rfl, hb⟩; replace BK590 := bb_ BK590 hb; replace HB := hs_ hb; (try clear hb); have hcz10 := bc3_ BK590.out; have hfz10 := bf3_ BK590.out) | (go_at_call 78; (with_reducible refine (cutplaneref02_Top.calls k a1_0 _ _ l1_1 a1_2 t592 _ ?side1 ?side2 A5.out).mono ?_); (case side1 => repeat (first | exact (Kd.C_below HR1_1.out HB.out) | (with_reducible refine Kd.C_alloc ?_ _) | (with_reducible refine Kd.C_drewN ?_ _) | (with_reducible refine Kd.C_drew ?_))); (case side2 => exact HC1_1.out); rintro e w11 ⟨rfl, hb⟩; replace BK590 := bb_ BK590 hb; replace HB := hs_ hb; (try clear hb))))
 (try simp only [Act.put, sp_])
 go_cut [35] (fun v35 wc => ∃ (kq : Nat) (x35_5 : Bool), v35 = .bool x35_5 ∧ Aside0 (cutplaneref03_Of.j0 kq a0 t592 x35_5 a1_0 l1_1 a1_2 = some (r1, r2)) ∧ Aside0 (kq ≤ k) ∧ Aside0 (wc.heap[gb590]? = some (.cells #[.bool a1_0, (.slice A1_1 l1_1.length c1_1), .int .i64 a1_2] 107 (0, 0))) ∧ Aside0 (Below w.heap.size w wc))
 case first =>
  have H := HC6.out
  clear HC6
  obtain ⟨t593, A12, H⟩ := bs_ H
  try dsimp -simprocs only at H
  by_cases c13 : t592 > t593
  ·rw [if_pos c13] at H
   have c13b0 : decide (t593 < t592) = true := decide_eq_true c13
   clear c13
   (first | rw [c13b0] | (simp only [i64_w, i32_w]; rw [c13b0]) | skip)
   have H' := A0_ H
   clear H
   go_wp2_with (first | (go_at_call 81; (with_reducible refine (cutplaneref03_Wide.calls a0 t593 _ A12.out).mono ?_); rintro e w' ⟨rfl, ⟨nd, rfl⟩⟩; (try first | exact ⟨rfl, _, World.drewN_drewN _ _ _⟩ | exact ⟨rfl, _, Eq.trans (World.drewN_drewN _ _ _) (congrArg (World.drewN _) (Nat.add_assoc _ _ _))⟩)))
   repeat (go_quiet (first | (go_at_call 81; (with_reducible refine (cutplaneref03_Wide.calls a0 t593 _ A12.out).mono ?_); rintro e w' ⟨rfl, ⟨nd, rfl⟩⟩; (try first | exact ⟨rfl, _, World.drewN_drewN _ _ _⟩ | exact ⟨rfl, _, Eq.trans (World.drewN_drewN _ _ _) (congrArg (World.drewN _) (Nat.add_assoc _ _ _))⟩))); try go_wp2_with (first | (go_at_call 81; (with_reducible refine (cutplaneref03_Wide.calls a0 t593 _ A12.out).mono ?_); rintro e w' ⟨rfl, ⟨nd, rfl⟩⟩; (try first | exact ⟨rfl, _, World.drewN_drewN _ _ _⟩ | exact ⟨rfl, _, Eq.trans (World.drewN_drewN _ _ _) (congrArg (World.drewN _) (Nat.add_assoc _ _ _))⟩))))
   go_meet
   case rel => exact ⟨_, (true), (by first | rfl | (simp; done) | (simp [i64_w, i32_w]; done) | (simp [*]; done)), H', ⟨by first | omega | exact Nat.le_refl _⟩, ⟨bm_ BK590.out⟩, ⟨qz_⟩⟩
  ·rw [if_neg c13] at H
   have c13b0 : decide (t593 < t592) = false := decide_eq_false c13
   clear c13
   (first | rw [c13b0] | (simp only [i64_w, i32_w]; rw [c13b0]) | skip)
   obtain ⟨t594, A14, H⟩ := bs_ H
   try dsimp -simprocs only at H
   by_cases c15 : a1_2 < t594
   ·rw [if_pos c15] at H
    have c15b0 : decide (a1_2 < t594) = true := decide_eq_true c15
    clear c15
    have H' := A0_ H
    clear H
    go_wp2_with (first | (go_at_call 81; (with_reducible refine (cutplaneref03_Wide.calls a0 t593 _ A12.out).mono ?_); rintro e w' ⟨rfl, ⟨nd, rfl⟩⟩; (try first | exact ⟨rfl, _, World.drewN_drewN _ _ _⟩ | exact ⟨rfl, _, Eq.trans (World.drewN_drewN _ _ _) (congrArg (World.drewN _) (Nat.add_assoc _ _ _))⟩); have hcz16 := bc3_ BK590.out; have hfz16 := bf3_ BK590.out) | (go_at_call 79; (with_reducible refine (cutplaneref03_Low.calls a0 t594 _ A14.out).mono ?_); rintro e w' ⟨rfl, ⟨nd, rfl⟩⟩; (try first | exact ⟨rfl, _, World.drewN_drewN _ _ _⟩ | exact ⟨rfl, _, Eq.trans (World.drewN_drewN _ _ _) (congrArg (World.drewN _) (Nat.add_assoc _ _ _))⟩)))
    repeat (go_quiet (first | (go_at_call 81; (with_reducible refine (cutplaneref03_Wide.calls a0 t593 _ A12.out).mono ?_); rintro e w' ⟨rfl, ⟨nd, rfl⟩⟩; (try first | exact ⟨rfl, _, World.drewN_drewN _ _ _⟩ | exact ⟨rfl, _, Eq.trans (World.drewN_drewN _ _ _) (congrArg (World.drewN _) (Nat.add_assoc _ _ _))⟩); have hcz16 := bc3_ BK590.out; have hfz16 := bf3_ BK590.out) | (go_at_call 79; (with_reducible refine (cutplaneref03_Low.calls a0 t594 _ A14.out).mono ?_); rintro e w' ⟨rfl, ⟨nd, rfl⟩⟩; (try first | exact ⟨rfl, _, World.drewN_drewN _ _ _⟩ | exact ⟨rfl, _, Eq.trans (World.drewN_drewN _ _ _) (congrArg (World.drewN _) (Nat.add_assoc _ _ _))⟩))); try go_wp2_with (first | (go_at_call 81; (with_reducible refine (cutplaneref03_Wide.calls a0 t593 _ A12.out).mono ?_); rintro e w' ⟨rfl, ⟨nd, rfl⟩⟩; (try first | exact ⟨rfl, _, World.drewN_drewN _ _ _⟩ | exact ⟨rfl, _, Eq.trans (World.drewN_drewN _ _ _) (congrArg (World.drewN _) (Nat.add_assoc _ _ _))⟩); have hcz16 := bc3_ BK590.out; have hfz16 := bf3_ BK590.out) | (go_at_call 79; (with_reducible refine (cutplaneref03_Low.calls a0 t594 _ A14.out).mono ?_); rintro e w' ⟨rfl, ⟨nd, rfl⟩⟩; (try first | exact ⟨rfl, _, World.drewN_drewN _ _ _⟩ | exact ⟨rfl, _, Eq.trans (World.drewN_drewN _ _ _) (congrArg (World.drewN _) (Nat.add_assoc _ _ _))⟩))))
    go_meet
    case rel => exact ⟨_, (true), (by first | rfl | (simp; done) | (simp [i64_w, i32_w]; done) | (simp [*]; done)), H', ⟨by first | omega | exact Nat.le_refl _⟩, ⟨bm_ BK590.out⟩, ⟨qz_⟩⟩
   ·rw [if_neg c15] at H
    have c15b0 : decide (a1_2 < t594) = false := decide_eq_false c15
    clear c15
    obtain ⟨t595, A17, H⟩ := bs_ H
    try dsimp -simprocs only at H
    obtain ⟨t596, A18, H⟩ := bs_ H
    try dsimp -simprocs only at H
    have H' := A0_ H
    clear H
    go_wp2_with (first | (go_at_call 81; (with_reducible refine (cutplaneref03_Wide.calls a0 t593 _ A12.out).mono ?_); rintro e w' ⟨rfl, ⟨nd, rfl⟩⟩; (try first | exact ⟨rfl, _, World.drewN_drewN _ _ _⟩ | exact ⟨rfl, _, Eq.trans (World.drewN_drewN _ _ _) (congrArg (World.drewN _) (Nat.add_assoc _ _ _))⟩); have hcz19 := bc3_ BK590.out; have hfz19 := bf3_ BK590.out) | (go_at_call 79; (with_reducible refine (cutplaneref03_Low.calls a0 t594 _ A14.out).mono ?_); rintro e w' ⟨rfl, ⟨nd, rfl⟩⟩; (try first | exact ⟨rfl, _, World.drewN_drewN _ _ _⟩ | exact ⟨rfl, _, Eq.trans (World.drewN_drewN _ _ _) (congrArg (World.drewN _) (Nat.add_assoc _ _ _))⟩)) | (go_at_call 95; (with_reducible refine (cutplaneref01_Len.calls k _ _ l1_1 t595 _ ?side1 ?side2 A17.out).mono ?_); (case side1 => repeat (first | exact (Kd.C_below HR1_1.out qz_) | (with_reducible refine Kd.C_alloc ?_ _) | (with_reducible refine Kd.C_drewN ?_ _) | (with_reducible refine Kd.C_drew ?_))); (case side2 => exact HC1_1.out); rintro e w' ⟨rfl, ⟨nd, rfl⟩⟩; (try first | exact ⟨rfl, _, World.drewN_drewN _ _ _⟩ | exact ⟨rfl, _, Eq.trans (World.drewN_drewN _ _ _) (congrArg (World.drewN _) (Nat.add_assoc _ _ _))⟩)) | (go_at_call 47; (with_reducible refine (cutplaneref03_Frac.calls a0 t596 _ A18.out).mono ?_); rintro e w' ⟨rfl, ⟨nd, rfl⟩⟩; (try first | exact ⟨rfl, _, World.drewN_drewN _ _ _⟩ | exact ⟨rfl, _, Eq.trans (World.drewN_drewN _ _ _) (congrArg (World.drewN _) (Nat.add_assoc _ _ _))⟩)))
    repeat (go_quiet (first | (go_at_call 81; (with_reducible refine (cutplaneref03_Wide.calls a0 t593 _ A12.out).mono ?_); rintro e w' ⟨rfl, ⟨nd, rfl⟩⟩; (try first | exact ⟨rfl, _, World.drewN_drewN _ _ _⟩ | exact ⟨rfl, _, Eq.trans (World.drewN_drewN _ _ _) (congrArg (World.drewN _) (Nat.add_assoc _ _ _))⟩); have hcz19 := bc3_ BK590.out; have hfz19 := bf3_ BK590.out) | (go_at_call 79; (with_reducible refine (cutplaneref03_Low.calls a0 t594 _ A14.out).mono ?_); rintro e w' ⟨rfl, ⟨nd, rfl⟩⟩; (try first | exact ⟨rfl, _, World.drewN_drewN _ _ _⟩ | exact ⟨rfl, _, Eq.trans (World.drewN_drewN _ _ _) (congrArg (World.drewN _) (Nat.add_assoc _ _ _))⟩)) | (go_at_call 95; (with_reducible refine (cutplaneref01_Len.calls k _ _ l1_1 t595 _ ?side1 ?side2 A17.out).mono ?_); (case side1 => repeat (first | exact (Kd.C_below HR1_1.out qz_) | (with_reducible refine Kd.C_alloc ?_ _) | (with_reducible refine Kd.C_drewN ?_ _) | (with_reducible refine Kd.C_drew ?_))); (case side2 => exact HC1_1.out); rintro e w' ⟨rfl, ⟨nd, rfl⟩⟩; (try first | exact ⟨rfl, _, World.drewN_drewN _ _ _⟩ | exact ⟨rfl, _, Eq.trans (World.drewN_drewN _ _ _) (congrArg (World.drewN _) (Nat.add_assoc _ _ _))⟩)) | (go_at_call 47; (with_reducible refine (cutplaneref03_Frac.calls a0 t596 _ A18.out).mono ?_); rintro e w' ⟨rfl, ⟨nd, rfl⟩⟩; (try first | exact ⟨rfl, _, World.drewN_drewN _ _ _⟩ | exact ⟨rfl, _, Eq.trans (World.drewN_drewN _ _ _) (congrArg (World.drewN _) (Nat.add_assoc _ _ _))⟩))); try go_wp2_with (first | (go_at_call 81; (with_reducible refine (cutplaneref03_Wide.calls a0 t593 _ A12.out).mono ?_); rintro e w' ⟨rfl, ⟨nd, rfl⟩⟩; (try first | exact ⟨rfl, _, World.drewN_drewN _ _ _⟩ | exact ⟨rfl, _, Eq.trans (World.drewN_drewN _ _ _) (congrArg (World.drewN _) (Nat.add_assoc _ _ _))⟩); have hcz19 := bc3_ BK590.out; have hfz19 := bf3_ BK590.out) | (go_at_call 79; (with_reducible refine (cutplaneref03_Low.calls a0 t594 _ A14.out).mono ?_); rintro e w' ⟨rfl, ⟨nd, rfl⟩⟩; (try first | exact ⟨rfl, _, World.drewN_drewN _ _ _⟩ | exact ⟨rfl, _, Eq.trans (World.drewN_drewN _ _ _) (congrArg (World.drewN _) (Nat.add_assoc _ _ _))⟩)) | (go_at_call 95; (with_reducible refine (cutplaneref01_Len.calls k _ _ l1_1 t595 _ ?side1 ?side2 A17.out).mono ?_); (case side1 => repeat (first | exact (Kd.C_below HR1_1.out qz_) | (with_reducible refine Kd.C_alloc ?_ _) | (with_reducible refine Kd.C_drewN ?_ _) | (with_reducible refine Kd.C_drew ?_))); (case side2 => exact HC1_1.out); rintro e w' ⟨rfl, ⟨nd, rfl⟩⟩; (try first | exact ⟨rfl, _, World.drewN_drewN _ _ _⟩ | exact ⟨rfl, _, Eq.trans (World.drewN_drewN _ _ _) (congrArg (World.drewN _) (Nat.add_assoc _ _ _))⟩)) | (go_at_call 47; (with_reducible refine (cutplaneref03_Frac.calls a0 t596 _ A18.out).mono ?_); rintro e w' ⟨rfl, ⟨nd, rfl⟩⟩; (try first | exact ⟨rfl, _, World.drewN_drewN _ _ _⟩ | exact ⟨rfl, _, Eq.trans (World.drewN_drewN _ _ _) (congrArg (World.drewN _) (Nat.add_assoc _ _ _))⟩))))
    go_meet
    case rel => exact ⟨_, (decide (t595 > (wrap64 (t596 + 1)))), (by first | rfl | (simp; done) | (simp [i64_w, i32_w]; done) | (simp [*]; done)), H', ⟨by first | omega | exact Nat.le_refl _⟩, ⟨bm_ BK590.out⟩, ⟨qz_⟩⟩
 case rest =>
  clear HC6
  try clear c1
  try clear p2
  try clear c4
  try clear c4b0
  try clear c4b1
  try clear p6
  try clear c8
  try clear c13
  try clear c13b0
  try clear c15
  try clear c15b0
  try clear hcz10
  try clear hcz16
  try clear hcz19
  try clear hcz8
  try clear hfz10
  try clear hfz16
  try clear hfz19
  try clear hfz8
  obtain ⟨kq, x35_5, rfl, HA, HJ5, BK590, HB⟩ := hcut
  cases kq with
  | zero => exact absurd HA.out (by simp [cutplaneref03_Of.j0])
  | succ kj5 =>
   have H := HA.out
   clear HA
   simp only [cutplaneref03_Of.j0] at H
   by_cases c20 : x35_5 = true
   ·subst c20
    rw [if_pos rfl] at H
    exact absurd H (by simp)
   ·replace c20 := Bool.eq_false_iff.mpr c20
    subst c20
    rw [if_neg (show ¬ (false = true) by decide)] at H
    obtain ⟨t597, A21, H⟩ := bs_ H
    try dsimp -simprocs only at H
    obtain ⟨t598, A22, H⟩ := bs_ H
    try dsimp -simprocs only at H
    obtain ⟨c23, H⟩ := id_ H
    have c23b0 : decide ((wrap64 ((wrap64 (t592 - t597)) - 1)) < t598) = false := decide_eq_false c23
    clear c23
    obtain ⟨t599, A24, H⟩ := bs_ H
    try dsimp -simprocs only at H
    obtain ⟨(c25 : 0 < (t599.length : Int)), H⟩ := ic_ H
    have c25b0 : decide (0 < (t599.length : Int)) = true := decide_eq_true c25
    have c25b1 : decide (0 < t599.length) = true := decide_eq_true (by omega)
    clear c25
    have HC26 := A0_ H
    clear H
    go_upto_if 60 with (first | (go_at_call 47; (with_reducible refine (cutplaneref03_Frac.calls a0 t597 _ A21.out).mono ?_); rintro e w' ⟨rfl, ⟨nd, rfl⟩⟩; (try first | exact ⟨rfl, _, World.drewN_drewN _ _ _⟩ | exact ⟨rfl, _, Eq.trans (World.drewN_drewN _ _ _) (congrArg (World.drewN _) (Nat.add_assoc _ _ _))⟩)) | (go_at_call 79; (with_reducible refine (cutplaneref03_Low.calls a0 t598 _ A22.out).mono ?_); rintro e w' ⟨rfl, ⟨nd, rfl⟩⟩; (try first | exact ⟨rfl, _, World.drewN_drewN _ _ _⟩ | exact ⟨rfl, _, Eq.trans (World.drewN_drewN _ _ _) (congrArg (World.drewN _) (Nat.add_assoc _ _ _))⟩); have hcz27 := bc3_ BK590.out; have hfz27 := bf3_ BK590.out) | (go_at_call 89; (with_reducible refine (cutplaneref01_Up.calls kj5 _ _ l1_1 (wrap64 (a1_2 - (wrap64 ((wrap64 (t592 - t597)) - 1)))) t599 _ ?side1 ?side2 A24.out).mono ?_); (case side1 => repeat (first | exact (Kd.C_below HR1_1.out qz_) | (with_reducible refine Kd.C_alloc ?_ _) | (with_reducible refine Kd.C_drewN ?_ _) | (with_reducible refine Kd.C_drew ?_))); (case side2 => exact HC1_1.out); rintro e w28 ⟨v600, rfl, ho0, hb⟩; have HO601 := A0_ (Kd.V_lower (Kd.V_mono (ok' := fun k_ => k_ ≠ gb590) ho0 (fun k_ hk_ => (Kd.freshB (bm_ BK590.out) k_ hk_))) (below_size qz_)); replace BK590 := bb_ BK590 hb; replace HB := hs_ hb; (try clear hb); (try clear ho0); obtain ⟨Ao29, co29, eo29⟩ := Kd.V_slice HO601.out; subst eo29; have p602 : 0 ≤ (0 : Int) := (by omega); have q602 : 0 < (t599.length : Int) := of_decide_eq_true (by first | (with_reducible assumption) | assumption); obtain ⟨ad602, e602, hx602_0⟩ := Kd.at_int (Kd.V_reads' HO601.out).2.2 0 p602 q602; cases e602; have qi602 : (0 < t599.length) = True := eq_true (by omega); (try rw [show ((0 : Int)).toNat = 0 from rfl] at hx602_0); (try rw [Addr.add_zero'] at hx602_0); replace p602 := eq_true p602; replace q602 := eq_true q602))
    repeat (go_quiet (first | (go_at_call 47; (with_reducible refine (cutplaneref03_Frac.calls a0 t597 _ A21.out).mono ?_); rintro e w' ⟨rfl, ⟨nd, rfl⟩⟩; (try first | exact ⟨rfl, _, World.drewN_drewN _ _ _⟩ | exact ⟨rfl, _, Eq.trans (World.drewN_drewN _ _ _) (congrArg (World.drewN _) (Nat.add_assoc _ _ _))⟩)) | (go_at_call 79; (with_reducible refine (cutplaneref03_Low.calls a0 t598 _ A22.out).mono ?_); rintro e w' ⟨rfl, ⟨nd, rfl⟩⟩; (try first | exact ⟨rfl, _, World.drewN_drewN _ _ _⟩ | exact ⟨rfl, _, Eq.trans (World.drewN_drewN _ _ _) (congrArg (World.drewN _) (Nat.add_assoc _ _ _))⟩); have hcz27 := bc3_ BK590.out; have hfz27 := bf3_ BK590.out) | (go_at_call 89; (with_reducible refine (cutplaneref01_Up.calls kj5 _ _ l1_1 (wrap64 (a1_2 - (wrap64 ((wrap64 (t592 - t597)) - 1)))) t599 _ ?side1 ?side2 A24.out).mono ?_); (case side1 => repeat (first | exact (Kd.C_below HR1_1.out qz_) | (with_reducible refine Kd.C_alloc ?_ _) | (with_reducible refine Kd.C_drewN ?_ _) | (with_reducible refine Kd.C_drew ?_))); (case side2 => exact HC1_1.out); rintro e w28 ⟨v600, rfl, ho0, hb⟩; have HO601 := A0_ (Kd.V_lower (Kd.V_mono (ok' := fun k_ => k_ ≠ gb590) ho0 (fun k_ hk_ => (Kd.freshB (bm_ BK590.out) k_ hk_))) (below_size qz_)); replace BK590 := bb_ BK590 hb; replace HB := hs_ hb; (try clear hb); (try clear ho0); obtain ⟨Ao29, co29, eo29⟩ := Kd.V_slice HO601.out; subst eo29; have p602 : 0 ≤ (0 : Int) := (by omega); have q602 : 0 < (t599.length : Int) := of_decide_eq_true (by first | (with_reducible assumption) | assumption); obtain ⟨ad602, e602, hx602_0⟩ := Kd.at_int (Kd.V_reads' HO601.out).2.2 0 p602 q602; cases e602; have qi602 : (0 < t599.length) = True := eq_true (by omega); (try rw [show ((0 : Int)).toNat = 0 from rfl] at hx602_0); (try rw [Addr.add_zero'] at hx602_0); replace p602 := eq_true p602; replace q602 := eq_true q602)); go_upto_if 60 with (first | (go_at_call 47; (with_reducible refine (cutplaneref03_Frac.calls a0 t597 _ A21.out).mono ?_); rintro e w' ⟨rfl, ⟨nd, rfl⟩⟩; (try first | exact ⟨rfl, _, World.drewN_drewN _ _ _⟩ | exact ⟨rfl, _, Eq.trans (World.drewN_drewN _ _ _) (congrArg (World.drewN _) (Nat.add_assoc _ _ _))⟩)) | (go_at_call 79; (with_reducible refine (cutplaneref03_Low.calls a0 t598 _ A22.out).mono ?_); rintro e w' ⟨rfl, ⟨nd, rfl⟩⟩; (try first | exact ⟨rfl, _, World.drewN_drewN _ _ _⟩ | exact ⟨rfl, _, Eq.trans (World.drewN_drewN _ _ _) (congrArg (World.drewN _) (Nat.add_assoc _ _ _))⟩); have hcz27 := bc3_ BK590.out; have hfz27 := bf3_ BK590.out) | (go_at_call 89; (with_reducible refine (cutplaneref01_Up.calls kj5 _ _ l1_1 (wrap64 (a1_2 - (wrap64 ((wrap64 (t592 - t597)) - 1)))) t599 _ ?side1 ?side2 A24.out).mono ?_); (case side1 => repeat (first | exact (Kd.C_below HR1_1.out qz_) | (with_reducible refine Kd.C_alloc ?_ _) | (with_reducible refine Kd.C_drewN ?_ _) | (with_reducible refine Kd.C_drew ?_))); (case side2 => exact HC1_1.out); rintro e w28 ⟨v600, rfl, ho0, hb⟩; have HO601 := A0_ (Kd.V_lower (Kd.V_mono (ok' := fun k_ => k_ ≠ gb590) ho0 (fun k_ hk_ => (Kd.freshB (bm_ BK590.out) k_ hk_))) (below_size qz_)); replace BK590 := bb_ BK590 hb; replace HB := hs_ hb; (try clear hb); (try clear ho0); obtain ⟨Ao29, co29, eo29⟩ := Kd.V_slice HO601.out; subst eo29; have p602 : 0 ≤ (0 : Int) := (by omega); have q602 : 0 < (t599.length : Int) := of_decide_eq_true (by first | (with_reducible assumption) | assumption); obtain ⟨ad602, e602, hx602_0⟩ := Kd.at_int (Kd.V_reads' HO601.out).2.2 0 p602 q602; cases e602; have qi602 : (0 < t599.length) = True := eq_true (by omega); (try rw [show ((0 : Int)).toNat = 0 from rfl] at hx602_0); (try rw [Addr.add_zero'] at hx602_0); replace p602 := eq_true p602; replace q602 := eq_true q602)))
    (try simp only [Act.put, sp_])
    go_cut [9] (fun v9 wc => ∃ (kq : Nat) (x9_25 : Int), v9 = .int .u64 x9_25 ∧ Aside0 (cutplaneref03_Of.j1 kq a0 (wrap64 ((wrap64 (t592 - t597)) - 1)) x9_25 a1_0 l1_1 a1_2 = some (r1, r2)) ∧ Aside0 (kq ≤ kj5) ∧ Aside0 (wc.heap[gb590]? = some (.cells #[.bool a1_0, (.slice A1_1 l1_1.length c1_1), .int .i64 a1_2] 107 (0, 0))) ∧ Aside0 (Below w.heap.size w wc))
    case first =>
     have H := HC26.out
     clear HC26
     by_cases c30 : (t599.length : Int) > 1
     ·rw [if_pos c30] at H
      have c30b0 : decide (1 < (t599.length : Int)) = true := decide_eq_true c30
      have c30b1 : decide (1 < t599.length) = true := decide_eq_true (by omega)
      clear c30
      (first | rw [c30b0] | (simp only [i64_w, i32_w]; rw [c30b0]) | skip)
      obtain ⟨(c31 : 1 < (t599.length : Int)), H⟩ := ic_ H
      have c31b0 : decide (1 < (t599.length : Int)) = true := decide_eq_true c31
      have c31b1 : decide (1 < t599.length) = true := decide_eq_true (by omega)
      clear c31
      have H' := A0_ H
      clear H
      have p603 : 0 ≤ (1 : Int) := (by omega)
      have q603 : 1 < (t599.length : Int) := of_decide_eq_true (by first | (with_reducible assumption) | assumption)
      obtain ⟨ad603, e603, hx603_0⟩ := Kd.at_int (Kd.V_reads' HO601.out).2.2 1 p603 q603
      obtain rfl : ad602 = ad603 := (by injection e603)
      (try simp only [show (1 : Int).toNat = 1 from rfl, Nat.reduceMul, Nat.reduceEqDiff, Go.Addr.add, ↓reduceIte] at hx603_0)
      have qi603 : (1 < t599.length) = True := eq_true (by omega)
      (try rw [show ((1 : Int)).toNat = 1 from rfl] at hx603_0)
      replace p603 := eq_true p603
      replace q603 := eq_true q603
      go_wp2
      repeat (go_quiet (fail); try go_wp2)
      go_meet
      case rel => exact ⟨_, (IntKind.u64.wrap ((IntKind.u64.wrap (rd t599 0)) + (IntKind.u64.wrap ((IntKind.u64.wrap (rd t599 1)) * 4294967296)))), (by first | rfl | (simp; done) | (simp [i64_w, i32_w]; done) | (simp [*]; done)), H', ⟨by have := HJ5.out; first | omega | exact Nat.le_refl _⟩, ⟨bm_ BK590.out⟩, ⟨qz_⟩⟩
     ·rw [if_neg c30] at H
      have c30b0 : decide (1 < (t599.length : Int)) = false := decide_eq_false c30
      have c30b1 : decide (1 < t599.length) = false := decide_eq_false (by omega)
      clear c30
      (first | rw [c30b0] | (simp only [i64_w, i32_w]; rw [c30b0]) | skip)
      have H' := A0_ H
      clear H
      go_wp2
      repeat (go_quiet (fail); try go_wp2)
      go_meet
      case rel => exact ⟨_, (IntKind.u64.wrap (rd t599 0)), (by first | rfl | (simp; done) | (simp [i64_w, i32_w]; done) | (simp [*]; done)), H', ⟨by have := HJ5.out; first | omega | exact Nat.le_refl _⟩, ⟨bm_ BK590.out⟩, ⟨qz_⟩⟩
    case rest =>
     clear HC26
     try clear c1
     try clear c2
     try clear p2
     try clear c3
     try clear c4
     try clear c4b0
     try clear c4b1
     try clear p6
     try clear q6
     try clear hx6
     try clear qi6
     try clear c8
     try clear c13
     try clear c13b0
     try clear c15
     try clear c15b0
     try clear c20
     try clear c23
     try clear c23b0
     try clear c25
     try clear c25b0
     try clear c25b1
     try clear c30
     try clear c30b0
     try clear c30b1
     try clear c31
     try clear c31b0
     try clear c31b1
     try clear hcz10
     try clear hcz16
     try clear hcz19
     try clear hcz27
     try clear hcz8
     try clear hfz10
     try clear hfz16
     try clear hfz19
     try clear hfz27
     try clear hfz8
     try clear hx602_0
     try clear hx603_0
     try clear p2
     try clear p6
     try clear p602
     try clear p603
     try clear q602
     try clear q603
     obtain ⟨kq, x9_25, rfl, HA, HJ25, BK590, HB⟩ := hcut
     cases kq with
     | zero => exact absurd HA.out (by simp [cutplaneref03_Of.j1])
     | succ kj25 =>
      have H := HA.out
      clear HA
      simp only [cutplaneref03_Of.j1] at H
      replace H := Option.bind_eq_some_iff.mp H
      obtain ⟨t605, A320, H⟩ := H
      replace H : (if 0 ≤ t605 then (if (shr .u64 x9_25 t605) > 0 then ((cutplaneref03_Frac.f a0).bind fun t606 => (if 0 ≤ t606 then ((cutplaneref03_Low.f a0).bind fun t607 => ((cutplaneref03_Join.f a0 a1_0 (wrap64 ((wrap64 ((wrap64 ((wrap64 (t592 - t597)) - 1)) - t607)) + 1)) (IntKind.u64.wrap (x9_25 - (shl .u64 1 t606)))).bind fun t608 => (some (t608, true)))) else (none))) else ((cutplaneref03_Join.f a0 a1_0 0 x9_25).bind fun t609 => (some (t609, true)))) else (none)) = some (r1, r2) := H
      have A32 := A0_ A320
      obtain rfl : t597 = t605 := Option.some.inj (A21.out.symm.trans A32.out)
      clear A320
      obtain ⟨c33, H⟩ := ic_ H
      have c33b0 := eq_true c33
      have c33b1 : decide (0 ≤ t597) = true := decide_eq_true c33
      clear c33
      obtain ⟨ji34, hji34⟩ : ∃ j_ : Int, (shr .u64 x9_25 t597) = j_ := ⟨_, rfl⟩
      replace H : (if (ji34) > 0 then ((cutplaneref03_Frac.f a0).bind fun t606 => (if 0 ≤ t606 then ((cutplaneref03_Low.f a0).bind fun t607 => ((cutplaneref03_Join.f a0 a1_0 (wrap64 ((wrap64 ((wrap64 ((wrap64 (t592 - t597)) - 1)) - t607)) + 1)) (IntKind.u64.wrap (x9_25 - (shl .u64 1 t606)))).bind fun t608 => (some (t608, true)))) else (none))) else ((cutplaneref03_Join.f a0 a1_0 0 x9_25).bind fun t609 => (some (t609, true)))) = some (r1, r2) := by first | (rw [hji34] at H; exact H) | (simp only [hji34] at H ⊢; exact H)
      (try rw [hji34] at A32)
      have hji34_ : (x9_25 / 2 ^ min t597.toNat 64) = ji34 := hji34
      have hji34z : t597 ≤ 64 → (x9_25 / 2 ^ t597.toNat) = ji34 := shr_small hji34
      by_cases c35 : (ji34) > 0
      ·rw [if_pos c35] at H
       have c35b0 : decide (0 < (ji34)) = true := decide_eq_true c35
       clear c35
       replace H := Option.bind_eq_some_iff.mp H
       obtain ⟨t606, A360, H⟩ := H
       replace H : (if 0 ≤ t606 then ((cutplaneref03_Low.f a0).bind fun t607 => ((cutplaneref03_Join.f a0 a1_0 (wrap64 ((wrap64 ((wrap64 ((wrap64 (t592 - t597)) - 1)) - t607)) + 1)) (IntKind.u64.wrap (x9_25 - (shl .u64 1 t606)))).bind fun t608 => (some (t608, true)))) else (none)) = some (r1, r2) := H
       have A36 := A0_ A360
       obtain rfl : t597 = t606 := Option.some.inj (A21.out.symm.trans A36.out)
       clear A360
       obtain ⟨c37, H⟩ := ic_ H
       have c37b0 := eq_true c37
       have c37b1 : decide (0 ≤ t597) = true := decide_eq_true c37
       clear c37
       obtain ⟨ji38, hji38⟩ : ∃ j_ : Int, (shl .u64 1 t597) = j_ := ⟨_, rfl⟩
       replace H : ((cutplaneref03_Low.f a0).bind fun t607 => ((cutplaneref03_Join.f a0 a1_0 (wrap64 ((wrap64 ((wrap64 ((wrap64 (t592 - t597)) - 1)) - t607)) + 1)) (IntKind.u64.wrap (x9_25 - (ji38)))).bind fun t608 => (some (t608, true)))) = some (r1, r2) := by first | (rw [hji38] at H; exact H) | (simp only [hji38] at H ⊢; exact H)
       (try rw [hji38] at A32)
       (try rw [hji38] at A36)
       have hji38_ : (IntKind.u64.wrap (1 * 2 ^ min t597.toNat 64)) = ji38 := hji38
       have hji38z : t597 ≤ 64 → (IntKind.u64.wrap (1 * 2 ^ t597.toNat)) = ji38 := shl_small hji38
       have hji38u : (IntKind.u64.wrap (2 ^ min t597.toNat 64)) = ji38 := by have h_ := hji38_; rw [Int.one_mul] at h_; exact h_
       have hji38v : t597 ≤ 64 → (IntKind.u64.wrap (2 ^ t597.toNat)) = ji38 := fun hle_ => by have h_ := hji38z hle_; rw [Int.one_mul] at h_; exact h_
       replace H := Option.bind_eq_some_iff.mp H
       obtain ⟨t607, A390, H⟩ := H
       replace H : ((cutplaneref03_Join.f a0 a1_0 (wrap64 ((wrap64 ((wrap64 ((wrap64 (t592 - t597)) - 1)) - t607)) + 1)) (IntKind.u64.wrap (x9_25 - (ji38)))).bind fun t608 => (some (t608, true))) = some (r1, r2) := H
       have A39 := A0_ A390
       obtain rfl : t598 = t607 := Option.some.inj (A22.out.symm.trans A39.out)
       clear A390
       obtain ⟨t608, A40, H⟩ := bs_ H
       try dsimp -simprocs only at H
       simp only [Option.some.injEq, Prod.mk.injEq] at H
       obtain ⟨rfl, rfl⟩ := H
       have hcz41 := bc3_ BK590.out
       have hfz41 := bf3_ BK590.out
       go_upto_region 17 with (first | ((with_reducible refine gate_dst (N := 10) rfl ?_); refine box_event ?hg (N := 10) ?hd (cs := #[.bool false, .int .i64 0, .int .u64 0]) (t := 61) ?hr ?_; (case hd => rfl); (case hg => rfl); (case hr => first | (go_simp; done) | (go_simp; rfl)); intro gb604 hg w42 hbox hb; have BK604 := A0_ (hbox); have GW604 := A0_ ((by rw [hg]; exact (below_size qz_) : w.heap.size ≤ gb604)); have GE604 := GW604; replace HB := hs_ hb; have NB590_604 := nl_ hg BK590; have NB604_590 := ng_ hg BK590; replace BK590 := bb_ BK590 hb; clear hb hbox hg; have hnb43 := NB604_590.out; have hnc43 := NB590_604.out; have hcz44 := bc3_ BK604.out; have hfz44 := bf3_ BK604.out) | (go_at_call 47; (with_reducible refine (cutplaneref03_Frac.calls a0 t597 _ A32.out).mono ?_); rintro e w' ⟨rfl, ⟨nd, rfl⟩⟩; (try first | exact ⟨rfl, _, World.drewN_drewN _ _ _⟩ | exact ⟨rfl, _, Eq.trans (World.drewN_drewN _ _ _) (congrArg (World.drewN _) (Nat.add_assoc _ _ _))⟩)) | (go_at_call 47; (with_reducible refine (cutplaneref03_Frac.calls a0 t597 _ A36.out).mono ?_); rintro e w' ⟨rfl, ⟨nd, rfl⟩⟩; (try first | exact ⟨rfl, _, World.drewN_drewN _ _ _⟩ | exact ⟨rfl, _, Eq.trans (World.drewN_drewN _ _ _) (congrArg (World.drewN _) (Nat.add_assoc _ _ _))⟩)) | (go_at_call 79; (with_reducible refine (cutplaneref03_Low.calls a0 t598 _ A39.out).mono ?_); rintro e w' ⟨rfl, ⟨nd, rfl⟩⟩; (try first | exact ⟨rfl, _, World.drewN_drewN _ _ _⟩ | exact ⟨rfl, _, Eq.trans (World.drewN_drewN _ _ _) (congrArg (World.drewN _) (Nat.add_assoc _ _ _))⟩)) | (go_at_call 44; (with_reducible refine (cutplaneref03_Join.calls a0 a1_0 (wrap64 ((wrap64 ((wrap64 ((wrap64 (t592 - t597)) - 1)) - t598)) + 1)) (IntKind.u64.wrap (x9_25 - (ji38))) t608 _ A40.out).mono ?_); rintro e w45 ⟨rfl, hb⟩; replace BK590 := A0_ (blk_below (g := gb590) (o := .cells #[.bool a1_0, .slice A1_1 l1_1.length c1_1, .int .i64 a1_2] 107 (0, 0)) (by (with_reducible repeat first | apply bN_ | apply bD_ | apply bA_); refine blk_far ?_ NB590_604.out _; refine blk_far ?_ NB590_604.out _; refine blk_far ?_ NB590_604.out _; refine blk_far ?_ NB590_604.out _; refine blk_far ?_ NB590_604.out _; exact bm_ BK590.out) hb); replace BK604 := A0_ (blk_below (g := gb604) (o := .cells #[.bool a1_0, .int .i64 (wrap64 ((wrap64 ((wrap64 ((wrap64 (t592 - t597)) - 1)) - t598)) + 1)), .int .u64 (IntKind.u64.wrap (x9_25 - (ji38)))] 61 (0, 0)) (by (with_reducible repeat first | apply bN_ | apply bD_ | apply bA_); refine blk_put (cs := #[.bool a1_0, .int .i64 0, .int .u64 (IntKind.u64.wrap (x9_25 - (ji38)))]) ?_ 1 _ rfl; refine blk_put (cs := #[.bool a1_0, .int .i64 0, .int .u64 x9_25]) ?_ 2 _ rfl; refine blk_put (cs := #[.bool a1_0, .int .i64 0, .int .u64 0]) ?_ 2 _ rfl; refine blk_put (cs := #[.bool a1_0, .int .i64 0, .int .u64 0]) ?_ 1 _ rfl; refine blk_put (cs := #[.bool false, .int .i64 0, .int .u64 0]) ?_ 0 _ rfl; exact bm_ BK604.out) hb); replace HB := hs_ hb; (try clear hb)))
       refine genw2_ (w0 := w) (g1 := gb590) (g2 := gb604) (o1 := .cells #[.bool a1_0, .slice A1_1 l1_1.length c1_1, .int .i64 a1_2] 107 (0, 0)) (o2 := .cells #[.bool a1_0, .int .i64 (wrap64 ((wrap64 ((wrap64 ((wrap64 (t592 - t597)) - 1)) - t598)) + 1)), .int .u64 (IntKind.u64.wrap (x9_25 - (ji38)))] 61 (0, 0)) (by (with_reducible repeat first | apply bN_ | apply bD_ | apply bA_); refine blk_far ?_ NB590_604.out _; refine blk_far ?_ NB590_604.out _; refine blk_far ?_ NB590_604.out _; refine blk_far ?_ NB590_604.out _; refine blk_far ?_ NB590_604.out _; exact bm_ BK590.out) (by (with_reducible repeat first | apply bN_ | apply bD_ | apply bA_); refine blk_put (cs := #[.bool a1_0, .int .i64 0, .int .u64 (IntKind.u64.wrap (x9_25 - (ji38)))]) ?_ 1 _ rfl; refine blk_put (cs := #[.bool a1_0, .int .i64 0, .int .u64 x9_25]) ?_ 2 _ rfl; refine blk_put (cs := #[.bool a1_0, .int .i64 0, .int .u64 0]) ?_ 2 _ rfl; refine blk_put (cs := #[.bool a1_0, .int .i64 0, .int .u64 0]) ?_ 1 _ rfl; refine blk_put (cs := #[.bool false, .int .i64 0, .int .u64 0]) ?_ 0 _ rfl; exact bm_ BK604.out) qz_ ?_
       clear BK590 BK604 HB
       intro wx_ f1_ f2_ fb_
       have BK590 := A0_ f1_
       have BK604 := A0_ f2_
       have HB := A0_ fb_
       clear f1_ f2_ fb_
       have hcy1_ := bc3_ BK590.out
       have hcy2_ := bc3_ BK604.out
       go_wp2_with (first | (go_at_call 44; (with_reducible refine (cutplaneref03_Join.calls a0 a1_0 (wrap64 ((wrap64 ((wrap64 ((wrap64 (t592 - t597)) - 1)) - t598)) + 1)) (IntKind.u64.wrap (x9_25 - (ji38))) t608 _ A40.out).mono ?_); rintro e wy_ ⟨rfl, hb⟩; have n2_ := A0_ (below_step HB.out hb); clear HB; have HB := n2_; clear n2_ hb))
       go_ret2
       exact ⟨by first | rfl | (simp [errW_none, errW_some] <;> rfl) | (simp only [← hji34, ← hji38]; first | rfl | (simp [errW_none, errW_some] <;> rfl)) | (simp [*, errW_none, errW_some] <;> rfl), qz_⟩
      ·rw [if_neg c35] at H
       have c35b0 : decide (0 < (ji34)) = false := decide_eq_false c35
       clear c35
       obtain ⟨t609, A46, H⟩ := bs_ H
       try dsimp -simprocs only at H
       simp only [Option.some.injEq, Prod.mk.injEq] at H
       obtain ⟨rfl, rfl⟩ := H
       have hcz47 := bc3_ BK590.out
       have hfz47 := bf3_ BK590.out
       go_upto_region 17 with (first | ((with_reducible refine gate_dst (N := 10) rfl ?_); refine box_event ?hg (N := 10) ?hd (cs := #[.bool false, .int .i64 0, .int .u64 0]) (t := 61) ?hr ?_; (case hd => rfl); (case hg => rfl); (case hr => first | (go_simp; done) | (go_simp; rfl)); intro gb604 hg w48 hbox hb; have BK604 := A0_ (hbox); have GW604 := A0_ ((by rw [hg]; exact (below_size qz_) : w.heap.size ≤ gb604)); have GE604 := GW604; replace HB := hs_ hb; have NB590_604 := nl_ hg BK590; have NB604_590 := ng_ hg BK590; replace BK590 := bb_ BK590 hb; clear hb hbox hg; have hnb49 := NB604_590.out; have hnc49 := NB590_604.out; have hcz50 := bc3_ BK604.out; have hfz50 := bf3_ BK604.out) | (go_at_call 47; (with_reducible refine (cutplaneref03_Frac.calls a0 t597 _ A32.out).mono ?_); rintro e w' ⟨rfl, ⟨nd, rfl⟩⟩; (try first | exact ⟨rfl, _, World.drewN_drewN _ _ _⟩ | exact ⟨rfl, _, Eq.trans (World.drewN_drewN _ _ _) (congrArg (World.drewN _) (Nat.add_assoc _ _ _))⟩)) | (go_at_call 44; (with_reducible refine (cutplaneref03_Join.calls a0 a1_0 0 x9_25 t609 _ A46.out).mono ?_); rintro e w51 ⟨rfl, hb⟩; replace BK590 := A0_ (blk_below (g := gb590) (o := .cells #[.bool a1_0, .slice A1_1 l1_1.length c1_1, .int .i64 a1_2] 107 (0, 0)) (by (with_reducible repeat first | apply bN_ | apply bD_ | apply bA_); refine blk_far ?_ NB590_604.out _; refine blk_far ?_ NB590_604.out _; refine blk_far ?_ NB590_604.out _; exact bm_ BK590.out) hb); replace BK604 := A0_ (blk_below (g := gb604) (o := .cells #[.bool a1_0, .int .i64 0, .int .u64 x9_25] 61 (0, 0)) (by (with_reducible repeat first | apply bN_ | apply bD_ | apply bA_); refine blk_put (cs := #[.bool a1_0, .int .i64 0, .int .u64 0]) ?_ 2 _ rfl; refine blk_put (cs := #[.bool a1_0, .int .i64 0, .int .u64 0]) ?_ 1 _ rfl; refine blk_put (cs := #[.bool false, .int .i64 0, .int .u64 0]) ?_ 0 _ rfl; exact bm_ BK604.out) hb); replace HB := hs_ hb; (try clear hb)))
       refine genw2_ (w0 := w) (g1 := gb590) (g2 := gb604) (o1 := .cells #[.bool a1_0, .slice A1_1 l1_1.length c1_1, .int .i64 a1_2] 107 (0, 0)) (o2 := .cells #[.bool a1_0, .int .i64 0, .int .u64 x9_25] 61 (0, 0)) (by (with_reducible repeat first | apply bN_ | apply bD_ | apply bA_); refine blk_far ?_ NB590_604.out _; refine blk_far ?_ NB590_604.out _; refine blk_far ?_ NB590_604.out _; exact bm_ BK590.out) (by (with_reducible repeat first | apply bN_ | apply bD_ | apply bA_); refine blk_put (cs := #[.bool a1_0, .int .i64 0, .int .u64 0]) ?_ 2 _ rfl; refine blk_put (cs := #[.bool a1_0, .int .i64 0, .int .u64 0]) ?_ 1 _ rfl; refine blk_put (cs := #[.bool false, .int .i64 0, .int .u64 0]) ?_ 0 _ rfl; exact bm_ BK604.out) qz_ ?_
       clear BK590 BK604 HB
       intro wx_ f1_ f2_ fb_
       have BK590 := A0_ f1_
       have BK604 := A0_ f2_
       have HB := A0_ fb_
       clear f1_ f2_ fb_
       have hcy1_ := bc3_ BK590.out
       have hcy2_ := bc3_ BK604.out
       go_wp2_with (first | (go_at_call 44; (with_reducible refine (cutplaneref03_Join.calls a0 a1_0 0 x9_25 t609 _ A46.out).mono ?_); rintro e wy_ ⟨rfl, hb⟩; have n2_ := A0_ (below_step HB.out hb); clear HB; have HB := n2_; clear n2_ hb))
       go_ret2
       exact ⟨by first | rfl | (simp [errW_none, errW_some] <;> rfl) | (simp only [← hji34]; first | rfl | (simp [errW_none, errW_some] <;> rfl)) | (simp [*, errW_none, errW_some] <;> rfl), qz_⟩
end Go.Proofs.YtlgapmhjaaajfaaGreat.PA
end

section
namespace Go.Proofs.YtlgapmhjaaajfaaGreat.PA
open Go.RowKit Go.Proofs.YtlgapmhjaaajfaaGreatW.PrintWords Go.Proofs.YtlgapmhjaaajfaaGreatW.PrintLast Go.Proofs.YtlgapmhjaaajfaaGreatW.PrintMore
attribute [local go_sem] max2_int min2_int max_two min_two max_three min_three max_four min_four   -- for this text's walks alone
set_option linter.unusedVariables false
set_option linter.unusedSimpArgs false
def cutplaneref02_Abs.f (a0_0 : Bool) (l0_1 : List Int) (a0_2 : Int) : Option (Bool × List Int × Int) := some (false, l0_1, a0_2)
theorem cutplaneref02_Abs.calls (a0_0 : Bool) (P0_1_ : Nat → Prop) (A0_1 : Option Addr) (c0_1 : Nat) (l0_1 : List Int) (a0_2 : Int) (r1 : Bool) (r2 : List Int) (r3 : Int) (w : World) (hs0_1 : Kd.V (Kd.int .u32) 132 w w.heap.size (fun k_ => P0_1_ k_) (.slice A0_1 l0_1.length c0_1) l0_1) (h : cutplaneref02_Abs.f a0_0 l0_1 a0_2 = some (r1, r2, r3)) :
  Calls Tryz.prog 84 #[.agg #[.bool a0_0, .slice A0_1 l0_1.length c0_1, .int .i64 a0_2]] w fun e w' => ∃ v1_ : Value, e = .returned (.agg #[.bool r1, v1_, .int .i64 r3]) ∧ Kd.V (Kd.int .u32) 132 w' w.heap.size (fun k_ => (P0_1_ k_ ∨ w.heap.size ≤ k_)) v1_ r2 ∧ Below w.heap.size w w' := by
 have hu107 := Tryz.underlying107
 have HO0_1 := A0_ (show Kd.V (Kd.int .u32) 132 w w.heap.size (fun k_ => (P0_1_ k_ ∨ w.heap.size ≤ k_)) (.slice A0_1 l0_1.length c0_1) l0_1 from Kd.V_mono hs0_1 (fun k_ hk => .inl hk))
 have HB := A0_ (Below.refl w.heap.size w)
 have H := h
 clear h
 unfold cutplaneref02_Abs.f at H
 simp only [Option.some.injEq, Prod.mk.injEq] at H
 obtain ⟨rfl, rfl, rfl⟩ := H
 go_enter Tryz.func84, Tryz.ntmps84
 go_wp2_with (first | ((with_reducible refine gate_dst (N := 1) rfl ?_); refine box_event ?hg (N := 1) ?hd (cs := #[.bool a0_0, .slice A0_1 l0_1.length c0_1, .int .i64 a0_2]) (t := 107) ?hr ?_; (case hd => rfl); (case hg => rfl); (case hr => first | (go_simp; done) | (go_simp; rfl)); intro gb610 hg w2 hbox hb; replace HO0_1 := A0_ (Kd.V_below (Kd.V_elderB (by exact vm_ HO0_1.out) gb610 (Nat.le_of_eq hg.symm)) hb); have BK610 := A0_ (hbox); have GW610 := A0_ ((by rw [hg]; exact (below_size (qm_ HB.out)) : w.heap.size ≤ gb610)); have GE610 := GW610; replace HB := hs_ hb; clear hb hbox hg) | ((with_reducible refine gate_dst (N := 2) rfl ?_); refine box_event ?hg (N := 2) ?hd (cs := #[.bool false, .slice none 0 0, .int .i64 0]) (t := 107) ?hr ?_; (case hd => rfl); (case hg => rfl); (case hr => first | (go_simp; done) | (go_simp; rfl)); intro gb611 hg w3 hbox hb; replace HO0_1 := A0_ (Kd.V_below (Kd.V_elderB (by exact vm_ HO0_1.out) gb611 (Nat.le_of_eq hg.symm)) hb); have BK611 := A0_ (hbox); have GW611 := A0_ ((by rw [hg]; exact (below_size qz_) : w.heap.size ≤ gb611)); have GE611 := GW611; replace HB := hs_ hb; have NB610_611 := nl_ hg BK610; have NB611_610 := ng_ hg BK610; replace BK610 := bb_ BK610 hb; clear hb hbox hg; have hnb4 := NB610_611.out; have hnc4 := NB611_610.out; have hcz5 := bc3_ BK610.out; have hfz5 := bf3_ BK610.out; have hcz6 := bc3_ BK611.out; have hfz6 := bf3_ BK611.out))
 refine bodyPost_ret (results_cell_row rfl _ _ gb611 107 #[.bool false, .slice A0_1 l0_1.length c0_1, .int .i64 a0_2] (0, 0) _ rfl (by (with_reducible repeat first | apply bN_ | apply bD_ | apply bA_); refine blk_put (cs := #[.bool false, .slice A0_1 l0_1.length c0_1, .int .i64 0]) ?_ 2 _ rfl; refine blk_put (cs := #[.bool false, .slice none 0 0, .int .i64 0]) ?_ 1 _ rfl; refine blk_put (cs := #[.bool false, .slice none 0 0, .int .i64 0]) ?_ 0 _ rfl; refine blk_far ?_ NB611_610.out _; exact bm_ BK611.out) Tryz.underlying107 rfl (by kernel_rfl)) rfl ?_
 exact ⟨_, by first | rfl | (simp [errW_none, errW_some] <;> rfl) | (simp [*, errW_none, errW_some] <;> rfl), by (with_reducible repeat (first | apply Kd.V_alloc | apply Kd.V_drewN | apply Kd.V_drew)); exact Kd.V_mono (Kd.V_far (p := ⟨gb611, 2, none⟩) (Kd.V_far (p := ⟨gb611, 1, none⟩) (Kd.V_far (p := ⟨gb611, 0, none⟩) (Kd.V_far (p := ⟨gb610, 0, none⟩) (Kd.V_mono (Kd.V_mono HO0_1.out (fun k_ hk => (⟨hk, hk.1.2⟩ : _ ∧ k_ ≠ gb610))) (fun k_ hk => (⟨hk, hk.1.2⟩ : _ ∧ k_ ≠ gb611))) (fun _ hk => hk.1.2) (.bool false)) (fun _ hk => hk.2) (.bool false)) (fun _ hk => hk.2) (.slice A0_1 l0_1.length c0_1)) (fun _ hk => hk.2) (.int .i64 a0_2)) (fun _ hk => hk.1.1.1.1), qz_⟩
def cutplaneref04_Round.f (k : Nat) (a0 : Int) (a1 : Int) (a2_0 : Bool) (l2_1 : List Int) (a2_2 : Int) : Option (Int × Int) := (cutplaneref02_Sign.f a2_0 l2_1 a2_2).bind fun t613 => (if t613 = 0 then (none) else ((cutplaneref03_Frac.f a0).bind fun t614 => ((cutplaneref02_Top.f k a2_0 l2_1 a2_2).bind fun t615 => ((cutplaneref03_Low.f a0).bind fun t616 => (if (wrap64 (t615 - (wrap64 (t614 + 1)))) < t616 then (none) else ((cutplaneref04_Taken.f k a1 a2_0 l2_1 a2_2 (wrap64 (t615 - (wrap64 (t614 + 1))))).bind fun bt617 => ((cutplaneref02_Top.f k bt617.1 bt617.2.1 bt617.2.2).bind fun t623 => ((cutplaneref03_Wide.f a0).bind fun t624 => (if t623 > t624 then (none) else ((cutplaneref02_Abs.f bt617.1 bt617.2.1 bt617.2.2).bind fun bt625 => ((cutplaneref03_Of.f k a0 bt625.1 bt625.2.1 bt625.2.2).bind fun bt630 => ((cutplaneref03_Signed.f a0 bt630.1 a2_0).bind fun t632 => ((cutplaneref02_Same.f k a2_0 l2_1 a2_2 bt617.1 bt617.2.1 bt617.2.2).bind fun t633 => (if t633 = true then (some (t632, 0)) else (none)))))))))))))))
theorem cutplaneref04_Round.mono : ∀ a0 a1 a2 a3 a4 k, LeO (cutplaneref04_Round.f k a0 a1 a2 a3 a4) (cutplaneref04_Round.f (k + 1) a0 a1 a2 a3 a4) := by
 intro a0 a1 a2 a3 a4 k
 unfold cutplaneref04_Round.f
 repeat' first
   | (with_reducible exact cutplaneref02_Same.mono _ _ _ _ _ _ _)
   | (with_reducible exact cutplaneref02_Top.mono _ _ _ _)
   | (with_reducible exact cutplaneref03_Of.mono _ _ _ _ _)
   | (with_reducible exact cutplaneref04_Taken.mono _ _ _ _ _ _)
   | (with_reducible exact LeO.refl _)
   | (with_reducible exact LeO.none _)
   | (with_reducible refine LeO.ite ?_ ?_)
   | (with_reducible refine LeO.bind ?_ (fun _ => ?_))
   | exact cutplaneref02_Same.mono _ _ _ _ _ _ _
   | exact cutplaneref02_Top.mono _ _ _ _
   | exact cutplaneref03_Of.mono _ _ _ _ _
   | exact cutplaneref04_Taken.mono _ _ _ _ _ _
   | exact LeO.none _
   | refine LeO.ite ?_ ?_
   | refine LeO.bind ?_ (fun _ => ?_)
theorem cutplaneref04_Round.calls (k : Nat) (a0 : Int) (a1 : Int) (a2_0 : Bool) (A2_1 : Option Addr) (c2_1 : Nat) (l2_1 : List Int) (a2_2 : Int) (r1 : Int) (r2 : Int) (w : World) (hr2_1 : Kd.C (Kd.int .u32) w A2_1 l2_1.length l2_1) (hc2_1 : l2_1.length ≤ c2_1) (h : cutplaneref04_Round.f k a0 a1 a2_0 l2_1 a2_2 = some (r1, r2)) :
  Calls Tryz.prog 66 #[.int .u8 a0, .int .u8 a1, .agg #[.bool a2_0, .slice A2_1 l2_1.length c2_1, .int .i64 a2_2]] w fun e w' => e = .returned (.tuple #[.int .u64 r1, .int .u8 r2]) ∧ Below w.heap.size w w' := by
 have hu107 := Tryz.underlying107
 have HR2_1 := A0_ hr2_1
 have HC2_1 := A0_ hc2_1
 clear hr2_1 hc2_1
 have HB := A0_ (Below.refl w.heap.size w)
 have H := h
 clear h
 unfold cutplaneref04_Round.f at H
 obtain ⟨t613, A4, H⟩ := bs_ H
 try dsimp -simprocs only at H
 obtain ⟨c5, H⟩ := id_ H
 have c5b0 : (t613 == 0) = false := beq_eq_false_iff_ne.mpr c5
 have c5b1 : (t613 != 0) = true := bne_iff_ne.mpr c5
 obtain ⟨t614, A6, H⟩ := bs_ H
 try dsimp -simprocs only at H
 obtain ⟨t615, A7, H⟩ := bs_ H
 try dsimp -simprocs only at H
 obtain ⟨t616, A8, H⟩ := bs_ H
 try dsimp -simprocs only at H
 obtain ⟨c9, H⟩ := id_ H
 have c9b0 : decide ((wrap64 (t615 - (wrap64 (t614 + 1)))) < t616) = false := decide_eq_false c9
 clear c9
 obtain ⟨⟨t617, t618, t621⟩, A10, H⟩ := bs_ H
 try dsimp -simprocs only at H
 obtain ⟨t623, A11, H⟩ := bs_ H
 try dsimp -simprocs only at H
 obtain ⟨t624, A12, H⟩ := bs_ H
 try dsimp -simprocs only at H
 obtain ⟨c13, H⟩ := id_ H
 have c13b0 : decide (t624 < t623) = false := decide_eq_false c13
 clear c13
 obtain ⟨⟨t625, t626, t629⟩, A14, H⟩ := bs_ H
 try dsimp -simprocs only at H
 obtain ⟨⟨t630, t631⟩, A15, H⟩ := bs_ H
 try dsimp -simprocs only at H
 obtain ⟨t632, A16, H⟩ := bs_ H
 try dsimp -simprocs only at H
 obtain ⟨t633, A17, H⟩ := bs_ H
 try dsimp -simprocs only at H
 by_cases c18 : t633 = true
 ·subst c18
  rw [if_pos rfl] at H
  simp only [Option.some.injEq, Prod.mk.injEq] at H
  obtain ⟨rfl, rfl⟩ := H
  go_enter Tryz.func66, Tryz.ntmps66
  go_wp2_with (first | ((with_reducible refine gate_dst (N := 5) rfl ?_); refine box_event ?hg (N := 5) ?hd (cs := #[.bool a2_0, .slice A2_1 l2_1.length c2_1, .int .i64 a2_2]) (t := 107) ?hr ?_; (case hd => rfl); (case hg => rfl); (case hr => first | (go_simp; done) | (go_simp; rfl)); intro gb612 hg w19 hbox hb; have BK612 := A0_ (hbox); have GW612 := A0_ ((by rw [hg]; exact (below_size (qm_ HB.out)) : w.heap.size ≤ gb612)); have GE612 := GW612; replace HB := hs_ hb; clear hb hbox hg; have hcz20 := bc3_ BK612.out; have hfz20 := bf3_ BK612.out) | ((with_reducible refine gate_callee (f := 70) rfl ?_); refine goesL_ (some 15) rfl rfl Tryz.func70 (by kernel_rfl) rfl #[.agg #[.bool a2_0, .slice A2_1 l2_1.length c2_1, .int .i64 a2_2]] rfl (am_ rfl) ?_; (with_reducible refine (cutplaneref02_Sign.calls a2_0 _ _ l2_1 a2_2 t613 _ ?side1 ?side2 A4.out).mono ?_); (case side1 => repeat (first | exact (Kd.C_below HR2_1.out HB.out) | (with_reducible refine Kd.C_alloc ?_ _) | (with_reducible refine Kd.C_drewN ?_ _) | (with_reducible refine Kd.C_drew ?_))); (case side2 => exact HC2_1.out); rintro e w21 ⟨rfl, hb⟩; refine ⟨_, rfl, ?_⟩; replace BK612 := bb_ BK612 hb; replace HB := hs_ hb; (try clear hb)) | ((with_reducible refine gate_callee (f := 47) rfl ?_); refine goesL_ (some 18) rfl rfl Tryz.func47 (by kernel_rfl) rfl #[.int .u8 a0] rfl (am_ rfl) ?_; (with_reducible refine (cutplaneref03_Frac.calls a0 t614 _ A6.out).mono ?_); rintro e w' ⟨rfl, ⟨nd, rfl⟩⟩; refine ⟨_, rfl, ?_⟩; (try (rw [drewN_self w21]; generalize hq_ : World.drewN w21 _ = w21; have n0_ : Aside0 (w21.heap[gb612]? = some (.cells #[.bool a2_0, .slice A2_1 l2_1.length c2_1, .int .i64 a2_2] 107 (0, 0))) := ⟨by rw [← hq_]; exact (bm_ BK612.out)⟩; have n1_ : Aside0 (Below w.heap.size w w21) := ⟨by rw [← hq_]; exact qz_⟩; clear BK612 HB hq_; have BK612 := n0_; have HB := n1_; clear n0_ n1_)); have hcz22 := bc3_ BK612.out; have hfz22 := bf3_ BK612.out) | ((with_reducible refine gate_callee (f := 78) rfl ?_); refine goesL_ (some 21) rfl rfl Tryz.func78 (by kernel_rfl) rfl #[.agg #[.bool a2_0, .slice A2_1 l2_1.length c2_1, .int .i64 a2_2]] rfl (am_ rfl) ?_; (with_reducible refine (cutplaneref02_Top.calls k a2_0 _ _ l2_1 a2_2 t615 _ ?side1 ?side2 A7.out).mono ?_); (case side1 => repeat (first | exact (Kd.C_below HR2_1.out HB.out) | (with_reducible refine Kd.C_alloc ?_ _) | (with_reducible refine Kd.C_drewN ?_ _) | (with_reducible refine Kd.C_drew ?_))); (case side2 => exact HC2_1.out); rintro e w23 ⟨rfl, hb⟩; refine ⟨_, rfl, ?_⟩; replace BK612 := bb_ BK612 hb; replace HB := hs_ hb; (try clear hb)) | ((with_reducible refine gate_callee (f := 79) rfl ?_); refine goesL_ (some 27) rfl rfl Tryz.func79 (by kernel_rfl) rfl #[.int .u8 a0] rfl (am_ rfl) ?_; (with_reducible refine (cutplaneref03_Low.calls a0 t616 _ A8.out).mono ?_); rintro e w' ⟨rfl, ⟨nd, rfl⟩⟩; refine ⟨_, rfl, ?_⟩; (try (rw [drewN_self w23]; generalize hq_ : World.drewN w23 _ = w23; have n0_ : Aside0 (w23.heap[gb612]? = some (.cells #[.bool a2_0, .slice A2_1 l2_1.length c2_1, .int .i64 a2_2] 107 (0, 0))) := ⟨by rw [← hq_]; exact (bm_ BK612.out)⟩; have n1_ : Aside0 (Below w.heap.size w w23) := ⟨by rw [← hq_]; exact qz_⟩; clear BK612 HB hq_; have BK612 := n0_; have HB := n1_; clear n0_ n1_)); have hcz24 := bc3_ BK612.out; have hfz24 := bf3_ BK612.out) | ((with_reducible refine gate_callee (f := 80) rfl ?_); refine goesL_ (some 34) rfl rfl Tryz.func80 (by kernel_rfl) rfl #[.int .u8 a1, .agg #[.bool a2_0, .slice A2_1 l2_1.length c2_1, .int .i64 a2_2], .int .i64 (wrap64 (t615 - (wrap64 (t614 + 1))))] rfl (am_ rfl) ?_; (with_reducible refine (cutplaneref04_Taken.calls k a1 a2_0 (fun k_ => k_ < w.heap.size) _ _ l2_1 a2_2 (wrap64 (t615 - (wrap64 (t614 + 1)))) t617 t618 t621 _ ?side1 A10.out).mono ?_); (case side1 => exact Kd.V_mk HC2_1.out (Kd.F_below (Kd.C_F (Kd.heap_int .u32) HR2_1.out) qz_)); rintro e w25 ⟨v619, rfl, ho0, hb⟩; refine ⟨_, rfl, ?_⟩; have HO620 := A0_ (Kd.V_lower (Kd.V_mono (ok' := fun k_ => k_ ≠ gb612) ho0 (fun k_ hk_ => Or.elim hk_ (fun hs_ => fun e_ => Nat.not_le.2 hs_ (by rw [e_]; exact GW612.out)) (fun hn_ => (Kd.freshB (bm_ BK612.out) k_ hn_)))) (below_size qz_)); replace BK612 := bb_ BK612 hb; replace HB := hs_ hb; (try clear hb); (try clear ho0)) | ((with_reducible refine gate_dst (N := 11) rfl ?_); refine box_event ?hg (N := 11) ?hd (cs := #[.bool false, .slice none 0 0, .int .i64 0]) (t := 107) ?hr ?_; (case hd => rfl); (case hg => rfl); (case hr => first | (go_simp; done) | (go_simp; rfl)); intro gb622 hg w26 hbox hb; replace HO620 := A0_ (Kd.V_below (Kd.V_elderB (by exact vm_ HO620.out) gb622 (Nat.le_of_eq hg.symm)) hb); have BK622 := A0_ (hbox); have GW622 := A0_ ((by rw [hg]; exact (below_size qz_) : w.heap.size ≤ gb622)); have GE622 := GW622; replace HB := hs_ hb; have NB612_622 := nl_ hg BK612; have NB622_612 := ng_ hg BK612; replace BK612 := bb_ BK612 hb; clear hb hbox hg; have hnb27 := NB622_612.out; have hnc27 := NB612_622.out; have hcz28 := bc3_ BK622.out; have hfz28 := bf3_ BK622.out; obtain ⟨Ao29, co29, eo29⟩ := Kd.V_slice HO620.out; subst eo29) | ((with_reducible refine gate_callee (f := 78) rfl ?_); refine goesL_ (some 36) rfl rfl Tryz.func78 (by kernel_rfl) rfl #[.agg #[.bool t617, .slice Ao29 t618.length co29, .int .i64 t621]] rfl (am_ rfl) ?_; (with_reducible refine (cutplaneref02_Top.calls k t617 _ _ t618 t621 t623 _ ?side1 ?side2 A11.out).mono ?_); (case side1 => refine (Kd.V_reads' (e := 132) (base := w.heap.size) (ok := fun k_ => (k_ ≠ gb612 ∧ k_ ≠ gb622)) (n := t618.length) (c := co29) ?_).2.2; exact (by (with_reducible repeat (first | apply Kd.V_alloc | apply Kd.V_drewN | apply Kd.V_drew)); exact (Kd.V_mono (Kd.V_far (p := ⟨gb622, 2, none⟩) (Kd.V_far (p := ⟨gb622, 1, none⟩) (Kd.V_far (p := ⟨gb622, 0, none⟩) (Kd.V_mono HO620.out (fun k_ hk => (⟨hk, hk.2⟩ : _ ∧ k_ ≠ gb622))) (fun _ hk => hk.2) (.bool t617)) (fun _ hk => hk.2) (.slice Ao29 t618.length co29)) (fun _ hk => hk.2) (.int .i64 t621)) (fun _ h_ => h_.1)))); (case side2 => exact (Kd.V_reads' HO620.out).2.1); rintro e w30 ⟨rfl, hb⟩; refine ⟨_, rfl, ?_⟩; replace HO620 := A0_ (Kd.V_below (by (with_reducible repeat (first | apply Kd.V_alloc | apply Kd.V_drewN | apply Kd.V_drew)); exact (Kd.V_mono (Kd.V_far (p := ⟨gb622, 2, none⟩) (Kd.V_far (p := ⟨gb622, 1, none⟩) (Kd.V_far (p := ⟨gb622, 0, none⟩) (Kd.V_mono HO620.out (fun k_ hk => (⟨hk, hk.2⟩ : _ ∧ k_ ≠ gb622))) (fun _ hk => hk.2) (.bool t617)) (fun _ hk => hk.2) (.slice Ao29 t618.length co29)) (fun _ hk => hk.2) (.int .i64 t621)) (fun _ h_ => h_.1))) hb); replace BK612 := A0_ (blk_below (g := gb612) (o := .cells #[.bool a2_0, .slice A2_1 l2_1.length c2_1, .int .i64 a2_2] 107 (0, 0)) (by (with_reducible repeat first | apply bN_ | apply bD_ | apply bA_); refine blk_far ?_ NB612_622.out _; refine blk_far ?_ NB612_622.out _; refine blk_far ?_ NB612_622.out _; exact bm_ BK612.out) hb); replace BK622 := A0_ (blk_below (g := gb622) (o := .cells #[.bool t617, .slice Ao29 t618.length co29, .int .i64 t621] 107 (0, 0)) (by (with_reducible repeat first | apply bN_ | apply bD_ | apply bA_); refine blk_put (cs := #[.bool t617, .slice Ao29 t618.length co29, .int .i64 0]) ?_ 2 _ rfl; refine blk_put (cs := #[.bool t617, .slice none 0 0, .int .i64 0]) ?_ 1 _ rfl; refine blk_put (cs := #[.bool false, .slice none 0 0, .int .i64 0]) ?_ 0 _ rfl; exact bm_ BK622.out) hb); replace HB := hs_ hb; (try clear hb)) | ((with_reducible refine gate_callee (f := 81) rfl ?_); refine goesL_ (some 38) rfl rfl Tryz.func81 (by kernel_rfl) rfl #[.int .u8 a0] rfl (am_ rfl) ?_; (with_reducible refine (cutplaneref03_Wide.calls a0 t624 _ A12.out).mono ?_); rintro e w' ⟨rfl, ⟨nd, rfl⟩⟩; refine ⟨_, rfl, ?_⟩; have hcz31 := bc3_ BK622.out; have hfz31 := bf3_ BK622.out) | ((with_reducible refine gate_callee (f := 84) rfl ?_); refine goesL_ (some 48) rfl rfl Tryz.func84 (by kernel_rfl) rfl #[.agg #[.bool t617, .slice Ao29 t618.length co29, .int .i64 t621]] rfl (am_ rfl) ?_; (with_reducible refine (cutplaneref02_Abs.calls t617 (fun k_ => (k_ ≠ gb612 ∧ k_ ≠ gb622)) _ _ t618 t621 t625 t626 t629 _ ?side1 A14.out).mono ?_); (case side1 => exact HO620.out); rintro e w32 ⟨v627, rfl, ho0, hb⟩; refine ⟨_, rfl, ?_⟩; replace HO620 := A0_ (Kd.V_below (by exact vm_ HO620.out) hb); have HO628 := A0_ (Kd.V_lower (Kd.V_mono (ok' := fun k_ => k_ ≠ gb612 ∧ k_ ≠ gb622) ho0 (fun k_ hk_ => ⟨Or.elim hk_ (fun hs_ => hs_.1) (fun hn_ => (Kd.freshB (bm_ BK612.out) k_ hn_)), Or.elim hk_ (fun hs_ => hs_.2) (fun hn_ => (Kd.freshB (bm_ BK622.out) k_ hn_))⟩)) (below_size qz_)); replace BK612 := bb_ BK612 hb; replace BK622 := bb_ BK622 hb; replace HB := hs_ hb; (try clear hb); (try clear ho0); obtain ⟨Ao33, co33, eo33⟩ := Kd.V_slice HO628.out; subst eo33) | ((with_reducible refine gate_callee (f := 83) rfl ?_); refine goesL_ (some 49) rfl rfl Tryz.func83 (by kernel_rfl) rfl #[.int .u8 a0, .agg #[.bool t625, .slice Ao33 t626.length co33, .int .i64 t629]] rfl (am_ rfl) ?_; (with_reducible refine (cutplaneref03_Of.calls k a0 t625 _ _ t626 t629 t630 t631 _ ?side1 ?side2 A15.out).mono ?_); (case side1 => repeat (first | exact (Kd.V_reads' HO628.out).2.2 | (with_reducible refine Kd.C_alloc ?_ _) | (with_reducible refine Kd.C_drewN ?_ _) | (with_reducible refine Kd.C_drew ?_))); (case side2 => exact (Kd.V_reads' HO628.out).2.1); rintro e w34 ⟨rfl, hb⟩; refine ⟨_, rfl, ?_⟩; replace HO620 := A0_ (Kd.V_below (by exact vm_ HO620.out) hb); replace HO628 := A0_ (Kd.V_below (by exact vm_ HO628.out) hb); replace BK612 := bb_ BK612 hb; replace BK622 := bb_ BK622 hb; replace HB := hs_ hb; (try clear hb); have hcz35 := bc3_ BK612.out; have hfz35 := bf3_ BK612.out) | ((with_reducible refine gate_callee (f := 53) rfl ?_); refine goesL_ (some 56) rfl rfl Tryz.func53 (by kernel_rfl) rfl #[.int .u8 a0, .int .u64 t630, .bool a2_0] rfl (am_ rfl) ?_; (with_reducible refine (cutplaneref03_Signed.calls a0 t630 a2_0 t632 _ A16.out).mono ?_); rintro e w' ⟨rfl, ⟨nd, rfl⟩⟩; refine ⟨_, rfl, ?_⟩; have hcz36 := bc3_ BK622.out; have hfz36 := bf3_ BK622.out) | ((with_reducible refine gate_callee (f := 85) rfl ?_); refine goesL_ (some 59) rfl rfl Tryz.func85 (by kernel_rfl) rfl #[.agg #[.bool a2_0, .slice A2_1 l2_1.length c2_1, .int .i64 a2_2], .agg #[.bool t617, .slice Ao29 t618.length co29, .int .i64 t621]] rfl (am_ rfl) ?_; (with_reducible refine (cutplaneref02_Same.calls k a2_0 _ _ l2_1 a2_2 t617 _ _ t618 t621 true _ ?side1 ?side2 ?side3 ?side4 A17.out).mono ?_); (case side1 => repeat (first | exact (Kd.C_below HR2_1.out qz_) | (with_reducible refine Kd.C_alloc ?_ _) | (with_reducible refine Kd.C_drewN ?_ _) | (with_reducible refine Kd.C_drew ?_))); (case side2 => exact HC2_1.out); (case side3 => repeat (first | exact (Kd.V_reads' HO620.out).2.2 | (with_reducible refine Kd.C_alloc ?_ _) | (with_reducible refine Kd.C_drewN ?_ _) | (with_reducible refine Kd.C_drew ?_))); (case side4 => exact (Kd.V_reads' HO620.out).2.1); rintro e w37 ⟨rfl, hb⟩; refine ⟨_, rfl, ?_⟩; replace HO620 := A0_ (Kd.V_below (by exact vm_ HO620.out) hb); replace HO628 := A0_ (Kd.V_below (by exact vm_ HO628.out) hb); replace BK612 := bb_ BK612 hb; replace BK622 := bb_ BK622 hb; replace HB := hs_ hb; (try clear hb)))
  go_ret2
  exact ⟨by first | rfl | (simp [errW_none, errW_some] <;> rfl) | (simp [*, errW_none, errW_some] <;> rfl), qz_⟩
 ·replace c18 := Bool.eq_false_iff.mpr c18
  subst c18
  rw [if_neg (show ¬ (false = true) by decide)] at H
  exact absurd H (by simp)
end Go.Proofs.YtlgapmhjaaajfaaGreat.PA
end

section
namespace Go.Proofs.YtlgapmhjaaajfaaGreat.PA
open Go.RowKit Go.Proofs.YtlgapmhjaaajfaaGreatW.PrintWords Go.Proofs.YtlgapmhjaaajfaaGreatW.PrintLast Go.Proofs.YtlgapmhjaaajfaaGreatW.PrintMore
attribute [local go_sem] max2_int min2_int max_two min_two max_three min_three max_four min_four   -- for this text's walks alone
set_option linter.unusedVariables false
set_option linter.unusedSimpArgs false
mutual
def cutplaneref01_Low.l0 : Nat → List Int → Int → Option (Int)
 | 0, _, _ => none
 | k + 1, x0, x3 => if x3 < (wrap64 (32 * (x0.length : Int))) then ((cutplaneref01_Bit.f x0 x3).bind fun t406 => (cutplaneref01_Low.j1 k x0 x3 (t406 == 0))) else (cutplaneref01_Low.j1 k x0 x3 false)
def cutplaneref01_Low.j1 : Nat → List Int → Int → Bool → Option (Int)
 | 0, _, _, _ => none
 | k + 1, x0, x3, x14 => if x14 = true then (if 0 ≤ (wrap64 (Int.tdiv x3 32)) then (if (wrap64 (Int.tdiv x3 32)) < (x0.length : Int) then (if (rd x0 (wrap64 (Int.tdiv x3 32))) = 0 then (cutplaneref01_Low.l0 k x0 (wrap64 (x3 + 32))) else (cutplaneref01_Low.l0 k x0 (wrap64 (x3 + 1)))) else (none)) else (none)) else (if x3 = (wrap64 (32 * (x0.length : Int))) then (some 0) else (some x3))
end
def cutplaneref01_Low.f (k : Nat) (l0 : List Int) : Option (Int) := cutplaneref01_Low.l0 k l0 0
theorem cutplaneref01_Low.mono_l : ∀ k, (∀ y0 y1, LeO (cutplaneref01_Low.l0 k y0 y1) (cutplaneref01_Low.l0 (k + 1) y0 y1)) ∧ (∀ y0 y1 y2, LeO (cutplaneref01_Low.j1 k y0 y1 y2) (cutplaneref01_Low.j1 (k + 1) y0 y1 y2))
 | 0 => ⟨fun _ _ r h => by simp [cutplaneref01_Low.l0] at h, fun _ _ _ r h => by simp [cutplaneref01_Low.j1] at h⟩
 | k + 1 => by
  obtain ⟨ih0, ih1⟩ := cutplaneref01_Low.mono_l k
  refine ⟨?_, ?_⟩
  ·intro y0 y1
   unfold cutplaneref01_Low.l0
   repeat' first
   | (with_reducible exact ih0 _ _)
   | (with_reducible exact ih1 _ _ _)
   | (with_reducible exact LeO.refl _)
   | (with_reducible exact LeO.none _)
   | (with_reducible refine LeO.ite ?_ ?_)
   | (with_reducible refine LeO.bind ?_ (fun _ => ?_))
   | exact ih0 _ _
   | exact ih1 _ _ _
   | exact LeO.none _
   | refine LeO.ite ?_ ?_
   | refine LeO.bind ?_ (fun _ => ?_)
  ·intro y0 y1 y2
   unfold cutplaneref01_Low.j1
   repeat' first
   | (with_reducible exact ih0 _ _)
   | (with_reducible exact ih1 _ _ _)
   | (with_reducible exact LeO.refl _)
   | (with_reducible exact LeO.none _)
   | (with_reducible refine LeO.ite ?_ ?_)
   | (with_reducible refine LeO.bind ?_ (fun _ => ?_))
   | exact ih0 _ _
   | exact ih1 _ _ _
   | exact LeO.none _
   | refine LeO.ite ?_ ?_
   | refine LeO.bind ?_ (fun _ => ?_)
theorem cutplaneref01_Low.mono : ∀ a0 k, LeO (cutplaneref01_Low.f k a0) (cutplaneref01_Low.f (k + 1) a0) := by
 intro a0 k
 obtain ⟨ih0, ih1⟩ := cutplaneref01_Low.mono_l k
 unfold cutplaneref01_Low.f
 repeat' first
   | (with_reducible exact ih0 _ _)
   | (with_reducible exact ih1 _ _ _)
   | (with_reducible exact LeO.refl _)
   | (with_reducible exact LeO.none _)
   | (with_reducible refine LeO.ite ?_ ?_)
   | (with_reducible refine LeO.bind ?_ (fun _ => ?_))
   | exact ih0 _ _
   | exact ih1 _ _ _
   | exact LeO.none _
   | refine LeO.ite ?_ ?_
   | refine LeO.bind ?_ (fun _ => ?_)
theorem cutplaneref01_Low.calls (k : Nat) (A0 : Option Addr) (c0 : Nat) (l0 : List Int) (r : Int) (w : World) (hr0 : Kd.C (Kd.int .u32) w A0 l0.length l0) (hc0 : l0.length ≤ c0) (h : cutplaneref01_Low.f k l0 = some r) :
  Calls Tryz.prog 103 #[.slice A0 l0.length c0] w fun e w' => e = .returned (.int .i64 r) ∧ Drawn0 w w' := by
 have HR0 := A0_ hr0
 have HC0 := A0_ hc0
 clear hr0 hc0
 have H := h
 clear h
 unfold cutplaneref01_Low.f at H
 have H' := A0_ H
 clear H
 go_enter Tryz.func103, Tryz.ntmps103
 go_wp2
 go_loopg [3] k (fun kq v3 w' => ∃ (x3_1 : Int), v3 = .int .i64 x3_1 ∧ Aside0 (cutplaneref01_Low.l0 kq l0 x3_1 = some r) ∧ Aside0 (kq ≤ k) ∧ Drawn0 w w')
 case atStart => exact ⟨(0), (by first | rfl | (simp; done) | (simp [*]; done)), H', ⟨Nat.le_refl _⟩, by repeat (first | exact Drawn0.refl _ | apply Drawn0.step)⟩
 case round =>
  clear H'
  try clear c1
  obtain ⟨x3_1, rfl, HA, HK1, ⟨m1, rfl⟩⟩ := hrel
  cases gk with
  | zero => exact absurd HA.out (by simp [cutplaneref01_Low.l0])
  | succ k1 =>
   have H := HA.out
   clear HA
   simp only [cutplaneref01_Low.l0] at H
   have HC2 := A0_ H
   clear H
   go_upto_region 2 with (fail)
   go_cut [14] (fun v14 wc => ∃ (kq : Nat) (x14_1 : Bool), v14 = .bool x14_1 ∧ Aside0 (cutplaneref01_Low.j1 kq l0 x3_1 x14_1 = some r) ∧ Aside0 (kq ≤ k1) ∧ Drawn0 w wc)
   case first =>
    have H := HC2.out
    clear HC2
    by_cases c3 : x3_1 < (wrap64 (32 * (l0.length : Int)))
    ·rw [if_pos c3] at H
     have c3b0 : decide (x3_1 < (wrap64 (32 * (l0.length : Int)))) = true := decide_eq_true c3
     clear c3
     (first | rw [c3b0] | (simp only [i64_w, i32_w]; rw [c3b0]) | skip)
     obtain ⟨t406, A4, H⟩ := bs_ H
     try dsimp -simprocs only at H
     have H' := A0_ H
     clear H
     go_wp2_with (first | (go_at_call 107; (with_reducible refine (cutplaneref01_Bit.calls _ _ l0 x3_1 t406 _ ?side1 ?side2 A4.out).mono ?_); (case side1 => repeat (first | exact HR0.out | (with_reducible refine Kd.C_alloc ?_ _) | (with_reducible refine Kd.C_drewN ?_ _) | (with_reducible refine Kd.C_drew ?_))); (case side2 => exact HC0.out); rintro e w' ⟨rfl, ⟨nd, rfl⟩⟩))
     go_meet
     case rel => exact ⟨_, ((t406 == 0)), (by first | rfl | (simp; done) | (simp [*]; done)), H', ⟨by have := HK1.out; first | omega | exact Nat.le_refl _⟩, by repeat (first | exact Drawn0.refl _ | apply Drawn0.step)⟩
    ·rw [if_neg c3] at H
     have c3b0 : decide (x3_1 < (wrap64 (32 * (l0.length : Int)))) = false := decide_eq_false c3
     clear c3
     (first | rw [c3b0] | (simp only [i64_w, i32_w]; rw [c3b0]) | skip)
     have H' := A0_ H
     clear H
     go_wp2
     go_meet
     case rel => exact ⟨_, (false), (by first | rfl | (simp; done) | (simp [*]; done)), H', ⟨by have := HK1.out; first | omega | exact Nat.le_refl _⟩, by repeat (first | exact Drawn0.refl _ | apply Drawn0.step)⟩
   case rest =>
    clear HC2
    try clear c1
    try clear p2
    try clear c3
    try clear c3b0
    obtain ⟨kq, x14_1, rfl, HA, HJ1, ⟨mc1, rfl⟩⟩ := hcut
    cases kq with
    | zero => exact absurd HA.out (by simp [cutplaneref01_Low.j1])
    | succ kj1 =>
     have H := HA.out
     clear HA
     simp only [cutplaneref01_Low.j1] at H
     by_cases c5 : x14_1 = true
     ·subst c5
      rw [if_pos rfl] at H
      obtain ⟨ji6, hji6⟩ : ∃ j_ : Int, (wrap64 (Int.tdiv x3_1 32)) = j_ := ⟨_, rfl⟩
      replace H : (if 0 ≤ (ji6) then (if (ji6) < (l0.length : Int) then (if (rd l0 (ji6)) = 0 then (cutplaneref01_Low.l0 kj1 l0 (wrap64 (x3_1 + 32))) else (cutplaneref01_Low.l0 kj1 l0 (wrap64 (x3_1 + 1)))) else (none)) else (none)) = some r := by first | (rw [hji6] at H; exact H) | (simp only [hji6] at H ⊢; exact H)
      have hji6w : (IntKind.i64.wrap (Int.tdiv x3_1 32)) = ji6 := (i64_w _).trans hji6
      obtain ⟨c7, H⟩ := ic_ H
      have c7b0 : decide (0 ≤ (ji6)) = true := decide_eq_true c7
      clear c7
      obtain ⟨c8, H⟩ := ic_ H
      have c8b0 : decide ((ji6) < (l0.length : Int)) = true := decide_eq_true c8
      clear c8
      by_cases c9 : (rd l0 (ji6)) = 0
      ·rw [if_pos c9] at H
       have c9b0 : ((rd l0 (ji6)) == 0) = true := beq_iff_eq.mpr c9
       have c9b1 : ((rd l0 (ji6)) != 0) = false := bne_eq_false_iff_eq.mpr c9
       clear c9
       have H' := A0_ H
       clear H
       have p407 : 0 ≤ ((ji6) : Int) := of_decide_eq_true (by first | (with_reducible assumption) | assumption)
       have q407 : (ji6) < (l0.length : Int) := of_decide_eq_true (by first | (with_reducible assumption) | assumption)
       obtain ⟨ad407, e407, hx407_0⟩ := Kd.at_int HR0.out (ji6) p407 q407
       cases e407
       replace p407 := eq_true p407
       replace q407 := eq_true q407
       go_wp2
       go_roundg kj1
       case measure => have := HK1.out; have := HJ1.out; omega
       case rel => exact ⟨(wrap64 (x3_1 + 32)), (by first | rfl | (simp; done) | (simp [*]; done)), H', ⟨by have := HK1.out; have := HJ1.out; omega⟩, by repeat (first | exact Drawn0.refl _ | apply Drawn0.step)⟩
      ·rw [if_neg c9] at H
       have c9b0 : ((rd l0 (ji6)) == 0) = false := beq_eq_false_iff_ne.mpr c9
       have c9b1 : ((rd l0 (ji6)) != 0) = true := bne_iff_ne.mpr c9
       have H' := A0_ H
       clear H
       have p407 : 0 ≤ ((ji6) : Int) := of_decide_eq_true (by first | (with_reducible assumption) | assumption)
       have q407 : (ji6) < (l0.length : Int) := of_decide_eq_true (by first | (with_reducible assumption) | assumption)
       obtain ⟨ad407, e407, hx407_0⟩ := Kd.at_int HR0.out (ji6) p407 q407
       cases e407
       replace p407 := eq_true p407
       replace q407 := eq_true q407
       go_wp2
       go_roundg kj1
       case measure => have := HK1.out; have := HJ1.out; omega
       case rel => exact ⟨(wrap64 (x3_1 + 1)), (by first | rfl | (simp; done) | (simp [*]; done)), H', ⟨by have := HK1.out; have := HJ1.out; omega⟩, by repeat (first | exact Drawn0.refl _ | apply Drawn0.step)⟩
     ·replace c5 := Bool.eq_false_iff.mpr c5
      subst c5
      rw [if_neg (show ¬ (false = true) by decide)] at H
      by_cases c10 : x3_1 = (wrap64 (32 * (l0.length : Int)))
      ·rw [if_pos c10] at H
       have c10b0 : (x3_1 == (wrap64 (32 * (l0.length : Int)))) = true := beq_iff_eq.mpr c10
       have c10b1 : (x3_1 != (wrap64 (32 * (l0.length : Int)))) = false := bne_eq_false_iff_eq.mpr c10
       clear c10
       obtain rfl := Option.some.inj H
       go_wp2
       go_ret
       exact ⟨by first | rfl | (simp; done) | (simp [*]; done), by repeat (first | exact Drawn0.refl _ | apply Drawn0.step)⟩
      ·rw [if_neg c10] at H
       have c10b0 : (x3_1 == (wrap64 (32 * (l0.length : Int)))) = false := beq_eq_false_iff_ne.mpr c10
       have c10b1 : (x3_1 != (wrap64 (32 * (l0.length : Int)))) = true := bne_iff_ne.mpr c10
       obtain rfl := Option.some.inj H
       go_wp2
       go_ret
       exact ⟨by first | rfl | (simp; done) | (simp [*]; done), by repeat (first | exact Drawn0.refl _ | apply Drawn0.step)⟩
end Go.Proofs.YtlgapmhjaaajfaaGreat.PA
end

section
namespace Go.Proofs.YtlgapmhjaaajfaaGreat.PA
open Go.RowKit Go.Proofs.YtlgapmhjaaajfaaGreatW.PrintWords Go.Proofs.YtlgapmhjaaajfaaGreatW.PrintLast Go.Proofs.YtlgapmhjaaajfaaGreatW.PrintMore
attribute [local go_sem] max2_int min2_int max_two min_two max_three min_three max_four min_four   -- for this text's walks alone
set_option linter.unusedVariables false
set_option linter.unusedSimpArgs false
def cutplaneref01_Down.l0 : Nat → List Int → Bool → List Int → Int → Int → Option (List Int × Bool)
 | 0, _, _, _, _, _ => none
 | k + 1, x0, x6, x7, x8, x9 => if x9 < (x0.length : Int) then (if 0 ≤ x9 then (if 0 ≤ x8 then (if (wrap64 (x9 + 1)) < (x0.length : Int) then (if 0 ≤ (wrap64 (x9 + 1)) then (if 0 ≤ (wrap64 (32 - x8)) then (if x7.length < 35184372088832 then (cutplaneref01_Down.l0 k x0 x6 (x7 ++ [(Go.bits .or .u64 (shr .u64 (IntKind.u64.wrap (rd x0 x9)) x8) (shl .u64 (IntKind.u64.wrap (rd x0 (wrap64 (x9 + 1)))) (wrap64 (32 - x8)))) % 4294967296]) x8 (wrap64 (x9 + 1))) else (none)) else (none)) else (none)) else (if x7.length < 35184372088832 then (cutplaneref01_Down.l0 k x0 x6 (x7 ++ [(shr .u64 (IntKind.u64.wrap (rd x0 x9)) x8) % 4294967296]) x8 (wrap64 (x9 + 1))) else (none))) else (none)) else (none)) else ((cutplaneref01_Trim.f k x7).bind fun t429 => (some (t429, x6)))
def cutplaneref01_Down.f (k : Nat) (l0 : List Int) (a1 : Int) : Option (List Int × Bool) := (cutplaneref01_Len.f k l0).bind fun t419 => (if a1 ≥ t419 then (some (([] : List Int), decide ((l0.length : Int) > 0))) else ((cutplaneref01_Low.f k l0).bind fun t420 => (cutplaneref01_Down.l0 k l0 (decide (a1 > t420)) ([] : List Int) (Int.tmod a1 32) (wrap64 (Int.tdiv a1 32)))))
theorem cutplaneref01_Down.mono_l : ∀ k, (∀ y0 y1 y2 y3 y4, LeO (cutplaneref01_Down.l0 k y0 y1 y2 y3 y4) (cutplaneref01_Down.l0 (k + 1) y0 y1 y2 y3 y4))
 | 0 => fun _ _ _ _ _ r h => by simp [cutplaneref01_Down.l0] at h
 | k + 1 => by
  have ih0 := cutplaneref01_Down.mono_l k
  ·intro y0 y1 y2 y3 y4
   unfold cutplaneref01_Down.l0
   repeat' first
   | (with_reducible exact ih0 _ _ _ _ _)
   | (with_reducible exact cutplaneref01_Len.mono _ _)
   | (with_reducible exact cutplaneref01_Low.mono _ _)
   | (with_reducible exact cutplaneref01_Trim.mono _ _)
   | (with_reducible exact LeO.refl _)
   | (with_reducible exact LeO.none _)
   | (with_reducible refine LeO.ite ?_ ?_)
   | (with_reducible refine LeO.bind ?_ (fun _ => ?_))
   | exact ih0 _ _ _ _ _
   | exact cutplaneref01_Len.mono _ _
   | exact cutplaneref01_Low.mono _ _
   | exact cutplaneref01_Trim.mono _ _
   | exact LeO.none _
   | refine LeO.ite ?_ ?_
   | refine LeO.bind ?_ (fun _ => ?_)
theorem cutplaneref01_Down.mono : ∀ a0 a1 k, LeO (cutplaneref01_Down.f k a0 a1) (cutplaneref01_Down.f (k + 1) a0 a1) := by
 intro a0 a1 k
 have ih0 := cutplaneref01_Down.mono_l k
 unfold cutplaneref01_Down.f
 repeat' first
   | (with_reducible exact ih0 _ _ _ _ _)
   | (with_reducible exact cutplaneref01_Len.mono _ _)
   | (with_reducible exact cutplaneref01_Low.mono _ _)
   | (with_reducible exact cutplaneref01_Trim.mono _ _)
   | (with_reducible exact LeO.refl _)
   | (with_reducible exact LeO.none _)
   | (with_reducible refine LeO.ite ?_ ?_)
   | (with_reducible refine LeO.bind ?_ (fun _ => ?_))
   | exact ih0 _ _ _ _ _
   | exact cutplaneref01_Len.mono _ _
   | exact cutplaneref01_Low.mono _ _
   | exact cutplaneref01_Trim.mono _ _
   | exact LeO.none _
   | refine LeO.ite ?_ ?_
   | refine LeO.bind ?_ (fun _ => ?_)
theorem cutplaneref01_Down.calls (k : Nat) (A0 : Option Addr) (c0 : Nat) (l0 : List Int) (a1 : Int) (r1 : List Int) (r2 : Bool) (w : World) (hr0 : Kd.C (Kd.int .u32) w A0 l0.length l0) (hc0 : l0.length ≤ c0) (h : cutplaneref01_Down.f k l0 a1 = some (r1, r2)) :
  Calls Tryz.prog 104 #[.slice A0 l0.length c0, .int .i64 a1] w fun e w' => ∃ v0_ : Value, e = .returned (.tuple #[v0_, .bool r2]) ∧ Kd.V (Kd.int .u32) 132 w' w.heap.size (fun k_ => (w.heap.size ≤ k_)) v0_ r1 ∧ Below w.heap.size w w' := by
 have HR0 := A0_ hr0
 have HC0 := A0_ hc0
 clear hr0 hc0
 have HB := A0_ (Below.refl w.heap.size w)
 have H := h
 clear h
 unfold cutplaneref01_Down.f at H
 obtain ⟨t419, A3, H⟩ := bs_ H
 try dsimp -simprocs only at H
 by_cases c4 : a1 ≥ t419
 ·rw [if_pos c4] at H
  have c4b0 : decide (t419 ≤ a1) = true := decide_eq_true c4
  clear c4
  simp only [Option.some.injEq, Prod.mk.injEq] at H
  obtain ⟨rfl, rfl⟩ := H
  go_enter Tryz.func104, Tryz.ntmps104
  go_wp2_with (first | ((with_reducible refine gate_callee (f := 95) rfl ?_); refine goesL_ (some 13) rfl rfl Tryz.func95 (by kernel_rfl) rfl #[.slice A0 l0.length c0] rfl (am_ rfl) ?_; (with_reducible refine (cutplaneref01_Len.calls k _ _ l0 t419 _ ?side1 ?side2 A3.out).mono ?_); (case side1 => repeat (first | exact HR0.out | (with_reducible refine Kd.C_alloc ?_ _) | (with_reducible refine Kd.C_drewN ?_ _) | (with_reducible refine Kd.C_drew ?_))); (case side2 => exact HC0.out); rintro e w' ⟨rfl, ⟨nd, rfl⟩⟩; refine ⟨_, rfl, ?_⟩))
  go_ret2
  exact ⟨_, by first | rfl | (simp [errW_none, errW_some] <;> rfl) | (simp [*, errW_none, errW_some] <;> rfl), (Kd.V_nil _ _ _ _ _), qm_ HB.out⟩
 ·rw [if_neg c4] at H
  have c4b0 : decide (t419 ≤ a1) = false := decide_eq_false c4
  clear c4
  obtain ⟨t420, A5, H⟩ := bs_ H
  try dsimp -simprocs only at H
  have H' := A0_ H
  clear H
  go_enter Tryz.func104, Tryz.ntmps104
  go_wp2_with (first | ((with_reducible refine gate_callee (f := 95) rfl ?_); refine goesL_ (some 13) rfl rfl Tryz.func95 (by kernel_rfl) rfl #[.slice A0 l0.length c0] rfl (am_ rfl) ?_; (with_reducible refine (cutplaneref01_Len.calls k _ _ l0 t419 _ ?side1 ?side2 A3.out).mono ?_); (case side1 => repeat (first | exact HR0.out | (with_reducible refine Kd.C_alloc ?_ _) | (with_reducible refine Kd.C_drewN ?_ _) | (with_reducible refine Kd.C_drew ?_))); (case side2 => exact HC0.out); rintro e w' ⟨rfl, ⟨nd, rfl⟩⟩; refine ⟨_, rfl, ?_⟩) | ((with_reducible refine gate_callee (f := 103) rfl ?_); refine goesL_ (some 20) rfl rfl Tryz.func103 (by kernel_rfl) rfl #[.slice A0 l0.length c0] rfl (am_ rfl) ?_; (with_reducible refine (cutplaneref01_Low.calls k _ _ l0 t420 _ ?side1 ?side2 A5.out).mono ?_); (case side1 => repeat (first | exact HR0.out | (with_reducible refine Kd.C_alloc ?_ _) | (with_reducible refine Kd.C_drewN ?_ _) | (with_reducible refine Kd.C_drew ?_))); (case side2 => exact HC0.out); rintro e w' ⟨rfl, ⟨nd, rfl⟩⟩; refine ⟨_, rfl, ?_⟩))
  go_loopg [7, 9] k (fun kq v7 v9 w' => ∃ (x7_1 : List Int) (x9_1 : Int), v9 = .int .i64 x9_1 ∧ Aside0 (cutplaneref01_Down.l0 kq l0 (decide (a1 > t420)) x7_1 (Int.tmod a1 32) x9_1 = some (r1, r2)) ∧ Aside0 (kq ≤ k) ∧ Aside0 (Kd.R (Kd.int .u32) 132 w' w.heap.size (fun k_ => (w.heap.size ≤ k_)) v7 x7_1) ∧ Aside0 (Below w.heap.size w w'))
  case atStart => exact ⟨(([] : List Int)), (wrap64 (Int.tdiv a1 32)), (by first | rfl | (simp; done) | (simp [*]; done)), H', ⟨Nat.le_refl _⟩, ⟨by first | exact Kd.R_nil _ _ _ _ _ | exact Kd.N_nil _ _ _ _ _ | exact Kd.V_nil _ _ _ _ _ | exact Kd.Q_nil _ _ _ _ _ | exact Kd.S_nil _ _ _ _ _⟩, ⟨qm_ HB.out⟩⟩
  case round =>
   clear H'
   try clear c1
   try clear p2
   try clear c4
   try clear c4b0
   obtain ⟨x7_1, x9_1, rfl, HA, HK1, HO_7, HB⟩ := hrel
   cases gk with
   | zero => exact absurd HA.out (by simp [cutplaneref01_Down.l0])
   | succ k1 =>
    have H := HA.out
    clear HA
    simp only [cutplaneref01_Down.l0] at H
    by_cases c6 : x9_1 < (l0.length : Int)
    ·rw [if_pos c6] at H
     have c6b0 : decide (x9_1 < (l0.length : Int)) = true := decide_eq_true c6
     clear c6
     obtain ⟨c7, H⟩ := ic_ H
     have c7b0 : decide (0 ≤ x9_1) = true := decide_eq_true c7
     clear c7
     obtain ⟨ji8, hji8⟩ : ∃ j_ : Int, (Int.tmod a1 32) = j_ := ⟨_, rfl⟩
     replace H : (if 0 ≤ (ji8) then (if (wrap64 (x9_1 + 1)) < (l0.length : Int) then (if 0 ≤ (wrap64 (x9_1 + 1)) then (if 0 ≤ (wrap64 (32 - (ji8))) then (if x7_1.length < 35184372088832 then (cutplaneref01_Down.l0 k1 l0 (decide (a1 > t420)) (x7_1 ++ [(Go.bits .or .u64 (shr .u64 (IntKind.u64.wrap (rd l0 x9_1)) (ji8)) (shl .u64 (IntKind.u64.wrap (rd l0 (wrap64 (x9_1 + 1)))) (wrap64 (32 - (ji8))))) % 4294967296]) (ji8) (wrap64 (x9_1 + 1))) else (none)) else (none)) else (none)) else (if x7_1.length < 35184372088832 then (cutplaneref01_Down.l0 k1 l0 (decide (a1 > t420)) (x7_1 ++ [(shr .u64 (IntKind.u64.wrap (rd l0 x9_1)) (ji8)) % 4294967296]) (ji8) (wrap64 (x9_1 + 1))) else (none))) else (none)) = some (r1, r2) := by first | (rw [hji8] at H; exact H) | (simp only [hji8] at H ⊢; exact H)
     obtain ⟨c9, H⟩ := ic_ H
     have c9b0 := eq_true c9
     have c9b1 : decide (0 ≤ (ji8)) = true := decide_eq_true c9
     clear c9
     obtain ⟨ji10, hji10⟩ : ∃ j_ : Int, (shr .u64 (IntKind.u64.wrap (rd l0 x9_1)) (ji8)) = j_ := ⟨_, rfl⟩
     replace H : (if (wrap64 (x9_1 + 1)) < (l0.length : Int) then (if 0 ≤ (wrap64 (x9_1 + 1)) then (if 0 ≤ (wrap64 (32 - (ji8))) then (if x7_1.length < 35184372088832 then (cutplaneref01_Down.l0 k1 l0 (decide (a1 > t420)) (x7_1 ++ [(Go.bits .or .u64 (ji10) (shl .u64 (IntKind.u64.wrap (rd l0 (wrap64 (x9_1 + 1)))) (wrap64 (32 - (ji8))))) % 4294967296]) (ji8) (wrap64 (x9_1 + 1))) else (none)) else (none)) else (none)) else (if x7_1.length < 35184372088832 then (cutplaneref01_Down.l0 k1 l0 (decide (a1 > t420)) (x7_1 ++ [(ji10) % 4294967296]) (ji8) (wrap64 (x9_1 + 1))) else (none))) = some (r1, r2) := by first | (rw [hji10] at H; exact H) | (simp only [hji10] at H ⊢; exact H)
     have hji10_ : ((IntKind.u64.wrap (rd l0 x9_1)) / 2 ^ min (ji8).toNat 64) = ji10 := hji10
     have hji10z : (ji8) ≤ 64 → ((IntKind.u64.wrap (rd l0 x9_1)) / 2 ^ (ji8).toNat) = ji10 := shr_small hji10
     by_cases c11 : (wrap64 (x9_1 + 1)) < (l0.length : Int)
     ·rw [if_pos c11] at H
      have c11b0 : decide ((wrap64 (x9_1 + 1)) < (l0.length : Int)) = true := decide_eq_true c11
      clear c11
      obtain ⟨ji12, hji12⟩ : ∃ j_ : Int, (wrap64 (x9_1 + 1)) = j_ := ⟨_, rfl⟩
      replace H : (if 0 ≤ (ji12) then (if 0 ≤ (wrap64 (32 - (ji8))) then (if x7_1.length < 35184372088832 then (cutplaneref01_Down.l0 k1 l0 (decide (a1 > t420)) (x7_1 ++ [(Go.bits .or .u64 (ji10) (shl .u64 (IntKind.u64.wrap (rd l0 (ji12))) (wrap64 (32 - (ji8))))) % 4294967296]) (ji8) ji12) else (none)) else (none)) else (none)) = some (r1, r2) := by first | (rw [hji12] at H; exact H) | (simp only [hji12] at H ⊢; exact H)
      (try rw [hji12] at c11b0)
      have hji12w : (IntKind.i64.wrap (x9_1 + 1)) = ji12 := (i64_w _).trans hji12
      obtain ⟨c13, H⟩ := ic_ H
      have c13b0 : decide (0 ≤ (ji12)) = true := decide_eq_true c13
      clear c13
      obtain ⟨ji14, hji14⟩ : ∃ j_ : Int, (wrap64 (32 - (ji8))) = j_ := ⟨_, rfl⟩
      replace H : (if 0 ≤ (ji14) then (if x7_1.length < 35184372088832 then (cutplaneref01_Down.l0 k1 l0 (decide (a1 > t420)) (x7_1 ++ [(Go.bits .or .u64 (ji10) (shl .u64 (IntKind.u64.wrap (rd l0 (ji12))) (ji14))) % 4294967296]) (ji8) ji12) else (none)) else (none)) = some (r1, r2) := by first | (rw [hji14] at H; exact H) | (simp only [hji14] at H ⊢; exact H)
      have hji14w : (IntKind.i64.wrap (32 - (ji8))) = ji14 := (i64_w _).trans hji14
      obtain ⟨c15, H⟩ := ic_ H
      have c15b0 := eq_true c15
      have c15b1 : decide (0 ≤ (ji14)) = true := decide_eq_true c15
      clear c15
      obtain ⟨ji16, hji16⟩ : ∃ j_ : Int, (shl .u64 (IntKind.u64.wrap (rd l0 (ji12))) (ji14)) = j_ := ⟨_, rfl⟩
      replace H : (if x7_1.length < 35184372088832 then (cutplaneref01_Down.l0 k1 l0 (decide (a1 > t420)) (x7_1 ++ [(Go.bits .or .u64 (ji10) (ji16)) % 4294967296]) (ji8) ji12) else (none)) = some (r1, r2) := by first | (rw [hji16] at H; exact H) | (simp only [hji16] at H ⊢; exact H)
      have hji16_ : (IntKind.u64.wrap ((IntKind.u64.wrap (rd l0 (ji12))) * 2 ^ min (ji14).toNat 64)) = ji16 := hji16
      have hji16z : (ji14) ≤ 64 → (IntKind.u64.wrap ((IntKind.u64.wrap (rd l0 (ji12))) * 2 ^ (ji14).toNat)) = ji16 := shl_small hji16
      obtain ⟨c17, H⟩ := ic_ H
      have LMc17 := A0_ c17
      clear c17
      obtain ⟨y423, hy423⟩ : ∃ y_ : List Int, y_ = (x7_1 ++ [(Go.bits .or .u64 (ji10) (ji16)) % 4294967296]) := ⟨_, rfl⟩
      replace H : (cutplaneref01_Down.l0 k1 l0 (decide (a1 > t420)) y423 (ji8) ji12) = some (r1, r2) := by first | (rw [hy423]; with_reducible exact H) | (have H2_ := (Option.bind_some _ _).symm.trans H; rw [hy423]; with_reducible exact H2_) | (have H2_ := (Option.bind_some _ _).symm.trans H; with_reducible exact H2_) | with_reducible exact H | (rw [hy423]; exact H) | exact H
      have Ny423 := A0_ hy423
      clear hy423
      have H' := A0_ H
      clear H
      have p421 : 0 ≤ (x9_1 : Int) := of_decide_eq_true (by first | (with_reducible assumption) | assumption)
      have q421 : x9_1 < (l0.length : Int) := of_decide_eq_true (by first | (with_reducible assumption) | assumption)
      obtain ⟨ad421, e421, hx421_0⟩ := Kd.at_int HR0.out x9_1 p421 q421
      cases e421
      replace hx421_0 := (HB.out.cell (World.block_lt_of_cell? w _ hx421_0)).trans hx421_0
      replace p421 := eq_true p421
      replace q421 := eq_true q421
      have p422 : 0 ≤ ((ji12) : Int) := of_decide_eq_true (by first | (with_reducible assumption) | assumption)
      have q422 : (ji12) < (l0.length : Int) := of_decide_eq_true (by first | (with_reducible assumption) | assumption)
      obtain ⟨ad422, e422, hx422_0⟩ := Kd.at_int HR0.out (ji12) p422 q422
      obtain rfl : ad421 = ad422 := (by injection e422)
      replace hx422_0 := (HB.out.cell (World.block_lt_of_cell? w _ hx422_0)).trans hx422_0
      replace p422 := eq_true p422
      replace q422 := eq_true q422
      go_wp2_with (first | ((with_reducible refine gate_builtin (b := .append) (xs := #[.tmp 55, .tmp 58]) rfl ?_); at_builtin; refine Kd.R_append (Kd.int .u32) (w0 := w) w.heap.size rfl (.tmp 55) (.tmp 58) 105 132 (.int .u32 0) 4 rfl Tryz.underlying105 info132 rfl (by decide) (by omega) u7 x7_1 ((Go.bits .or .u64 (ji10) (ji16)) % 4294967296) [.int .u32 ((Go.bits .or .u64 (ji10) (ji16)) % 4294967296)] (fun k_ => (w.heap.size ≤ k_)) (fun _ => False) rfl rfl ?aP (fun _ hk => hk.elim) ?aF ?aO ?aB ?aS ?aL ?_; (case aP => exact rfl); (case aB => exact (qm_ HB.out)); (case aF => exact (fun k_ hk => (Nat.le_trans (below_size (qm_ HB.out)) hk))); (case aO => exact (by exact rm_ HO_7.out)); (case aS => exact (below_size (qm_ HB.out))); (case aL => have := LMc17.out; omega); intro v424 w18 ho hb hg hat; rw [← Ny423.out] at ho; replace HB := A0_ (hb); have HO425 := A0_ (ho); clear HO_7 ho hb hg hat))
      first | go_roundg k1 | ((try subst hji16); (try subst hji14); (try subst hji8); go_roundg k1)
      case measure => have := HK1.out; omega
      case rel => exact ⟨(y423), (ji12), (by first | rfl | (simp; done) | (simp only [← hji12] <;> (first | rfl | simp)) | (simp [*]; done)), H', ⟨by have := HK1.out; omega⟩, ⟨by exact rm_ HO425.out⟩, ⟨qm_ HB.out⟩⟩
     ·rw [if_neg c11] at H
      have c11b0 : decide ((wrap64 (x9_1 + 1)) < (l0.length : Int)) = false := decide_eq_false c11
      clear c11
      obtain ⟨c19, H⟩ := ic_ H
      have LMc19 := A0_ c19
      clear c19
      obtain ⟨y426, hy426⟩ : ∃ y_ : List Int, y_ = (x7_1 ++ [(ji10) % 4294967296]) := ⟨_, rfl⟩
      replace H : (cutplaneref01_Down.l0 k1 l0 (decide (a1 > t420)) y426 (ji8) (wrap64 (x9_1 + 1))) = some (r1, r2) := by first | (rw [hy426]; with_reducible exact H) | (have H2_ := (Option.bind_some _ _).symm.trans H; rw [hy426]; with_reducible exact H2_) | (have H2_ := (Option.bind_some _ _).symm.trans H; with_reducible exact H2_) | with_reducible exact H | (rw [hy426]; exact H) | exact H
      have Ny426 := A0_ hy426
      clear hy426
      have H' := A0_ H
      clear H
      have p421 : 0 ≤ (x9_1 : Int) := of_decide_eq_true (by first | (with_reducible assumption) | assumption)
      have q421 : x9_1 < (l0.length : Int) := of_decide_eq_true (by first | (with_reducible assumption) | assumption)
      obtain ⟨ad421, e421, hx421_0⟩ := Kd.at_int HR0.out x9_1 p421 q421
      cases e421
      replace hx421_0 := (HB.out.cell (World.block_lt_of_cell? w _ hx421_0)).trans hx421_0
      replace p421 := eq_true p421
      replace q421 := eq_true q421
      go_wp2_with (first | ((with_reducible refine gate_builtin (b := .append) (xs := #[.tmp 55, .tmp 58]) rfl ?_); at_builtin; refine Kd.R_append (Kd.int .u32) (w0 := w) w.heap.size rfl (.tmp 55) (.tmp 58) 105 132 (.int .u32 0) 4 rfl Tryz.underlying105 info132 rfl (by decide) (by omega) u7 x7_1 ((ji10) % 4294967296) [.int .u32 ((ji10) % 4294967296)] (fun k_ => (w.heap.size ≤ k_)) (fun _ => False) rfl rfl ?aP (fun _ hk => hk.elim) ?aF ?aO ?aB ?aS ?aL ?_; (case aP => exact rfl); (case aB => exact (qm_ HB.out)); (case aF => exact (fun k_ hk => (Nat.le_trans (below_size (qm_ HB.out)) hk))); (case aO => exact (by exact rm_ HO_7.out)); (case aS => exact (below_size (qm_ HB.out))); (case aL => have := LMc19.out; omega); intro v427 w20 ho hb hg hat; rw [← Ny426.out] at ho; replace HB := A0_ (hb); have HO428 := A0_ (ho); clear HO_7 ho hb hg hat))
      first | go_roundg k1 | ((try subst hji16); (try subst hji14); (try subst hji8); go_roundg k1)
      case measure => have := HK1.out; omega
      case rel => exact ⟨(y426), (wrap64 (x9_1 + 1)), (by first | rfl | (simp; done) | (simp [*]; done)), H', ⟨by have := HK1.out; omega⟩, ⟨by exact rm_ HO428.out⟩, ⟨qm_ HB.out⟩⟩
    ·rw [if_neg c6] at H
     have c6b0 : decide (x9_1 < (l0.length : Int)) = false := decide_eq_false c6
     clear c6
     obtain ⟨t429, A21, H⟩ := bs_ H
     try dsimp -simprocs only at H
     simp only [Option.some.injEq, Prod.mk.injEq] at H
     obtain ⟨rfl, rfl⟩ := H
     obtain ⟨Ao22, co22, eo22⟩ := Kd.R_slice HO_7.out
     subst eo22
     go_wp2_with (first | ((with_reducible refine gate_callee (f := 105) rfl ?_); refine goesL_ (some 61) rfl rfl Tryz.func105 (by kernel_rfl) rfl #[.slice Ao22 x7_1.length co22] rfl (am_ rfl) ?_; (with_reducible refine (cutplaneref01_Trim.calls k1 (fun k_ => some k_ = (.slice Ao22 x7_1.length co22 : Value).ownBlock) _ _ x7_1 t429 _ ?side1 A21.out).mono ?_); (case side1 => exact Kd.R_V (Kd.R_tight rfl (HO_7.out))); rintro e w23 ⟨v430, rfl, ho0, hb⟩; refine ⟨_, rfl, ?_⟩; have HO431 := A0_ (Kd.V_lower (Kd.V_mono (ok' := fun k_ => (w.heap.size ≤ k_)) ho0 (fun k_ hk_ => Or.elim hk_ (fun hs_ => ((HO_7.out).1 k_ hs_.symm)) (fun hn_ => (Nat.le_trans (below_size (qm_ HB.out)) hn_)))) (below_size (qm_ HB.out))); replace HO_7 := A0_ (Kd.R_below (by exact rm_ HO_7.out) hb); replace HB := hs_ hb; (try clear hb); (try clear ho0)))
     go_ret2
     exact ⟨_, by first | rfl | (simp [errW_none, errW_some] <;> rfl) | (simp [*, errW_none, errW_some] <;> rfl), by (with_reducible repeat (first | apply Kd.V_alloc | apply Kd.V_drewN | apply Kd.V_drew)); exact HO431.out, qm_ HB.out⟩
def cutplaneref02_Form.f (k : Nat) (a0 : Bool) (l1 : List Int) (a2 : Int) : Option (Bool × List Int × Int) := if (l1.length : Int) = 0 then (some (false, ([] : List Int), 0)) else ((cutplaneref01_Low.f k l1).bind fun t433 => ((cutplaneref01_Down.f k l1 t433).bind fun bt434 => (some (a0, bt434.1, wrap64 (a2 + t433)))))
theorem cutplaneref02_Form.mono : ∀ a0 a1 a2 k, LeO (cutplaneref02_Form.f k a0 a1 a2) (cutplaneref02_Form.f (k + 1) a0 a1 a2) := by
 intro a0 a1 a2 k
 unfold cutplaneref02_Form.f
 repeat' first
   | (with_reducible exact cutplaneref01_Down.mono _ _ _)
   | (with_reducible exact cutplaneref01_Low.mono _ _)
   | (with_reducible exact LeO.refl _)
   | (with_reducible exact LeO.none _)
   | (with_reducible refine LeO.ite ?_ ?_)
   | (with_reducible refine LeO.bind ?_ (fun _ => ?_))
   | exact cutplaneref01_Down.mono _ _ _
   | exact cutplaneref01_Low.mono _ _
   | exact LeO.none _
   | refine LeO.ite ?_ ?_
   | refine LeO.bind ?_ (fun _ => ?_)
theorem cutplaneref02_Form.calls (k : Nat) (a0 : Bool) (A1 : Option Addr) (c1 : Nat) (l1 : List Int) (a2 : Int) (r1 : Bool) (r2 : List Int) (r3 : Int) (w : World) (hr1 : Kd.C (Kd.int .u32) w A1 l1.length l1) (hc1 : l1.length ≤ c1) (h : cutplaneref02_Form.f k a0 l1 a2 = some (r1, r2, r3)) :
  Calls Tryz.prog 86 #[.bool a0, .slice A1 l1.length c1, .int .i64 a2] w fun e w' => ∃ v1_ : Value, e = .returned (.agg #[.bool r1, v1_, .int .i64 r3]) ∧ Kd.V (Kd.int .u32) 132 w' w.heap.size (fun k_ => (w.heap.size ≤ k_)) v1_ r2 ∧ Below w.heap.size w w' := by
 have hu107 := Tryz.underlying107
 have HR1 := A0_ hr1
 have HC1 := A0_ hc1
 clear hr1 hc1
 have HB := A0_ (Below.refl w.heap.size w)
 have H := h
 clear h
 unfold cutplaneref02_Form.f at H
 by_cases c4 : (l1.length : Int) = 0
 ·rw [if_pos c4] at H
  have c4b0 : ((l1.length : Int) == 0) = true := beq_iff_eq.mpr c4
  have c4b1 : ((l1.length : Int) != 0) = false := bne_eq_false_iff_eq.mpr c4
  clear c4
  simp only [Option.some.injEq, Prod.mk.injEq] at H
  obtain ⟨rfl, rfl, rfl⟩ := H
  go_enter Tryz.func86, Tryz.ntmps86
  go_wp2_with (first | ((with_reducible refine gate_dst (N := 6) rfl ?_); refine box_event ?hg (N := 6) ?hd (cs := #[.bool false, .slice none 0 0, .int .i64 0]) (t := 107) ?hr ?_; (case hd => rfl); (case hg => rfl); (case hr => first | (go_simp; done) | (go_simp; rfl)); intro gb432 hg w5 hbox hb; have BK432 := A0_ (hbox); have GW432 := A0_ ((by rw [hg]; exact (below_size (qm_ HB.out)) : w.heap.size ≤ gb432)); have GE432 := GW432; replace HB := hs_ hb; clear hb hbox hg; have hcz6 := bc3_ BK432.out; have hfz6 := bf3_ BK432.out))
  refine bodyPost_ret (results_cell_row rfl _ _ gb432 107 #[.bool false, .slice none 0 0, .int .i64 0] (0, 0) _ rfl (by (with_reducible repeat first | apply bN_ | apply bD_ | apply bA_); refine blk_put (cs := #[.bool false, .slice none 0 0, .int .i64 0]) ?_ 2 _ rfl; refine blk_put (cs := #[.bool false, .slice none 0 0, .int .i64 0]) ?_ 1 _ rfl; refine blk_put (cs := #[.bool false, .slice none 0 0, .int .i64 0]) ?_ 0 _ rfl; exact bm_ BK432.out) Tryz.underlying107 rfl (by kernel_rfl)) rfl ?_
  exact ⟨_, by first | rfl | (simp [errW_none, errW_some] <;> rfl) | (simp [*, errW_none, errW_some] <;> rfl), (Kd.V_nil _ _ _ _ _), qz_⟩
 ·rw [if_neg c4] at H
  have c4b0 : ((l1.length : Int) == 0) = false := beq_eq_false_iff_ne.mpr c4
  have c4b1 : ((l1.length : Int) != 0) = true := bne_iff_ne.mpr c4
  have c4b2 : ¬ (l1 = []) := fun h_ => c4 (by rw [h_]; rfl)
  obtain ⟨t433, A7, H⟩ := bs_ H
  try dsimp -simprocs only at H
  obtain ⟨⟨t434, t437⟩, A8, H⟩ := bs_ H
  try dsimp -simprocs only at H
  simp only [Option.some.injEq, Prod.mk.injEq] at H
  obtain ⟨rfl, rfl, rfl⟩ := H
  go_enter Tryz.func86, Tryz.ntmps86
  go_wp2_with (first | ((with_reducible refine gate_dst (N := 6) rfl ?_); refine box_event ?hg (N := 6) ?hd (cs := #[.bool false, .slice none 0 0, .int .i64 0]) (t := 107) ?hr ?_; (case hd => rfl); (case hg => rfl); (case hr => first | (go_simp; done) | (go_simp; rfl)); intro gb432 hg w9 hbox hb; have BK432 := A0_ (hbox); have GW432 := A0_ ((by rw [hg]; exact (below_size (qm_ HB.out)) : w.heap.size ≤ gb432)); have GE432 := GW432; replace HB := hs_ hb; clear hb hbox hg) | ((with_reducible refine gate_callee (f := 103) rfl ?_); refine goesL_ (some 15) rfl rfl Tryz.func103 (by kernel_rfl) rfl #[.slice A1 l1.length c1] rfl (am_ rfl) ?_; (with_reducible refine (cutplaneref01_Low.calls k _ _ l1 t433 _ ?side1 ?side2 A7.out).mono ?_); (case side1 => repeat (first | exact (Kd.C_below HR1.out HB.out) | (with_reducible refine Kd.C_alloc ?_ _) | (with_reducible refine Kd.C_drewN ?_ _) | (with_reducible refine Kd.C_drew ?_))); (case side2 => exact HC1.out); rintro e w' ⟨rfl, ⟨nd, rfl⟩⟩; refine ⟨_, rfl, ?_⟩; (try (rw [drewN_self w9]; generalize hq_ : World.drewN w9 _ = w9; have n0_ : Aside0 (w9.heap[gb432]? = some (.cells #[.bool false, .slice none 0 0, .int .i64 0] 107 (0, 0))) := ⟨by rw [← hq_]; exact (bm_ BK432.out)⟩; have n1_ : Aside0 (Below w.heap.size w w9) := ⟨by rw [← hq_]; exact qz_⟩; clear BK432 HB hq_; have BK432 := n0_; have HB := n1_; clear n0_ n1_))) | ((with_reducible refine gate_callee (f := 104) rfl ?_); refine goesL_ (some 19) rfl rfl Tryz.func104 (by kernel_rfl) rfl #[.slice A1 l1.length c1, .int .i64 t433] rfl (am_ rfl) ?_; (with_reducible refine (cutplaneref01_Down.calls k _ _ l1 t433 t434 t437 _ ?side1 ?side2 A8.out).mono ?_); (case side1 => repeat (first | exact (Kd.C_below HR1.out HB.out) | (with_reducible refine Kd.C_alloc ?_ _) | (with_reducible refine Kd.C_drewN ?_ _) | (with_reducible refine Kd.C_drew ?_))); (case side2 => exact HC1.out); rintro e w10 ⟨v435, rfl, ho0, hb⟩; refine ⟨_, rfl, ?_⟩; have HO436 := A0_ (Kd.V_lower (Kd.V_mono (ok' := fun k_ => (w.heap.size ≤ k_) ∧ k_ ≠ gb432) ho0 (fun k_ hk_ => ⟨(Nat.le_trans (below_size qz_) hk_), (Kd.freshB (bm_ BK432.out) k_ hk_)⟩)) (below_size qz_)); replace BK432 := bb_ BK432 hb; replace HB := hs_ hb; (try clear hb); (try clear ho0); obtain ⟨Ao11, co11, eo11⟩ := Kd.V_slice HO436.out; subst eo11; have hcz12 := bc3_ BK432.out; have hfz12 := bf3_ BK432.out))
  refine bodyPost_ret (results_cell_row rfl _ _ gb432 107 #[.bool a0, .slice Ao11 t434.length co11, .int .i64 (wrap64 (a2 + t433))] (0, 0) _ rfl (by (with_reducible repeat first | apply bN_ | apply bD_ | apply bA_); refine blk_put (cs := #[.bool a0, .slice Ao11 t434.length co11, .int .i64 0]) ?_ 2 _ rfl; refine blk_put (cs := #[.bool a0, .slice none 0 0, .int .i64 0]) ?_ 1 _ rfl; refine blk_put (cs := #[.bool false, .slice none 0 0, .int .i64 0]) ?_ 0 _ rfl; exact bm_ BK432.out) Tryz.underlying107 rfl (by kernel_rfl)) rfl ?_
  exact ⟨_, by first | rfl | (simp [errW_none, errW_some] <;> rfl) | (simp [*, errW_none, errW_some] <;> rfl), by (with_reducible repeat (first | apply Kd.V_alloc | apply Kd.V_drewN | apply Kd.V_drew)); exact Kd.V_mono (Kd.V_far (p := ⟨gb432, 2, none⟩) (Kd.V_far (p := ⟨gb432, 1, none⟩) (Kd.V_far (p := ⟨gb432, 0, none⟩) (Kd.V_mono HO436.out (fun k_ hk => (⟨hk, hk.2⟩ : _ ∧ k_ ≠ gb432))) (fun _ hk => hk.2) (.bool a0)) (fun _ hk => hk.2) (.slice Ao11 t434.length co11)) (fun _ hk => hk.2) (.int .i64 (wrap64 (a2 + t433)))) (fun _ hk => hk.1.1), qz_⟩
end Go.Proofs.YtlgapmhjaaajfaaGreat.PA
end
