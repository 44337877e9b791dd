/- Steps of Go functions that the law SpecialKinds uses, told as plain Lean functions, each with the proof that its call comes to what it tells; words on memory; plain facts. No condition beyond those that each text names. -/
import Derived.Test.YtlgapmhjaaajfaaProg
import Derived.WalkMore
import Derived.Below
import Derived.Deep.Draws
import Derived.Deep.AppendLies
import Derived.Maps.AppendAt
import Derived.OwnWalk
import Derived.Laws.BytesArg
import Derived.Laws.MakeOwn
import Derived.Laws.OwnMore
import Derived.Deep.OwnRows
import Derived.Tactics
import Derived.Lib.ConvBytes
import Derived.Laws.Slices
import Derived.WalkKit
import Derived.KernelRfl
import Derived.RowKit3
import Derived.Deep.LoopGhost
import Derived.Deep.QuietTactic
import Derived.BigQuiet
import Derived.WideLaws
import Derived.Deep.DeepCutAuto
import Derived.Deep.CutBlock
import Derived.Deep.RegionHeld3
import Derived.Laws.Rows
import Derived.Lib.AppendStr
import Derived.ArgAppend
import Derived.Laws.IdiomCopy
import Derived.OrdersHeld
import Derived.Laws.BitsLemmas
import Derived.RowKit
import Derived.Laws.StructEq
import Derived.Test.YtlgapmhjaaajfaaSSpecialKinds0
import Derived.Test.YtlgapmhjaaajfaaSSpecialKinds1
import Derived.Test.YtlgapmhjaaajfaaSSpecialKinds2
import Derived.Test.YtlgapmhjaaajfaaSSpecialKinds3
import Derived.Test.YtlgapmhjaaajfaaSSpecialKinds4
import Derived.Test.YtlgapmhjaaajfaaSSpecialKinds5
import Derived.Test.YtlgapmhjaaajfaaSSpecialKinds6
import Derived.Test.YtlgapmhjaaajfaaSSpecialKinds7
section
namespace Go.Proofs.Ytlgapmhjaaajfaa.PA
open Go.RowKit Go.Proofs.YtlgapmhjaaajfaaW.PrintWords Go.Proofs.YtlgapmhjaaajfaaW.PrintLast Go.Proofs.YtlgapmhjaaajfaaW.PrintMore
attribute [local go_sem] max2_int min2_int max_two min_two max_three min_three max_four min_four   -- for this text's walks alone
set_option linter.unusedVariables false
set_option linter.unusedSimpArgs false
attribute [local go_sem high] eqA26 eqA29
mutual
def cutplanelaw11_SpecialKinds.j0 : Nat → Int → Int → Int → Int → Int → Int → Option (Bool)
 | 0, _, _, _, _, _, _ => none
 | k + 1, x0, x1, x916000, x916001, x917000, x917001 => (special_Mul.f k x0 x1 x916000 x916001 x917000 x917001).bind fun bt930 => ((special_Mul.f k x0 x1 x917000 x917001 x916000 x916001).bind fun bt937 => ((special_Div.f k x0 x1 x916000 x916001 x917000 x917001).bind fun bt944 => (if bt930.2.2.2.2.2 = 0 then (if bt937.2.2.2.2.2 = 0 then (if bt944.2.2.2.2.2 = 0 then (if ((!(bt930.1 == bt937.1) || (!(bt930.2.1 == bt937.2.1))) || (!(bt930.2.2.1 == bt937.2.2.1) || (!(bt930.2.2.2.1 == bt937.2.2.2.1)))) = true then (none) else (if bt930.2.2.2.2.1 = true then (if bt937.2.2.2.2.1 = true then (cutplanelaw11_SpecialKinds.j1 k x0 bt930.2.2.2.2.1 bt944.2.2.2.2.1 false x916000 x916001 x917000 x917001 bt930.1 bt930.2.1 bt930.2.2.1 bt930.2.2.2.1 bt944.1 bt944.2.1 bt944.2.2.1 bt944.2.2.2.1) else (cutplanelaw11_SpecialKinds.j1 k x0 bt930.2.2.2.2.1 bt944.2.2.2.2.1 true x916000 x916001 x917000 x917001 bt930.1 bt930.2.1 bt930.2.2.1 bt930.2.2.2.1 bt944.1 bt944.2.1 bt944.2.2.1 bt944.2.2.2.1)) else (if bt937.2.2.2.2.1 = true then (cutplanelaw11_SpecialKinds.j1 k x0 bt930.2.2.2.2.1 bt944.2.2.2.2.1 true x916000 x916001 x917000 x917001 bt930.1 bt930.2.1 bt930.2.2.1 bt930.2.2.2.1 bt944.1 bt944.2.1 bt944.2.2.1 bt944.2.2.2.1) else (cutplanelaw11_SpecialKinds.j1 k x0 bt930.2.2.2.2.1 bt944.2.2.2.2.1 false x916000 x916001 x917000 x917001 bt930.1 bt930.2.1 bt930.2.2.1 bt930.2.2.2.1 bt944.1 bt944.2.1 bt944.2.2.1 bt944.2.2.2.1)))) else (none)) else (none)) else (none))))
def cutplanelaw11_SpecialKinds.j1 : Nat → Int → Bool → Bool → Bool → Int → Int → Int → Int → Int → Int → Int → Int → Int → Int → Int → Int → Option (Bool)
 | 0, _, _, _, _, _, _, _, _, _, _, _, _, _, _, _, _ => none
 | k + 1, x0, x14, x20, x99, x916000, x916001, x917000, x917001, x937000, x937001, x937002, x937003, x951000, x951001, x951002, x951003 => if x99 = true then (none) else ((cutplaneref10_Class.f k x0 x937000 x937001).bind fun t951 => ((cutplaneref10_Finite.f k x0 x916000 x916001).bind fun t952 => (if t952 = true then ((cutplaneref10_Finite.f k x0 x917000 x917001).bind fun t953 => (if t953 = true then (if x14 = true then (none) else (cutplanelaw11_SpecialKinds.j2 k x0 x14 x20 false x917000 x917001 x951000 x951001 x951002 x951003)) else (if x14 = true then (if t951 = 4 then (cutplanelaw11_SpecialKinds.j2 k x0 x14 x20 false x917000 x917001 x951000 x951001 x951002 x951003) else (cutplanelaw11_SpecialKinds.j2 k x0 x14 x20 (t951 != 3) x917000 x917001 x951000 x951001 x951002 x951003)) else (none)))) else (if x14 = true then (if t951 = 4 then (cutplanelaw11_SpecialKinds.j2 k x0 x14 x20 false x917000 x917001 x951000 x951001 x951002 x951003) else (cutplanelaw11_SpecialKinds.j2 k x0 x14 x20 (t951 != 3) x917000 x917001 x951000 x951001 x951002 x951003)) else (none)))))
def cutplanelaw11_SpecialKinds.j2 : Nat → Int → Bool → Bool → Bool → Int → Int → Int → Int → Int → Int → Option (Bool)
 | 0, _, _, _, _, _, _, _, _, _, _ => none
 | k + 1, x0, x14, x20, x125, x917000, x917001, x951000, x951001, x951002, x951003 => if x125 = true then (none) else ((cutplaneref10_Class.f k x0 x951000 x951001).bind fun t954 => (if x14 = true then (if x20 = true then (if t954 = 4 then ((cutplanelaw11_known.f k).bind fun t955 => (some t955)) else (if t954 = 3 then ((cutplanelaw11_known.f k).bind fun t956 => (some t956)) else (if t954 = 1 then ((cutplanelaw11_known.f k).bind fun t957 => (some t957)) else (none)))) else (none)) else ((cutplaneref10_Class.f k x0 x917000 x917001).bind fun t958 => (if x20 = true then (if t958 = 1 then (if t954 = 4 then ((cutplanelaw11_known.f k).bind fun t959 => (some t959)) else (if t954 = 3 then ((cutplanelaw11_known.f k).bind fun t960 => (some t960)) else (if t954 = 1 then ((cutplanelaw11_known.f k).bind fun t961 => (some t961)) else (none)))) else (none)) else (if t958 = 1 then (none) else ((cutplanelaw11_known.f k).bind fun t962 => (some t962)))))))
end
def cutplanelaw11_SpecialKinds.f (k : Nat) (a0 : Int) (a1 : Int) (a2_0 : Int) (a2_1 : Int) (a3_0 : Int) (a3_1 : Int) : Option (Bool) := (cutplanelaw11_opens.f k a0 a1 (([(⟨a2_0, a2_1⟩ : S26), (⟨a3_0, a3_1⟩ : S26)] : List (S26)))).bind fun t920 => (if t920 = 0 then ((special_Box.f k a0 a2_0 a2_1).bind fun bt922 => (if bt922.2.2 = 0 then ((special_Box.f k a0 bt922.1 bt922.2.1).bind fun bt926 => (if bt926.2.2 = 0 then (if (!(bt926.1 == bt922.1) || (!(bt926.2.1 == bt922.2.1))) = true then (none) else (cutplanelaw11_SpecialKinds.j0 k a0 a1 a2_0 a2_1 a3_0 a3_1)) else (none))) else (cutplanelaw11_SpecialKinds.j0 k a0 a1 a2_0 a2_1 a3_0 a3_1))) else ((cutplanelaw11_known.f k).bind fun t921 => (some t921)))
set_option maxHeartbeats 2000000 in
set_option maxRecDepth 100000 in
theorem cutplanelaw11_SpecialKinds.calls (k : Nat) (a0 : Int) (a1 : Int) (a2_0 : Int) (a2_1 : Int) (a3_0 : Int) (a3_1 : Int) (r : Bool) (w : World) (h : cutplanelaw11_SpecialKinds.f k a0 a1 a2_0 a2_1 a3_0 a3_1 = some r) :
  Calls Try.prog 5 #[.int .u8 a0, .int .u8 a1, .agg #[.int .u64 a2_0, .int .u64 a2_1], .agg #[.int .u64 a3_0, .int .u64 a3_1]] w fun e w' => e = .returned (.bool r) ∧ Below w.heap.size w w' := by
 have hu26 := Try.underlying26
 have hu29 := Try.underlying29
 have HB := A0_ (Below.refl w.heap.size w)
 have H : ((cutplanelaw11_opens.f k a0 a1 (([(⟨a2_0, a2_1⟩ : S26), (⟨a3_0, a3_1⟩ : S26)] : List (S26)))).bind fun t920 => (if t920 = 0 then ((special_Box.f k a0 a2_0 a2_1).bind fun bt922 => (if bt922.2.2 = 0 then ((special_Box.f k a0 bt922.1 bt922.2.1).bind fun bt926 => (if bt926.2.2 = 0 then (if (!(bt926.1 == bt922.1) || (!(bt926.2.1 == bt922.2.1))) = true then (none) else (cutplanelaw11_SpecialKinds.j0 k a0 a1 a2_0 a2_1 a3_0 a3_1)) else (none))) else (cutplanelaw11_SpecialKinds.j0 k a0 a1 a2_0 a2_1 a3_0 a3_1))) else ((cutplanelaw11_known.f k).bind fun t921 => (some t921)))) = some r := h
 clear h
 obtain ⟨y917, hy917⟩ : ∃ y_ : List (S26), y_ = (([(⟨a2_0, a2_1⟩ : S26), (⟨a3_0, a3_1⟩ : S26)] : List (S26))) := ⟨_, rfl⟩
 replace H : ((cutplanelaw11_opens.f k a0 a1 y917).bind fun t920 => (if t920 = 0 then ((special_Box.f k a0 a2_0 a2_1).bind fun bt922 => (if bt922.2.2 = 0 then ((special_Box.f k a0 bt922.1 bt922.2.1).bind fun bt926 => (if bt926.2.2 = 0 then (if (!(bt926.1 == bt922.1) || (!(bt926.2.1 == bt922.2.1))) = true then (none) else (cutplanelaw11_SpecialKinds.j0 k a0 a1 a2_0 a2_1 a3_0 a3_1)) else (none))) else (cutplanelaw11_SpecialKinds.j0 k a0 a1 a2_0 a2_1 a3_0 a3_1))) else ((cutplanelaw11_known.f k).bind fun t921 => (some t921)))) = some r := by first | (rw [hy917]; with_reducible exact H) | (have H2_ := (Option.bind_some _ _).symm.trans H; rw [hy917]; with_reducible exact H2_) | (have H2_ := (Option.bind_some _ _).symm.trans H; with_reducible exact H2_) | with_reducible exact H | (rw [hy917]; exact H) | exact H
 have Ny917 := A0_ hy917
 clear hy917
 replace H := Option.bind_eq_some_iff.mp H
 obtain ⟨t920, A50, H⟩ := H
 replace H : (if t920 = 0 then ((special_Box.f k a0 a2_0 a2_1).bind fun bt922 => (if bt922.2.2 = 0 then ((special_Box.f k a0 bt922.1 bt922.2.1).bind fun bt926 => (if bt926.2.2 = 0 then (if (!(bt926.1 == bt922.1) || (!(bt926.2.1 == bt922.2.1))) = true then (none) else (cutplanelaw11_SpecialKinds.j0 k a0 a1 a2_0 a2_1 a3_0 a3_1)) else (none))) else (cutplanelaw11_SpecialKinds.j0 k a0 a1 a2_0 a2_1 a3_0 a3_1))) else ((cutplanelaw11_known.f k).bind fun t921 => (some t921))) = some r := H
 have A5 := A0_ A50
 clear A50
 by_cases c6 : t920 = 0
 ·rw [if_pos c6] at H
  have c6b0 : (t920 == 0) = true := beq_iff_eq.mpr c6
  have c6b1 : (t920 != 0) = false := bne_eq_false_iff_eq.mpr c6
  clear c6
  replace H := Option.bind_eq_some_iff.mp H
  obtain ⟨⟨t922, t923, t924⟩, A70, H⟩ := H
  replace H : (if t924 = 0 then ((special_Box.f k a0 t922 t923).bind fun bt926 => (if bt926.2.2 = 0 then (if (!(bt926.1 == t922) || (!(bt926.2.1 == t923))) = true then (none) else (cutplanelaw11_SpecialKinds.j0 k a0 a1 a2_0 a2_1 a3_0 a3_1)) else (none))) else (cutplanelaw11_SpecialKinds.j0 k a0 a1 a2_0 a2_1 a3_0 a3_1)) = some r := H
  have A7 := A0_ A70
  clear A70
  have HC8 := A0_ H
  clear H
  go_enter Try.func5, Try.ntmps5
  go_upto_if 39 with (first | ((with_reducible refine gate_dst (N := 6) rfl ?_); refine box_event ?hg (N := 6) ?hd (cs := #[.int .u64 a2_0, .int .u64 a2_1]) (t := 26) ?hr ?_; (case hd => rfl); (case hg => rfl); (case hr => first | (go_simp; done) | (go_simp; rfl)); intro gb915 hg w9 hbox hb; have n0_ := A0_ (below_step (qm_ HB.out) hb); have n1_ := A0_ (hbox); have n2_ := A0_ ((by rw [hg]; exact (below_size (qm_ HB.out)) : w.heap.size ≤ gb915)); have n3_ := A0_ ((by rw [hg]; exact (below_size (qm_ HB.out)) : w.heap.size ≤ gb915)); clear HB; have HB := n0_; have BK915 := n1_; have GW915 := n2_; have GE915 := n3_; clear n0_ n1_ n2_ n3_; clear hb hbox hg) | ((with_reducible refine gate_dst (N := 7) rfl ?_); refine box_event ?hg (N := 7) ?hd (cs := #[.int .u64 a3_0, .int .u64 a3_1]) (t := 26) ?hr ?_; (case hd => rfl); (case hg => rfl); (case hr => first | (go_simp; done) | (go_simp; rfl)); intro gb916 hg w10 hbox hb; have n0_ := A0_ (blk_below (bm_ BK915.out) hb); have n1_ := A0_ (below_step (by repeat (first | (with_reducible first | exact qm_ HB.out | apply qA_ | apply qN_ | apply qD_ | refine below_set ?_ GE915.out) | exact HB.out)) hb); have n2_ := A0_ (hbox); have n3_ := A0_ ((by rw [hg]; exact (below_size (by repeat (first | (with_reducible first | exact qm_ HB.out | apply qA_ | apply qN_ | apply qD_ | refine below_set ?_ GE915.out) | exact HB.out))) : w.heap.size ≤ gb916)); have n4_ := A0_ ((by rw [hg]; exact (below_size (by repeat (first | (with_reducible first | exact qm_ HB.out | apply qA_ | apply qN_ | apply qD_ | refine below_set ?_ GE915.out) | exact HB.out))) : w.heap.size ≤ gb916)); have n5_ := A0_ ((by rw [hg]; exact Nat.ne_of_lt (blk_lt (bm_ BK915.out)) : gb915 ≠ gb916)); have n6_ := A0_ ((by rw [hg]; exact Nat.ne_of_gt (blk_lt (bm_ BK915.out)) : gb916 ≠ gb915)); clear BK915; clear HB; have BK915 := n0_; have HB := n1_; have BK916 := n2_; have GW916 := n3_; have GE916 := n4_; have NB915_916 := n5_; have NB916_915 := n6_; clear n0_ n1_ n2_ n3_ n4_ n5_ n6_; clear hb hbox hg; have hnb11 := NB915_916.out; have hnc11 := NB916_915.out; have hcz12 := bc2_ BK915.out; have hfz12 := bf2_ BK915.out; have hcz13 := bc2_ BK916.out; have hfz13 := bf2_ BK916.out) | ((with_reducible refine gate_dst (N := 28) rfl ?_); refine Kd.R_lit k26 _ 26 ?hg (N := 28) ?hd (xs := ([(⟨a2_0, a2_1⟩ : S26), (⟨a3_0, a3_1⟩ : S26)] : List (S26))) (inner := [.int .u64 a2_0, .int .u64 a2_1, .int .u64 a3_0, .int .u64 a3_1]) (ok := fun _ => True) (okp := fun _ => True) ?hr ?hp (fun _ hk => hk) trivial (Below.refl _ _) (Nat.le_refl _) (by simp) ?_; (case hd => rfl); (case hg => rfl); (case hr => first | (go_simp; done) | (go_simp; rfl)); (case hp => exact (Reps.c2 (show Kd.M k26 _ _ _ (⟨a2_0, a2_1⟩ : S26) [.int .u64 a2_0, .int .u64 a2_1] from (k26_mkM _ _ _ (⟨a2_0, a2_1⟩ : S26) )) (Reps.c2 (show Kd.M k26 _ _ _ (⟨a3_0, a3_1⟩ : S26) [.int .u64 a3_0, .int .u64 a3_1] from (k26_mkM _ _ _ (⟨a3_0, a3_1⟩ : S26) )) (Reps.none _ _)))); intro v918 w14 ho15 hb hg_ hnew_; clear hg_ hnew_; (first | rw [← Ny917.out] at ho15 | (simp only [Int.reduceToNat] at ho15; rw [← Ny917.out] at ho15)); have n0_ := A0_ (Kd.R_lower (Kd.R_newB (Kd.R_newB ho15 (bm_ BK915.out)) (bm_ BK916.out)) (below_size (by repeat (first | (with_reducible first | exact qm_ HB.out | apply qA_ | apply qN_ | apply qD_ | refine below_set ?_ GE915.out | refine below_set ?_ GE916.out) | exact HB.out)))); have n1_ := A0_ (blk_below (bm_ BK915.out) hb); have n2_ := A0_ (blk_below (bm_ BK916.out) hb); have n3_ := A0_ (below_step (by repeat (first | (with_reducible first | exact qm_ HB.out | apply qA_ | apply qN_ | apply qD_ | refine below_set ?_ GE915.out | refine below_set ?_ GE916.out) | exact HB.out)) hb); clear BK915; clear BK916; clear HB; have HO919 := n0_; have BK915 := n1_; have BK916 := n2_; have HB := n3_; clear n0_ n1_ n2_ n3_; clear hb ho15; obtain ⟨Ao16, co16, eo16⟩ := Kd.R_slice HO919.out; subst eo16) | ((with_reducible refine gate_callee (f := 7) rfl ?_); refine goesL_ (some 29) rfl rfl Try.func7 (by kernel_rfl) rfl #[.int .u8 a0, .int .u8 a1, .slice Ao16 y917.length co16] rfl (by (try simp only [List.map_toArray, List.map_cons, List.map_nil]); first | done | rfl | (simp only [List.length_drop, List.length_take]; rfl)) ?_; (with_reducible refine (cutplanelaw11_opens.calls k a0 a1 _ _ y917 t920 _ ?side1 ?side2 A5.out).mono ?_); (case side1 => repeat (first | exact (Kd.R_reads' HO919.out).2.2 | (with_reducible refine Kd.C_alloc ?_ _) | (with_reducible refine Kd.C_drewN ?_ _) | (with_reducible refine Kd.C_drew ?_))); (case side2 => exact (Kd.R_reads' HO919.out).2.1); rintro e w' ⟨rfl, ⟨nd, rfl⟩⟩; refine ⟨_, rfl, ?_⟩; (try (rw [drewN_self w14]; generalize hq_ : World.drewN w14 _ = w14; have n0_ : Aside0 (Kd.R k26 26 w14 w.heap.size (fun k_ => k_ ≠ gb915 ∧ k_ ≠ gb916) (.slice Ao16 y917.length co16) y917) := ⟨by rw [← hq_]; exact (by (with_reducible repeat (first | apply Kd.R_alloc | apply Kd.R_drewN | apply Kd.R_drew)); exact Kd.R_mono HO919.out (fun _ hk => by first | exact ⟨hk.1.2, hk.2⟩ | (refine ⟨?_, ?_⟩ <;> first | exact hk.1 | exact hk.2 | exact hk.1.1 | exact hk.1.2 | exact hk.2.1 | exact hk.2.2 | exact hk.1.1.1 | exact hk.1.1.2 | exact hk.1.2.1 | exact hk.1.2.2 | exact hk.2.1.1 | exact hk.2.1.2 | exact hk.2.2.1 | exact hk.2.2.2 | exact hk.1.1.1.1 | exact hk.1.1.1.2 | exact hk.1.1.2.1 | exact hk.1.1.2.2 | exact hk.1.2.1.1 | exact hk.1.2.1.2 | exact hk.1.2.2.1 | exact hk.1.2.2.2 | exact hk.2.1.1.1 | exact hk.2.1.1.2 | exact hk.2.1.2.1 | exact hk.2.1.2.2 | exact hk.2.2.1.1 | exact hk.2.2.1.2 | exact hk.2.2.2.1 | exact hk.2.2.2.2 | exact hk.1.1.1.1.1 | exact hk.1.1.1.1.2 | exact hk.1.1.1.1.1.1 | exact hk.1.1.1.1.1.2 | exact hk.1.1.1.1.1.1.1 | exact hk.1.1.1.1.1.1.2 | exact hk.1.1.1.1.1.1.1.1 | exact hk.1.1.1.1.1.1.1.2 | exact hk.1.1.1.1.1.1.1.1.1 | exact hk.1.1.1.1.1.1.1.1.2 | exact hk.1.1.1.1.1.1.1.1.1.1 | exact hk.1.1.1.1.1.1.1.1.1.2 | exact hk.1.1.1.1.1.1.1.1.1.1.1 | exact hk.1.1.1.1.1.1.1.1.1.1.2 | exact hk.1.1.1.1.1.1.1.1.1.1.1.1 | exact hk.1.1.1.1.1.1.1.1.1.1.1.2)))⟩; have n1_ : Aside0 (w14.heap[gb915]? = some (.cells #[.int .u64 a2_0, .int .u64 a2_1] 26 (0, 0))) := ⟨by rw [← hq_]; exact (bm_ BK915.out)⟩; have n2_ : Aside0 (w14.heap[gb916]? = some (.cells #[.int .u64 a3_0, .int .u64 a3_1] 26 (0, 0))) := ⟨by rw [← hq_]; exact (bm_ BK916.out)⟩; have n3_ : Aside0 (Below w.heap.size w w14) := ⟨by rw [← hq_]; exact (by repeat (first | (with_reducible first | exact qm_ HB.out | apply qA_ | apply qN_ | apply qD_ | refine below_set ?_ GE915.out | refine below_set ?_ GE916.out) | exact HB.out))⟩; clear HO919 BK915 BK916 HB hq_; have HO919 := n0_; have BK915 := n1_; have BK916 := n2_; have HB := n3_; clear n0_ n1_ n2_ n3_)); have hcz17 := bc2_ BK915.out; have hfz17 := bf2_ BK915.out) | ((with_reducible refine gate_callee (f := 10) rfl ?_); refine goesL_ (some 35) rfl rfl Try.func10 (by kernel_rfl) rfl #[.int .u8 a0, .agg #[.int .u64 a2_0, .int .u64 a2_1]] rfl (by (try simp only [List.map_toArray, List.map_cons, List.map_nil]); first | done | rfl | (simp only [List.length_drop, List.length_take]; rfl)) ?_; (with_reducible refine (special_Box.calls k a0 a2_0 a2_1 t922 t923 t924 _ A7.out).mono ?_); rintro e w18 ⟨rfl, hb⟩; refine ⟨_, rfl, ?_⟩; have n0_ := A0_ (Kd.R_below (by exact rm_ HO919.out) hb); have n1_ := A0_ (blk_below (bm_ BK915.out) hb); have n2_ := A0_ (blk_below (bm_ BK916.out) hb); have n3_ := A0_ (below_step (by repeat (first | (with_reducible first | exact qm_ HB.out | apply qA_ | apply qN_ | apply qD_ | refine below_set ?_ GE915.out | refine below_set ?_ GE916.out) | exact HB.out)) hb); clear HO919; clear BK915; clear BK916; clear HB; have HO919 := n0_; have BK915 := n1_; have BK916 := n2_; have HB := n3_; clear n0_ n1_ n2_ n3_; (try clear hb); (try clear hb2); (try clear hk); (try clear hi)) | ((with_reducible refine gate_dst (N := 9) rfl ?_); refine box_event ?hg (N := 9) ?hd (cs := #[.int .u64 0, .int .u64 0]) (t := 26) ?hr ?_; (case hd => rfl); (case hg => rfl); (case hr => first | (go_simp; done) | (go_simp; rfl)); intro gb925 hg w19 hbox hb; have n0_ := A0_ (Kd.R_below (Kd.R_elderB (by exact rm_ HO919.out) gb925 (Nat.le_of_eq hg.symm)) hb); have n1_ := A0_ (blk_below (bm_ BK915.out) hb); have n2_ := A0_ (blk_below (bm_ BK916.out) hb); have n3_ := A0_ (below_step (by repeat (first | (with_reducible first | exact qm_ HB.out | apply qA_ | apply qN_ | apply qD_ | refine below_set ?_ GE915.out | refine below_set ?_ GE916.out) | exact HB.out)) hb); have n4_ := A0_ (hbox); have n5_ := A0_ ((by rw [hg]; exact (below_size (by repeat (first | (with_reducible first | exact qm_ HB.out | apply qA_ | apply qN_ | apply qD_ | refine below_set ?_ GE915.out | refine below_set ?_ GE916.out) | exact HB.out))) : w.heap.size ≤ gb925)); have n6_ := A0_ ((by rw [hg]; exact (below_size (by repeat (first | (with_reducible first | exact qm_ HB.out | apply qA_ | apply qN_ | apply qD_ | refine below_set ?_ GE915.out | refine below_set ?_ GE916.out) | exact HB.out))) : w.heap.size ≤ gb925)); have n7_ := A0_ ((by rw [hg]; exact Nat.ne_of_lt (blk_lt (bm_ BK915.out)) : gb915 ≠ gb925)); have n8_ := A0_ ((by rw [hg]; exact Nat.ne_of_gt (blk_lt (bm_ BK915.out)) : gb925 ≠ gb915)); have n9_ := A0_ ((by rw [hg]; exact Nat.ne_of_lt (blk_lt (bm_ BK916.out)) : gb916 ≠ gb925)); have n10_ := A0_ ((by rw [hg]; exact Nat.ne_of_gt (blk_lt (bm_ BK916.out)) : gb925 ≠ gb916)); clear HO919; clear BK915; clear BK916; clear HB; have HO919 := n0_; have BK915 := n1_; have BK916 := n2_; have HB := n3_; have BK925 := n4_; have GW925 := n5_; have GE925 := n6_; have NB915_925 := n7_; have NB925_915 := n8_; have NB916_925 := n9_; have NB925_916 := n10_; clear n0_ n1_ n2_ n3_ n4_ n5_ n6_ n7_ n8_ n9_ n10_; clear hb hbox hg; have hnb20 := NB925_915.out; have hnc20 := NB915_925.out; have hnb21 := NB925_916.out; have hnc21 := NB916_925.out; have hcz22 := bc2_ BK925.out; have hfz22 := bf2_ BK925.out))
  (try simp only [Act.put, List.setIfInBounds_toArray, List.set_cons_zero, List.set_cons_succ])
  go_cut [] (fun wc => ∃ (kq : Nat), Aside0 (cutplanelaw11_SpecialKinds.j0 kq a0 a1 a2_0 a2_1 a3_0 a3_1 = some r) ∧ Aside0 (kq ≤ k) ∧ Aside0 (wc.heap[gb915]? = some (.cells #[.int .u64 a2_0, .int .u64 a2_1] 26 (0, 0))) ∧ Aside0 (wc.heap[gb916]? = some (.cells #[.int .u64 a3_0, .int .u64 a3_1] 26 (0, 0))) ∧ Aside0 (wc.heap[gb925]? = some (.cells #[.int .u64 t922, .int .u64 t923] 26 (0, 0))) ∧ Aside0 (Below w.heap.size w wc))
  case first =>
   have H := HC8.out
   clear HC8
   by_cases c23 : t924 = 0
   ·rw [if_pos c23] at H
    have c23b0 : (t924 == 0) = true := beq_iff_eq.mpr c23
    have c23b1 : (t924 != 0) = false := bne_eq_false_iff_eq.mpr c23
    clear c23
    (first | rw [c23b0] | (simp only [i64_w, i32_w]; rw [c23b0]) | skip)
    replace H := Option.bind_eq_some_iff.mp H
    obtain ⟨⟨t926, t927, t928⟩, A240, H⟩ := H
    replace H : (if t928 = 0 then (if (!(t926 == t922) || (!(t927 == t923))) = true then (none) else (cutplanelaw11_SpecialKinds.j0 k a0 a1 a2_0 a2_1 a3_0 a3_1)) else (none)) = some r := H
    have A24 := A0_ A240
    clear A240
    by_cases c25 : t928 = 0
    ·rw [if_pos c25] at H
     have c25b0 : (t928 == 0) = true := beq_iff_eq.mpr c25
     have c25b1 : (t928 != 0) = false := bne_eq_false_iff_eq.mpr c25
     clear c25
     by_cases c26 : (!(t926 == t922) || (!(t927 == t923))) = true
     ·rw [if_pos c26] at H
      exact absurd H (by simp)
     ·rw [if_neg c26] at H
      have c26b0 : (!(t926 == t922) || (!(t927 == t923))) = false := by simpa using c26
      clear c26
      have H' := A0_ H
      clear H
      have hnb27 := NB925_915.out
      have hnc27 := NB915_925.out
      have hnb28 := NB925_916.out
      have hnc28 := NB916_925.out
      have hcz29 := bc2_ BK925.out
      have hfz29 := bf2_ BK925.out
      go_wp2_with (first | ((with_reducible refine gate_callee (f := 10) rfl ?_); refine goesL_ (some 43) rfl rfl Try.func10 (by kernel_rfl) rfl #[.int .u8 a0, .agg #[.int .u64 t922, .int .u64 t923]] rfl (by (try simp only [List.map_toArray, List.map_cons, List.map_nil]); first | done | rfl | (simp only [List.length_drop, List.length_take]; rfl)) ?_; (with_reducible refine (special_Box.calls k a0 t922 t923 t926 t927 t928 _ A24.out).mono ?_); rintro e w30 ⟨rfl, hb⟩; refine ⟨_, rfl, ?_⟩; have n0_ := A0_ (Kd.R_below (by (with_reducible repeat (first | apply Kd.R_alloc | apply Kd.R_drewN | apply Kd.R_drew)); exact (Kd.R_mono (Kd.R_far (p := ⟨gb925, 1, none⟩) (Kd.R_far (p := ⟨gb925, 0, none⟩) (Kd.R_mono HO919.out (fun k_ hk => (⟨hk, hk.2⟩ : _ ∧ k_ ≠ gb925))) (fun _ hk => hk.2) (.int .u64 t922)) (fun _ hk => hk.2) (.int .u64 t923)) (fun _ h_ => h_.1))) hb); have n1_ := A0_ (blk_below (g := gb915) (o := .cells #[.int .u64 a2_0, .int .u64 a2_1] 26 (0, 0)) (by (with_reducible repeat first | apply bN_ | apply bD_ | apply bA_); refine blk_far ?_ NB915_925.out _; (with_reducible repeat first | apply bN_ | apply bD_ | apply bA_); refine blk_far ?_ NB915_925.out _; (with_reducible repeat first | apply bN_ | apply bD_ | apply bA_); exact BK915.out) hb); have n2_ := A0_ (blk_below (g := gb916) (o := .cells #[.int .u64 a3_0, .int .u64 a3_1] 26 (0, 0)) (by (with_reducible repeat first | apply bN_ | apply bD_ | apply bA_); refine blk_far ?_ NB916_925.out _; (with_reducible repeat first | apply bN_ | apply bD_ | apply bA_); refine blk_far ?_ NB916_925.out _; (with_reducible repeat first | apply bN_ | apply bD_ | apply bA_); exact BK916.out) hb); have n3_ := A0_ (blk_below (g := gb925) (o := .cells #[.int .u64 t922, .int .u64 t923] 26 (0, 0)) (by (with_reducible repeat first | apply bN_ | apply bD_ | apply bA_); refine blk_put (cs := #[.int .u64 t922, .int .u64 0]) ?_ 1 _ rfl; (with_reducible repeat first | apply bN_ | apply bD_ | apply bA_); refine blk_put (cs := #[.int .u64 0, .int .u64 0]) ?_ 0 _ rfl; (with_reducible repeat first | apply bN_ | apply bD_ | apply bA_); exact BK925.out) hb); have n4_ := A0_ (below_step (by repeat (first | (with_reducible first | exact qm_ HB.out | apply qA_ | apply qN_ | apply qD_ | refine below_set ?_ GE915.out | refine below_set ?_ GE916.out | refine below_set ?_ GE925.out) | exact HB.out)) hb); clear HO919; clear BK915; clear BK916; clear BK925; clear HB; have HO919 := n0_; have BK915 := n1_; have BK916 := n2_; have BK925 := n3_; have HB := n4_; clear n0_ n1_ n2_ n3_ n4_; (try clear hb); (try clear hb2); (try clear hk); (try clear hi)) | ((with_reducible refine gate_dst (N := 11) rfl ?_); refine box_event ?hg (N := 11) ?hd (cs := #[.int .u64 0, .int .u64 0]) (t := 26) ?hr ?_; (case hd => rfl); (case hg => rfl); (case hr => first | (go_simp; done) | (go_simp; rfl)); intro gb929 hg w31 hbox hb; have n0_ := A0_ (Kd.R_below (Kd.R_elderB (by exact rm_ HO919.out) gb929 (Nat.le_of_eq hg.symm)) hb); have n1_ := A0_ (blk_below (bm_ BK915.out) hb); have n2_ := A0_ (blk_below (bm_ BK916.out) hb); have n3_ := A0_ (blk_below (bm_ BK925.out) hb); have n4_ := A0_ (below_step (by repeat (first | (with_reducible first | exact qm_ HB.out | apply qA_ | apply qN_ | apply qD_ | refine below_set ?_ GE915.out | refine below_set ?_ GE916.out | refine below_set ?_ GE925.out) | exact HB.out)) hb); have n5_ := A0_ (hbox); have n6_ := A0_ ((by rw [hg]; exact (below_size (by repeat (first | (with_reducible first | exact qm_ HB.out | apply qA_ | apply qN_ | apply qD_ | refine below_set ?_ GE915.out | refine below_set ?_ GE916.out | refine below_set ?_ GE925.out) | exact HB.out))) : w.heap.size ≤ gb929)); have n7_ := A0_ ((by rw [hg]; exact (below_size (by repeat (first | (with_reducible first | exact qm_ HB.out | apply qA_ | apply qN_ | apply qD_ | refine below_set ?_ GE915.out | refine below_set ?_ GE916.out | refine below_set ?_ GE925.out) | exact HB.out))) : w.heap.size ≤ gb929)); have n8_ := A0_ ((by rw [hg]; exact Nat.ne_of_lt (blk_lt (bm_ BK915.out)) : gb915 ≠ gb929)); have n9_ := A0_ ((by rw [hg]; exact Nat.ne_of_gt (blk_lt (bm_ BK915.out)) : gb929 ≠ gb915)); have n10_ := A0_ ((by rw [hg]; exact Nat.ne_of_lt (blk_lt (bm_ BK916.out)) : gb916 ≠ gb929)); have n11_ := A0_ ((by rw [hg]; exact Nat.ne_of_gt (blk_lt (bm_ BK916.out)) : gb929 ≠ gb916)); have n12_ := A0_ ((by rw [hg]; exact Nat.ne_of_lt (blk_lt (bm_ BK925.out)) : gb925 ≠ gb929)); have n13_ := A0_ ((by rw [hg]; exact Nat.ne_of_gt (blk_lt (bm_ BK925.out)) : gb929 ≠ gb925)); clear HO919; clear BK915; clear BK916; clear BK925; clear HB; have HO919 := n0_; have BK915 := n1_; have BK916 := n2_; have BK925 := n3_; have HB := n4_; have BK929 := n5_; have GW929 := n6_; have GE929 := n7_; have NB915_929 := n8_; have NB929_915 := n9_; have NB916_929 := n10_; have NB929_916 := n11_; have NB925_929 := n12_; have NB929_925 := n13_; clear n0_ n1_ n2_ n3_ n4_ n5_ n6_ n7_ n8_ n9_ n10_ n11_ n12_ n13_; clear hb hbox hg; have hnb32 := NB929_915.out; have hnc32 := NB915_929.out; have hnb33 := NB929_916.out; have hnc33 := NB916_929.out; have hnb34 := NB929_925.out; have hnc34 := NB925_929.out; have hcz35 := bc2_ BK929.out; have hfz35 := bf2_ BK929.out; have hcz36 := bc2_ BK925.out; have hfz36 := bf2_ BK925.out))
      go_meet
      case rel => exact ⟨_, H', ⟨by first | omega | exact Nat.le_refl _⟩, ⟨by (with_reducible repeat first | apply bN_ | apply bD_ | apply bA_); refine blk_far ?_ NB915_929.out _; (with_reducible repeat first | apply bN_ | apply bD_ | apply bA_); refine blk_far ?_ NB915_929.out _; (with_reducible repeat first | apply bN_ | apply bD_ | apply bA_); exact BK915.out⟩, ⟨by (with_reducible repeat first | apply bN_ | apply bD_ | apply bA_); refine blk_far ?_ NB916_929.out _; (with_reducible repeat first | apply bN_ | apply bD_ | apply bA_); refine blk_far ?_ NB916_929.out _; (with_reducible repeat first | apply bN_ | apply bD_ | apply bA_); exact BK916.out⟩, ⟨by (with_reducible repeat first | apply bN_ | apply bD_ | apply bA_); refine blk_far ?_ NB925_929.out _; (with_reducible repeat first | apply bN_ | apply bD_ | apply bA_); refine blk_far ?_ NB925_929.out _; (with_reducible repeat first | apply bN_ | apply bD_ | apply bA_); exact BK925.out⟩, ⟨by repeat (first | (with_reducible first | exact qm_ HB.out | apply qA_ | apply qN_ | apply qD_ | refine below_set ?_ GE915.out | refine below_set ?_ GE916.out | refine below_set ?_ GE925.out | refine below_set ?_ GE929.out) | exact HB.out)⟩⟩
    ·rw [if_neg c25] at H
     exact absurd H (by simp)
   ·rw [if_neg c23] at H
    have c23b0 : (t924 == 0) = false := beq_eq_false_iff_ne.mpr c23
    have c23b1 : (t924 != 0) = true := bne_iff_ne.mpr c23
    (first | rw [c23b0] | (simp only [i64_w, i32_w]; rw [c23b0]) | skip)
    have H' := A0_ H
    clear H
    go_wp2
    go_meet
    case rel => exact ⟨_, H', ⟨by first | omega | exact Nat.le_refl _⟩, ⟨by (with_reducible repeat first | apply bN_ | apply bD_ | apply bA_); refine blk_far ?_ NB915_925.out _; (with_reducible repeat first | apply bN_ | apply bD_ | apply bA_); refine blk_far ?_ NB915_925.out _; (with_reducible repeat first | apply bN_ | apply bD_ | apply bA_); exact BK915.out⟩, ⟨by (with_reducible repeat first | apply bN_ | apply bD_ | apply bA_); refine blk_far ?_ NB916_925.out _; (with_reducible repeat first | apply bN_ | apply bD_ | apply bA_); refine blk_far ?_ NB916_925.out _; (with_reducible repeat first | apply bN_ | apply bD_ | apply bA_); exact BK916.out⟩, ⟨by (with_reducible repeat first | apply bN_ | apply bD_ | apply bA_); refine blk_put (cs := #[.int .u64 t922, .int .u64 0]) ?_ 1 _ rfl; (with_reducible repeat first | apply bN_ | apply bD_ | apply bA_); refine blk_put (cs := #[.int .u64 0, .int .u64 0]) ?_ 0 _ rfl; (with_reducible repeat first | apply bN_ | apply bD_ | apply bA_); exact BK925.out⟩, ⟨by repeat (first | (with_reducible first | exact qm_ HB.out | apply qA_ | apply qN_ | apply qD_ | refine below_set ?_ GE915.out | refine below_set ?_ GE916.out | refine below_set ?_ GE925.out) | exact HB.out)⟩⟩
  case rest =>
   clear HC8
   try clear c1
   try clear c2
   try clear p2
   try clear c3
   try clear c5
   try clear c6
   try clear c6b0
   try clear c6b1
   try clear c7
   try clear c10
   try clear c11
   try clear c20
   try clear c21
   try clear c23
   try clear c23b0
   try clear c23b1
   try clear c25
   try clear c25b0
   try clear c25b1
   try clear c26
   try clear c26b0
   try clear c27
   try clear c28
   try clear c32
   try clear c33
   try clear c34
   try clear hcz12
   try clear hcz13
   try clear hcz17
   try clear hcz22
   try clear hcz29
   try clear hcz35
   try clear hcz36
   try clear hfz12
   try clear hfz13
   try clear hfz17
   try clear hfz22
   try clear hfz29
   try clear hfz35
   try clear hfz36
   obtain ⟨kq, HA, HJ7, BK915, BK916, BK925, HB⟩ := hcut
   cases kq with
   | zero => exact absurd HA.out (by simp [cutplanelaw11_SpecialKinds.j0])
   | succ kj7 =>
    have H := HA.out
    clear HA
    simp only [cutplanelaw11_SpecialKinds.j0] at H
    replace H := Option.bind_eq_some_iff.mp H
    obtain ⟨⟨t930, t931, t932, t933, t934, t935⟩, A370, H⟩ := H
    replace H : ((special_Mul.f kj7 a0 a1 a3_0 a3_1 a2_0 a2_1).bind fun bt937 => ((special_Div.f kj7 a0 a1 a2_0 a2_1 a3_0 a3_1).bind fun bt944 => (if t935 = 0 then (if bt937.2.2.2.2.2 = 0 then (if bt944.2.2.2.2.2 = 0 then (if ((!(t930 == bt937.1) || (!(t931 == bt937.2.1))) || (!(t932 == bt937.2.2.1) || (!(t933 == bt937.2.2.2.1)))) = true then (none) else (if t934 = true then (if bt937.2.2.2.2.1 = true then (cutplanelaw11_SpecialKinds.j1 kj7 a0 t934 bt944.2.2.2.2.1 false a2_0 a2_1 a3_0 a3_1 t930 t931 t932 t933 bt944.1 bt944.2.1 bt944.2.2.1 bt944.2.2.2.1) else (cutplanelaw11_SpecialKinds.j1 kj7 a0 t934 bt944.2.2.2.2.1 true a2_0 a2_1 a3_0 a3_1 t930 t931 t932 t933 bt944.1 bt944.2.1 bt944.2.2.1 bt944.2.2.2.1)) else (if bt937.2.2.2.2.1 = true then (cutplanelaw11_SpecialKinds.j1 kj7 a0 t934 bt944.2.2.2.2.1 true a2_0 a2_1 a3_0 a3_1 t930 t931 t932 t933 bt944.1 bt944.2.1 bt944.2.2.1 bt944.2.2.2.1) else (cutplanelaw11_SpecialKinds.j1 kj7 a0 t934 bt944.2.2.2.2.1 false a2_0 a2_1 a3_0 a3_1 t930 t931 t932 t933 bt944.1 bt944.2.1 bt944.2.2.1 bt944.2.2.2.1)))) else (none)) else (none)) else (none)))) = some r := H
    have A37 := A0_ A370
    clear A370
    replace H := Option.bind_eq_some_iff.mp H
    obtain ⟨⟨t937, t938, t939, t940, t941, t942⟩, A380, H⟩ := H
    replace H : ((special_Div.f kj7 a0 a1 a2_0 a2_1 a3_0 a3_1).bind fun bt944 => (if t935 = 0 then (if t942 = 0 then (if bt944.2.2.2.2.2 = 0 then (if ((!(t930 == t937) || (!(t931 == t938))) || (!(t932 == t939) || (!(t933 == t940)))) = true then (none) else (if t934 = true then (if t941 = true then (cutplanelaw11_SpecialKinds.j1 kj7 a0 t934 bt944.2.2.2.2.1 false a2_0 a2_1 a3_0 a3_1 t930 t931 t932 t933 bt944.1 bt944.2.1 bt944.2.2.1 bt944.2.2.2.1) else (cutplanelaw11_SpecialKinds.j1 kj7 a0 t934 bt944.2.2.2.2.1 true a2_0 a2_1 a3_0 a3_1 t930 t931 t932 t933 bt944.1 bt944.2.1 bt944.2.2.1 bt944.2.2.2.1)) else (if t941 = true then (cutplanelaw11_SpecialKinds.j1 kj7 a0 t934 bt944.2.2.2.2.1 true a2_0 a2_1 a3_0 a3_1 t930 t931 t932 t933 bt944.1 bt944.2.1 bt944.2.2.1 bt944.2.2.2.1) else (cutplanelaw11_SpecialKinds.j1 kj7 a0 t934 bt944.2.2.2.2.1 false a2_0 a2_1 a3_0 a3_1 t930 t931 t932 t933 bt944.1 bt944.2.1 bt944.2.2.1 bt944.2.2.2.1)))) else (none)) else (none)) else (none))) = some r := H
    have A38 := A0_ A380
    clear A380
    replace H := Option.bind_eq_some_iff.mp H
    obtain ⟨⟨t944, t945, t946, t947, t948, t949⟩, A390, H⟩ := H
    replace H : (if t935 = 0 then (if t942 = 0 then (if t949 = 0 then (if ((!(t930 == t937) || (!(t931 == t938))) || (!(t932 == t939) || (!(t933 == t940)))) = true then (none) else (if t934 = true then (if t941 = true then (cutplanelaw11_SpecialKinds.j1 kj7 a0 t934 t948 false a2_0 a2_1 a3_0 a3_1 t930 t931 t932 t933 t944 t945 t946 t947) else (cutplanelaw11_SpecialKinds.j1 kj7 a0 t934 t948 true a2_0 a2_1 a3_0 a3_1 t930 t931 t932 t933 t944 t945 t946 t947)) else (if t941 = true then (cutplanelaw11_SpecialKinds.j1 kj7 a0 t934 t948 true a2_0 a2_1 a3_0 a3_1 t930 t931 t932 t933 t944 t945 t946 t947) else (cutplanelaw11_SpecialKinds.j1 kj7 a0 t934 t948 false a2_0 a2_1 a3_0 a3_1 t930 t931 t932 t933 t944 t945 t946 t947)))) else (none)) else (none)) else (none)) = some r := H
    have A39 := A0_ A390
    clear A390
    have HC40 := A0_ H
    clear H
    have hnb41 := NB915_916.out
    have hnc41 := NB916_915.out
    have hnb42 := NB915_925.out
    have hnc42 := NB925_915.out
    have hcz43 := bc2_ BK915.out
    have hfz43 := bf2_ BK915.out
    have hnb44 := NB916_925.out
    have hnc44 := NB925_916.out
    have hcz45 := bc2_ BK916.out
    have hfz45 := bf2_ BK916.out
    go_upto_region 11 with (first | ((with_reducible refine gate_callee (f := 6) rfl ?_); refine goesL_ (some 58) rfl rfl Try.func6 (by kernel_rfl) rfl #[.int .u8 a0, .int .u8 a1, .agg #[.int .u64 a2_0, .int .u64 a2_1], .agg #[.int .u64 a3_0, .int .u64 a3_1]] rfl (by (try simp only [List.map_toArray, List.map_cons, List.map_nil]); first | done | rfl | (simp only [List.length_drop, List.length_take]; rfl)) ?_; (with_reducible refine (special_Mul.calls kj7 a0 a1 a2_0 a2_1 a3_0 a3_1 t930 t931 t932 t933 t934 t935 _ A37.out).mono ?_); rintro e w46 ⟨rfl, hb⟩; refine ⟨_, rfl, ?_⟩; have n0_ := A0_ (blk_below (bm_ BK915.out) hb); have n1_ := A0_ (blk_below (bm_ BK916.out) hb); have n2_ := A0_ (blk_below (bm_ BK925.out) hb); have n3_ := A0_ (below_step (by repeat (first | (with_reducible first | exact qm_ HB.out | apply qA_ | apply qN_ | apply qD_ | refine below_set ?_ GE915.out | refine below_set ?_ GE916.out | refine below_set ?_ GE925.out) | exact HB.out)) hb); clear BK915; clear BK916; clear BK925; clear HB; have BK915 := n0_; have BK916 := n1_; have BK925 := n2_; have HB := n3_; clear n0_ n1_ n2_ n3_; (try clear hb); (try clear hb2); (try clear hk); (try clear hi)) | ((with_reducible refine gate_dst (N := 13) rfl ?_); refine box_event ?hg (N := 13) ?hd (cs := #[.int .u64 0, .int .u64 0, .int .u8 0, .int .u8 0]) (t := 29) ?hr ?_; (case hd => rfl); (case hg => rfl); (case hr => first | (go_simp; done) | (go_simp; rfl)); intro gb936 hg w47 hbox hb; have n0_ := A0_ (blk_below (bm_ BK915.out) hb); have n1_ := A0_ (blk_below (bm_ BK916.out) hb); have n2_ := A0_ (blk_below (bm_ BK925.out) hb); have n3_ := A0_ (below_step (by repeat (first | (with_reducible first | exact qm_ HB.out | apply qA_ | apply qN_ | apply qD_ | refine below_set ?_ GE915.out | refine below_set ?_ GE916.out | refine below_set ?_ GE925.out) | exact HB.out)) hb); have n4_ := A0_ (hbox); have n5_ := A0_ ((by rw [hg]; exact (below_size (by repeat (first | (with_reducible first | exact qm_ HB.out | apply qA_ | apply qN_ | apply qD_ | refine below_set ?_ GE915.out | refine below_set ?_ GE916.out | refine below_set ?_ GE925.out) | exact HB.out))) : w.heap.size ≤ gb936)); have n6_ := A0_ ((by rw [hg]; exact (below_size (by repeat (first | (with_reducible first | exact qm_ HB.out | apply qA_ | apply qN_ | apply qD_ | refine below_set ?_ GE915.out | refine below_set ?_ GE916.out | refine below_set ?_ GE925.out) | exact HB.out))) : w.heap.size ≤ gb936)); have n7_ := A0_ ((by rw [hg]; exact Nat.ne_of_lt (blk_lt (bm_ BK915.out)) : gb915 ≠ gb936)); have n8_ := A0_ ((by rw [hg]; exact Nat.ne_of_gt (blk_lt (bm_ BK915.out)) : gb936 ≠ gb915)); have n9_ := A0_ ((by rw [hg]; exact Nat.ne_of_lt (blk_lt (bm_ BK916.out)) : gb916 ≠ gb936)); have n10_ := A0_ ((by rw [hg]; exact Nat.ne_of_gt (blk_lt (bm_ BK916.out)) : gb936 ≠ gb916)); have n11_ := A0_ ((by rw [hg]; exact Nat.ne_of_lt (blk_lt (bm_ BK925.out)) : gb925 ≠ gb936)); have n12_ := A0_ ((by rw [hg]; exact Nat.ne_of_gt (blk_lt (bm_ BK925.out)) : gb936 ≠ gb925)); clear BK915; clear BK916; clear BK925; clear HB; have BK915 := n0_; have BK916 := n1_; have BK925 := n2_; have HB := n3_; have BK936 := n4_; have GW936 := n5_; have GE936 := n6_; have NB915_936 := n7_; have NB936_915 := n8_; have NB916_936 := n9_; have NB936_916 := n10_; have NB925_936 := n11_; have NB936_925 := n12_; clear n0_ n1_ n2_ n3_ n4_ n5_ n6_ n7_ n8_ n9_ n10_ n11_ n12_; clear hb hbox hg; have hnb48 := NB936_915.out; have hnc48 := NB915_936.out; have hnb49 := NB936_916.out; have hnc49 := NB916_936.out; have hnb50 := NB936_925.out; have hnc50 := NB925_936.out; have hcz51 := bc4_ BK936.out; have hfz51 := bf4_ BK936.out; have hcz52 := bc2_ BK916.out; have hfz52 := bf2_ BK916.out; have hcz53 := bc2_ BK915.out; have hfz53 := bf2_ BK915.out) | ((with_reducible refine gate_callee (f := 6) rfl ?_); refine goesL_ (some 67) rfl rfl Try.func6 (by kernel_rfl) rfl #[.int .u8 a0, .int .u8 a1, .agg #[.int .u64 a3_0, .int .u64 a3_1], .agg #[.int .u64 a2_0, .int .u64 a2_1]] rfl (by (try simp only [List.map_toArray, List.map_cons, List.map_nil]); first | done | rfl | (simp only [List.length_drop, List.length_take]; rfl)) ?_; (with_reducible refine (special_Mul.calls kj7 a0 a1 a3_0 a3_1 a2_0 a2_1 t937 t938 t939 t940 t941 t942 _ A38.out).mono ?_); rintro e w54 ⟨rfl, hb⟩; refine ⟨_, rfl, ?_⟩; have n0_ := A0_ (blk_below (g := gb915) (o := .cells #[.int .u64 a2_0, .int .u64 a2_1] 26 (0, 0)) (by (with_reducible repeat first | apply bN_ | apply bD_ | apply bA_); refine blk_far ?_ NB915_936.out _; (with_reducible repeat first | apply bN_ | apply bD_ | apply bA_); refine blk_far ?_ NB915_936.out _; (with_reducible repeat first | apply bN_ | apply bD_ | apply bA_); refine blk_far ?_ NB915_936.out _; (with_reducible repeat first | apply bN_ | apply bD_ | apply bA_); refine blk_far ?_ NB915_936.out _; (with_reducible repeat first | apply bN_ | apply bD_ | apply bA_); exact BK915.out) hb); have n1_ := A0_ (blk_below (g := gb916) (o := .cells #[.int .u64 a3_0, .int .u64 a3_1] 26 (0, 0)) (by (with_reducible repeat first | apply bN_ | apply bD_ | apply bA_); refine blk_far ?_ NB916_936.out _; (with_reducible repeat first | apply bN_ | apply bD_ | apply bA_); refine blk_far ?_ NB916_936.out _; (with_reducible repeat first | apply bN_ | apply bD_ | apply bA_); refine blk_far ?_ NB916_936.out _; (with_reducible repeat first | apply bN_ | apply bD_ | apply bA_); refine blk_far ?_ NB916_936.out _; (with_reducible repeat first | apply bN_ | apply bD_ | apply bA_); exact BK916.out) hb); have n2_ := A0_ (blk_below (g := gb925) (o := .cells #[.int .u64 t922, .int .u64 t923] 26 (0, 0)) (by (with_reducible repeat first | apply bN_ | apply bD_ | apply bA_); refine blk_far ?_ NB925_936.out _; (with_reducible repeat first | apply bN_ | apply bD_ | apply bA_); refine blk_far ?_ NB925_936.out _; (with_reducible repeat first | apply bN_ | apply bD_ | apply bA_); refine blk_far ?_ NB925_936.out _; (with_reducible repeat first | apply bN_ | apply bD_ | apply bA_); refine blk_far ?_ NB925_936.out _; (with_reducible repeat first | apply bN_ | apply bD_ | apply bA_); exact BK925.out) hb); have n3_ := A0_ (blk_below (g := gb936) (o := .cells #[.int .u64 t930, .int .u64 t931, .int .u8 t932, .int .u8 t933] 29 (0, 0)) (by (with_reducible repeat first | apply bN_ | apply bD_ | apply bA_); refine blk_put (cs := #[.int .u64 t930, .int .u64 t931, .int .u8 t932, .int .u8 0]) ?_ 3 _ rfl; (with_reducible repeat first | apply bN_ | apply bD_ | apply bA_); refine blk_put (cs := #[.int .u64 t930, .int .u64 t931, .int .u8 0, .int .u8 0]) ?_ 2 _ rfl; (with_reducible repeat first | apply bN_ | apply bD_ | apply bA_); refine blk_put (cs := #[.int .u64 t930, .int .u64 0, .int .u8 0, .int .u8 0]) ?_ 1 _ rfl; (with_reducible repeat first | apply bN_ | apply bD_ | apply bA_); refine blk_put (cs := #[.int .u64 0, .int .u64 0, .int .u8 0, .int .u8 0]) ?_ 0 _ rfl; (with_reducible repeat first | apply bN_ | apply bD_ | apply bA_); exact BK936.out) hb); have n4_ := A0_ (below_step (by repeat (first | (with_reducible first | exact qm_ HB.out | apply qA_ | apply qN_ | apply qD_ | refine below_set ?_ GE915.out | refine below_set ?_ GE916.out | refine below_set ?_ GE925.out | refine below_set ?_ GE936.out) | exact HB.out)) hb); clear BK915; clear BK916; clear BK925; clear BK936; clear HB; have BK915 := n0_; have BK916 := n1_; have BK925 := n2_; have BK936 := n3_; have HB := n4_; clear n0_ n1_ n2_ n3_ n4_; (try clear hb); (try clear hb2); (try clear hk); (try clear hi)) | ((with_reducible refine gate_dst (N := 16) rfl ?_); refine box_event ?hg (N := 16) ?hd (cs := #[.int .u64 0, .int .u64 0, .int .u8 0, .int .u8 0]) (t := 29) ?hr ?_; (case hd => rfl); (case hg => rfl); (case hr => first | (go_simp; done) | (go_simp; rfl)); intro gb943 hg w55 hbox hb; have n0_ := A0_ (blk_below (bm_ BK915.out) hb); have n1_ := A0_ (blk_below (bm_ BK916.out) hb); have n2_ := A0_ (blk_below (bm_ BK925.out) hb); have n3_ := A0_ (blk_below (bm_ BK936.out) hb); have n4_ := A0_ (below_step (by repeat (first | (with_reducible first | exact qm_ HB.out | apply qA_ | apply qN_ | apply qD_ | refine below_set ?_ GE915.out | refine below_set ?_ GE916.out | refine below_set ?_ GE925.out | refine below_set ?_ GE936.out) | exact HB.out)) hb); have n5_ := A0_ (hbox); have n6_ := A0_ ((by rw [hg]; exact (below_size (by repeat (first | (with_reducible first | exact qm_ HB.out | apply qA_ | apply qN_ | apply qD_ | refine below_set ?_ GE915.out | refine below_set ?_ GE916.out | refine below_set ?_ GE925.out | refine below_set ?_ GE936.out) | exact HB.out))) : w.heap.size ≤ gb943)); have n7_ := A0_ ((by rw [hg]; exact (below_size (by repeat (first | (with_reducible first | exact qm_ HB.out | apply qA_ | apply qN_ | apply qD_ | refine below_set ?_ GE915.out | refine below_set ?_ GE916.out | refine below_set ?_ GE925.out | refine below_set ?_ GE936.out) | exact HB.out))) : w.heap.size ≤ gb943)); have n8_ := A0_ ((by rw [hg]; exact Nat.ne_of_lt (blk_lt (bm_ BK915.out)) : gb915 ≠ gb943)); have n9_ := A0_ ((by rw [hg]; exact Nat.ne_of_gt (blk_lt (bm_ BK915.out)) : gb943 ≠ gb915)); have n10_ := A0_ ((by rw [hg]; exact Nat.ne_of_lt (blk_lt (bm_ BK916.out)) : gb916 ≠ gb943)); have n11_ := A0_ ((by rw [hg]; exact Nat.ne_of_gt (blk_lt (bm_ BK916.out)) : gb943 ≠ gb916)); have n12_ := A0_ ((by rw [hg]; exact Nat.ne_of_lt (blk_lt (bm_ BK925.out)) : gb925 ≠ gb943)); have n13_ := A0_ ((by rw [hg]; exact Nat.ne_of_gt (blk_lt (bm_ BK925.out)) : gb943 ≠ gb925)); have n14_ := A0_ ((by rw [hg]; exact Nat.ne_of_lt (blk_lt (bm_ BK936.out)) : gb936 ≠ gb943)); have n15_ := A0_ ((by rw [hg]; exact Nat.ne_of_gt (blk_lt (bm_ BK936.out)) : gb943 ≠ gb936)); clear BK915; clear BK916; clear BK925; clear BK936; clear HB; have BK915 := n0_; have BK916 := n1_; have BK925 := n2_; have BK936 := n3_; have HB := n4_; have BK943 := n5_; have GW943 := n6_; have GE943 := n7_; have NB915_943 := n8_; have NB943_915 := n9_; have NB916_943 := n10_; have NB943_916 := n11_; have NB925_943 := n12_; have NB943_925 := n13_; have NB936_943 := n14_; have NB943_936 := n15_; clear n0_ n1_ n2_ n3_ n4_ n5_ n6_ n7_ n8_ n9_ n10_ n11_ n12_ n13_ n14_ n15_; clear hb hbox hg; have hnb56 := NB943_915.out; have hnc56 := NB915_943.out; have hnb57 := NB943_916.out; have hnc57 := NB916_943.out; have hnb58 := NB943_925.out; have hnc58 := NB925_943.out; have hnb59 := NB943_936.out; have hnc59 := NB936_943.out; have hcz60 := bc4_ BK943.out; have hfz60 := bf4_ BK943.out; have hcz61 := bc2_ BK915.out; have hfz61 := bf2_ BK915.out; have hcz62 := bc2_ BK916.out; have hfz62 := bf2_ BK916.out) | ((with_reducible refine gate_callee (f := 14) rfl ?_); refine goesL_ (some 76) rfl rfl Try.func14 (by kernel_rfl) rfl #[.int .u8 a0, .int .u8 a1, .agg #[.int .u64 a2_0, .int .u64 a2_1], .agg #[.int .u64 a3_0, .int .u64 a3_1]] rfl (by (try simp only [List.map_toArray, List.map_cons, List.map_nil]); first | done | rfl | (simp only [List.length_drop, List.length_take]; rfl)) ?_; (with_reducible refine (special_Div.calls kj7 a0 a1 a2_0 a2_1 a3_0 a3_1 t944 t945 t946 t947 t948 t949 _ A39.out).mono ?_); rintro e w63 ⟨rfl, hb⟩; refine ⟨_, rfl, ?_⟩; have n0_ := A0_ (blk_below (g := gb915) (o := .cells #[.int .u64 a2_0, .int .u64 a2_1] 26 (0, 0)) (by (with_reducible repeat first | apply bN_ | apply bD_ | apply bA_); refine blk_far ?_ NB915_943.out _; (with_reducible repeat first | apply bN_ | apply bD_ | apply bA_); refine blk_far ?_ NB915_943.out _; (with_reducible repeat first | apply bN_ | apply bD_ | apply bA_); refine blk_far ?_ NB915_943.out _; (with_reducible repeat first | apply bN_ | apply bD_ | apply bA_); refine blk_far ?_ NB915_943.out _; (with_reducible repeat first | apply bN_ | apply bD_ | apply bA_); exact BK915.out) hb); have n1_ := A0_ (blk_below (g := gb916) (o := .cells #[.int .u64 a3_0, .int .u64 a3_1] 26 (0, 0)) (by (with_reducible repeat first | apply bN_ | apply bD_ | apply bA_); refine blk_far ?_ NB916_943.out _; (with_reducible repeat first | apply bN_ | apply bD_ | apply bA_); refine blk_far ?_ NB916_943.out _; (with_reducible repeat first | apply bN_ | apply bD_ | apply bA_); refine blk_far ?_ NB916_943.out _; (with_reducible repeat first | apply bN_ | apply bD_ | apply bA_); refine blk_far ?_ NB916_943.out _; (with_reducible repeat first | apply bN_ | apply bD_ | apply bA_); exact BK916.out) hb); have n2_ := A0_ (blk_below (g := gb925) (o := .cells #[.int .u64 t922, .int .u64 t923] 26 (0, 0)) (by (with_reducible repeat first | apply bN_ | apply bD_ | apply bA_); refine blk_far ?_ NB925_943.out _; (with_reducible repeat first | apply bN_ | apply bD_ | apply bA_); refine blk_far ?_ NB925_943.out _; (with_reducible repeat first | apply bN_ | apply bD_ | apply bA_); refine blk_far ?_ NB925_943.out _; (with_reducible repeat first | apply bN_ | apply bD_ | apply bA_); refine blk_far ?_ NB925_943.out _; (with_reducible repeat first | apply bN_ | apply bD_ | apply bA_); exact BK925.out) hb); have n3_ := A0_ (blk_below (g := gb936) (o := .cells #[.int .u64 t930, .int .u64 t931, .int .u8 t932, .int .u8 t933] 29 (0, 0)) (by (with_reducible repeat first | apply bN_ | apply bD_ | apply bA_); refine blk_far ?_ NB936_943.out _; (with_reducible repeat first | apply bN_ | apply bD_ | apply bA_); refine blk_far ?_ NB936_943.out _; (with_reducible repeat first | apply bN_ | apply bD_ | apply bA_); refine blk_far ?_ NB936_943.out _; (with_reducible repeat first | apply bN_ | apply bD_ | apply bA_); refine blk_far ?_ NB936_943.out _; (with_reducible repeat first | apply bN_ | apply bD_ | apply bA_); exact BK936.out) hb); have n4_ := A0_ (blk_below (g := gb943) (o := .cells #[.int .u64 t937, .int .u64 t938, .int .u8 t939, .int .u8 t940] 29 (0, 0)) (by (with_reducible repeat first | apply bN_ | apply bD_ | apply bA_); refine blk_put (cs := #[.int .u64 t937, .int .u64 t938, .int .u8 t939, .int .u8 0]) ?_ 3 _ rfl; (with_reducible repeat first | apply bN_ | apply bD_ | apply bA_); refine blk_put (cs := #[.int .u64 t937, .int .u64 t938, .int .u8 0, .int .u8 0]) ?_ 2 _ rfl; (with_reducible repeat first | apply bN_ | apply bD_ | apply bA_); refine blk_put (cs := #[.int .u64 t937, .int .u64 0, .int .u8 0, .int .u8 0]) ?_ 1 _ rfl; (with_reducible repeat first | apply bN_ | apply bD_ | apply bA_); refine blk_put (cs := #[.int .u64 0, .int .u64 0, .int .u8 0, .int .u8 0]) ?_ 0 _ rfl; (with_reducible repeat first | apply bN_ | apply bD_ | apply bA_); exact BK943.out) hb); have n5_ := A0_ (below_step (by repeat (first | (with_reducible first | exact qm_ HB.out | apply qA_ | apply qN_ | apply qD_ | refine below_set ?_ GE915.out | refine below_set ?_ GE916.out | refine below_set ?_ GE925.out | refine below_set ?_ GE936.out | refine below_set ?_ GE943.out) | exact HB.out)) hb); clear BK915; clear BK916; clear BK925; clear BK936; clear BK943; clear HB; have BK915 := n0_; have BK916 := n1_; have BK925 := n2_; have BK936 := n3_; have BK943 := n4_; have HB := n5_; clear n0_ n1_ n2_ n3_ n4_ n5_; (try clear hb); (try clear hb2); (try clear hk); (try clear hi)) | ((with_reducible refine gate_dst (N := 19) rfl ?_); refine box_event ?hg (N := 19) ?hd (cs := #[.int .u64 0, .int .u64 0, .int .u8 0, .int .u8 0]) (t := 29) ?hr ?_; (case hd => rfl); (case hg => rfl); (case hr => first | (go_simp; done) | (go_simp; rfl)); intro gb950 hg w64 hbox hb; have n0_ := A0_ (blk_below (bm_ BK915.out) hb); have n1_ := A0_ (blk_below (bm_ BK916.out) hb); have n2_ := A0_ (blk_below (bm_ BK925.out) hb); have n3_ := A0_ (blk_below (bm_ BK936.out) hb); have n4_ := A0_ (blk_below (bm_ BK943.out) hb); have n5_ := A0_ (below_step (by repeat (first | (with_reducible first | exact qm_ HB.out | apply qA_ | apply qN_ | apply qD_ | refine below_set ?_ GE915.out | refine below_set ?_ GE916.out | refine below_set ?_ GE925.out | refine below_set ?_ GE936.out | refine below_set ?_ GE943.out) | exact HB.out)) hb); have n6_ := A0_ (hbox); have n7_ := A0_ ((by rw [hg]; exact (below_size (by repeat (first | (with_reducible first | exact qm_ HB.out | apply qA_ | apply qN_ | apply qD_ | refine below_set ?_ GE915.out | refine below_set ?_ GE916.out | refine below_set ?_ GE925.out | refine below_set ?_ GE936.out | refine below_set ?_ GE943.out) | exact HB.out))) : w.heap.size ≤ gb950)); have n8_ := A0_ ((by rw [hg]; exact (below_size (by repeat (first | (with_reducible first | exact qm_ HB.out | apply qA_ | apply qN_ | apply qD_ | refine below_set ?_ GE915.out | refine below_set ?_ GE916.out | refine below_set ?_ GE925.out | refine below_set ?_ GE936.out | refine below_set ?_ GE943.out) | exact HB.out))) : w.heap.size ≤ gb950)); have n9_ := A0_ ((by rw [hg]; exact Nat.ne_of_lt (blk_lt (bm_ BK915.out)) : gb915 ≠ gb950)); have n10_ := A0_ ((by rw [hg]; exact Nat.ne_of_gt (blk_lt (bm_ BK915.out)) : gb950 ≠ gb915)); have n11_ := A0_ ((by rw [hg]; exact Nat.ne_of_lt (blk_lt (bm_ BK916.out)) : gb916 ≠ gb950)); have n12_ := A0_ ((by rw [hg]; exact Nat.ne_of_gt (blk_lt (bm_ BK916.out)) : gb950 ≠ gb916)); have n13_ := A0_ ((by rw [hg]; exact Nat.ne_of_lt (blk_lt (bm_ BK925.out)) : gb925 ≠ gb950)); have n14_ := A0_ ((by rw [hg]; exact Nat.ne_of_gt (blk_lt (bm_ BK925.out)) : gb950 ≠ gb925)); have n15_ := A0_ ((by rw [hg]; exact Nat.ne_of_lt (blk_lt (bm_ BK936.out)) : gb936 ≠ gb950)); have n16_ := A0_ ((by rw [hg]; exact Nat.ne_of_gt (blk_lt (bm_ BK936.out)) : gb950 ≠ gb936)); have n17_ := A0_ ((by rw [hg]; exact Nat.ne_of_lt (blk_lt (bm_ BK943.out)) : gb943 ≠ gb950)); have n18_ := A0_ ((by rw [hg]; exact Nat.ne_of_gt (blk_lt (bm_ BK943.out)) : gb950 ≠ gb943)); clear BK915; clear BK916; clear BK925; clear BK936; clear BK943; clear HB; have BK915 := n0_; have BK916 := n1_; have BK925 := n2_; have BK936 := n3_; have BK943 := n4_; have HB := n5_; have BK950 := n6_; have GW950 := n7_; have GE950 := n8_; have NB915_950 := n9_; have NB950_915 := n10_; have NB916_950 := n11_; have NB950_916 := n12_; have NB925_950 := n13_; have NB950_925 := n14_; have NB936_950 := n15_; have NB950_936 := n16_; have NB943_950 := n17_; have NB950_943 := n18_; clear n0_ n1_ n2_ n3_ n4_ n5_ n6_ n7_ n8_ n9_ n10_ n11_ n12_ n13_ n14_ n15_ n16_ n17_ n18_; clear hb hbox hg; have hnb65 := NB950_915.out; have hnc65 := NB915_950.out; have hnb66 := NB950_916.out; have hnc66 := NB916_950.out; have hnb67 := NB950_925.out; have hnc67 := NB925_950.out; have hnb68 := NB950_936.out; have hnc68 := NB936_950.out; have hnb69 := NB950_943.out; have hnc69 := NB943_950.out; have hcz70 := bc4_ BK950.out; have hfz70 := bf4_ BK950.out))
    (try simp only [Act.put, List.setIfInBounds_toArray, List.set_cons_zero, List.set_cons_succ])
    go_cut [99] (fun v99 wc => ∃ (kq : Nat) (x99_39 : Bool), v99 = .bool x99_39 ∧ Aside0 (cutplanelaw11_SpecialKinds.j1 kq a0 t934 t948 x99_39 a2_0 a2_1 a3_0 a3_1 t930 t931 t932 t933 t944 t945 t946 t947 = some r) ∧ Aside0 (kq ≤ kj7) ∧ Aside0 (wc.heap[gb915]? = some (.cells #[.int .u64 a2_0, .int .u64 a2_1] 26 (0, 0))) ∧ Aside0 (wc.heap[gb916]? = some (.cells #[.int .u64 a3_0, .int .u64 a3_1] 26 (0, 0))) ∧ Aside0 (wc.heap[gb925]? = some (.cells #[.int .u64 t922, .int .u64 t923] 26 (0, 0))) ∧ Aside0 (wc.heap[gb936]? = some (.cells #[.int .u64 t930, .int .u64 t931, .int .u8 t932, .int .u8 t933] 29 (0, 0))) ∧ Aside0 (wc.heap[gb943]? = some (.cells #[.int .u64 t937, .int .u64 t938, .int .u8 t939, .int .u8 t940] 29 (0, 0))) ∧ Aside0 (wc.heap[gb950]? = some (.cells #[.int .u64 t944, .int .u64 t945, .int .u8 t946, .int .u8 t947] 29 (0, 0))) ∧ Aside0 (Below w.heap.size w wc))
    case first =>
     have H := HC40.out
     clear HC40
     by_cases c71 : t935 = 0
     ·rw [if_pos c71] at H
      have c71b0 : (t935 == 0) = true := beq_iff_eq.mpr c71
      have c71b1 : (t935 != 0) = false := bne_eq_false_iff_eq.mpr c71
      clear c71
      (first | rw [c71b0] | (simp only [i64_w, i32_w]; rw [c71b0]) | skip)
      by_cases c72 : t942 = 0
      ·rw [if_pos c72] at H
       have c72b0 : (t942 == 0) = true := beq_iff_eq.mpr c72
       have c72b1 : (t942 != 0) = false := bne_eq_false_iff_eq.mpr c72
       clear c72
       by_cases c73 : t949 = 0
       ·rw [if_pos c73] at H
        have c73b0 : (t949 == 0) = true := beq_iff_eq.mpr c73
        have c73b1 : (t949 != 0) = false := bne_eq_false_iff_eq.mpr c73
        clear c73
        by_cases c74 : ((!(t930 == t937) || (!(t931 == t938))) || (!(t932 == t939) || (!(t933 == t940)))) = true
        ·rw [if_pos c74] at H
         exact absurd H (by simp)
        ·rw [if_neg c74] at H
         have c74b0 : ((!(t930 == t937) || (!(t931 == t938))) || (!(t932 == t939) || (!(t933 == t940)))) = false := by simpa using c74
         clear c74
         by_cases c75 : t934 = true
         ·subst c75
          have H1 : (if t941 = true then (cutplanelaw11_SpecialKinds.j1 kj7 a0 true t948 false a2_0 a2_1 a3_0 a3_1 t930 t931 t932 t933 t944 t945 t946 t947) else (cutplanelaw11_SpecialKinds.j1 kj7 a0 true t948 true a2_0 a2_1 a3_0 a3_1 t930 t931 t932 t933 t944 t945 t946 t947)) = some r := by rw [if_pos rfl] at H; exact H
          clear H
          have H := H1
          clear H1
          by_cases c76 : t941 = true
          ·subst c76
           have H1 : (cutplanelaw11_SpecialKinds.j1 kj7 a0 true t948 false a2_0 a2_1 a3_0 a3_1 t930 t931 t932 t933 t944 t945 t946 t947) = some r := by rw [if_pos rfl] at H; exact H
           clear H
           have H := H1
           clear H1
           have H' := A0_ H
           clear H
           have hnb77 := NB936_915.out
           have hnc77 := NB915_936.out
           have hnb78 := NB936_916.out
           have hnc78 := NB916_936.out
           have hnb79 := NB936_925.out
           have hnc79 := NB925_936.out
           have hnb80 := NB936_943.out
           have hnc80 := NB943_936.out
           have hnb81 := NB936_950.out
           have hnc81 := NB950_936.out
           have hcz82 := bc4_ BK936.out
           have hfz82 := bf4_ BK936.out
           have hnb83 := NB943_915.out
           have hnc83 := NB915_943.out
           have hnb84 := NB943_916.out
           have hnc84 := NB916_943.out
           have hnb85 := NB943_925.out
           have hnc85 := NB925_943.out
           have hnb86 := NB943_950.out
           have hnc86 := NB950_943.out
           have hcz87 := bc4_ BK943.out
           have hfz87 := bf4_ BK943.out
           go_wp2
           go_meet
           case rel => exact ⟨_, (false), (by first | rfl | (simp; done) | (simp [*]; done)), H', ⟨by have := HJ7.out; first | omega | exact Nat.le_refl _⟩, ⟨by (with_reducible repeat first | apply bN_ | apply bD_ | apply bA_); refine blk_far ?_ NB915_950.out _; (with_reducible repeat first | apply bN_ | apply bD_ | apply bA_); refine blk_far ?_ NB915_950.out _; (with_reducible repeat first | apply bN_ | apply bD_ | apply bA_); refine blk_far ?_ NB915_950.out _; (with_reducible repeat first | apply bN_ | apply bD_ | apply bA_); refine blk_far ?_ NB915_950.out _; (with_reducible repeat first | apply bN_ | apply bD_ | apply bA_); exact BK915.out⟩, ⟨by (with_reducible repeat first | apply bN_ | apply bD_ | apply bA_); refine blk_far ?_ NB916_950.out _; (with_reducible repeat first | apply bN_ | apply bD_ | apply bA_); refine blk_far ?_ NB916_950.out _; (with_reducible repeat first | apply bN_ | apply bD_ | apply bA_); refine blk_far ?_ NB916_950.out _; (with_reducible repeat first | apply bN_ | apply bD_ | apply bA_); refine blk_far ?_ NB916_950.out _; (with_reducible repeat first | apply bN_ | apply bD_ | apply bA_); exact BK916.out⟩, ⟨by (with_reducible repeat first | apply bN_ | apply bD_ | apply bA_); refine blk_far ?_ NB925_950.out _; (with_reducible repeat first | apply bN_ | apply bD_ | apply bA_); refine blk_far ?_ NB925_950.out _; (with_reducible repeat first | apply bN_ | apply bD_ | apply bA_); refine blk_far ?_ NB925_950.out _; (with_reducible repeat first | apply bN_ | apply bD_ | apply bA_); refine blk_far ?_ NB925_950.out _; (with_reducible repeat first | apply bN_ | apply bD_ | apply bA_); exact BK925.out⟩, ⟨by (with_reducible repeat first | apply bN_ | apply bD_ | apply bA_); refine blk_far ?_ NB936_950.out _; (with_reducible repeat first | apply bN_ | apply bD_ | apply bA_); refine blk_far ?_ NB936_950.out _; (with_reducible repeat first | apply bN_ | apply bD_ | apply bA_); refine blk_far ?_ NB936_950.out _; (with_reducible repeat first | apply bN_ | apply bD_ | apply bA_); refine blk_far ?_ NB936_950.out _; (with_reducible repeat first | apply bN_ | apply bD_ | apply bA_); exact BK936.out⟩, ⟨by (with_reducible repeat first | apply bN_ | apply bD_ | apply bA_); refine blk_far ?_ NB943_950.out _; (with_reducible repeat first | apply bN_ | apply bD_ | apply bA_); refine blk_far ?_ NB943_950.out _; (with_reducible repeat first | apply bN_ | apply bD_ | apply bA_); refine blk_far ?_ NB943_950.out _; (with_reducible repeat first | apply bN_ | apply bD_ | apply bA_); refine blk_far ?_ NB943_950.out _; (with_reducible repeat first | apply bN_ | apply bD_ | apply bA_); exact BK943.out⟩, ⟨by (with_reducible repeat first | apply bN_ | apply bD_ | apply bA_); refine blk_put (cs := #[.int .u64 t944, .int .u64 t945, .int .u8 t946, .int .u8 0]) ?_ 3 _ rfl; (with_reducible repeat first | apply bN_ | apply bD_ | apply bA_); refine blk_put (cs := #[.int .u64 t944, .int .u64 t945, .int .u8 0, .int .u8 0]) ?_ 2 _ rfl; (with_reducible repeat first | apply bN_ | apply bD_ | apply bA_); refine blk_put (cs := #[.int .u64 t944, .int .u64 0, .int .u8 0, .int .u8 0]) ?_ 1 _ rfl; (with_reducible repeat first | apply bN_ | apply bD_ | apply bA_); refine blk_put (cs := #[.int .u64 0, .int .u64 0, .int .u8 0, .int .u8 0]) ?_ 0 _ rfl; (with_reducible repeat first | apply bN_ | apply bD_ | apply bA_); exact BK950.out⟩, ⟨by repeat (first | (with_reducible first | exact qm_ HB.out | apply qA_ | apply qN_ | apply qD_ | refine below_set ?_ GE915.out | refine below_set ?_ GE916.out | refine below_set ?_ GE925.out | refine below_set ?_ GE936.out | refine below_set ?_ GE943.out | refine below_set ?_ GE950.out) | exact HB.out)⟩⟩
          ·replace c76 := Bool.eq_false_iff.mpr c76
           subst c76
           have H1 : (cutplanelaw11_SpecialKinds.j1 kj7 a0 true t948 true a2_0 a2_1 a3_0 a3_1 t930 t931 t932 t933 t944 t945 t946 t947) = some r := by rw [if_neg (show ¬ (false = true) by decide)] at H; exact H
           clear H
           have H := H1
           clear H1
           have H' := A0_ H
           clear H
           have hnb88 := NB936_915.out
           have hnc88 := NB915_936.out
           have hnb89 := NB936_916.out
           have hnc89 := NB916_936.out
           have hnb90 := NB936_925.out
           have hnc90 := NB925_936.out
           have hnb91 := NB936_943.out
           have hnc91 := NB943_936.out
           have hnb92 := NB936_950.out
           have hnc92 := NB950_936.out
           have hcz93 := bc4_ BK936.out
           have hfz93 := bf4_ BK936.out
           have hnb94 := NB943_915.out
           have hnc94 := NB915_943.out
           have hnb95 := NB943_916.out
           have hnc95 := NB916_943.out
           have hnb96 := NB943_925.out
           have hnc96 := NB925_943.out
           have hnb97 := NB943_950.out
           have hnc97 := NB950_943.out
           have hcz98 := bc4_ BK943.out
           have hfz98 := bf4_ BK943.out
           go_wp2
           go_meet
           case rel => exact ⟨_, (true), (by first | rfl | (simp; done) | (simp [*]; done)), H', ⟨by have := HJ7.out; first | omega | exact Nat.le_refl _⟩, ⟨by (with_reducible repeat first | apply bN_ | apply bD_ | apply bA_); refine blk_far ?_ NB915_950.out _; (with_reducible repeat first | apply bN_ | apply bD_ | apply bA_); refine blk_far ?_ NB915_950.out _; (with_reducible repeat first | apply bN_ | apply bD_ | apply bA_); refine blk_far ?_ NB915_950.out _; (with_reducible repeat first | apply bN_ | apply bD_ | apply bA_); refine blk_far ?_ NB915_950.out _; (with_reducible repeat first | apply bN_ | apply bD_ | apply bA_); exact BK915.out⟩, ⟨by (with_reducible repeat first | apply bN_ | apply bD_ | apply bA_); refine blk_far ?_ NB916_950.out _; (with_reducible repeat first | apply bN_ | apply bD_ | apply bA_); refine blk_far ?_ NB916_950.out _; (with_reducible repeat first | apply bN_ | apply bD_ | apply bA_); refine blk_far ?_ NB916_950.out _; (with_reducible repeat first | apply bN_ | apply bD_ | apply bA_); refine blk_far ?_ NB916_950.out _; (with_reducible repeat first | apply bN_ | apply bD_ | apply bA_); exact BK916.out⟩, ⟨by (with_reducible repeat first | apply bN_ | apply bD_ | apply bA_); refine blk_far ?_ NB925_950.out _; (with_reducible repeat first | apply bN_ | apply bD_ | apply bA_); refine blk_far ?_ NB925_950.out _; (with_reducible repeat first | apply bN_ | apply bD_ | apply bA_); refine blk_far ?_ NB925_950.out _; (with_reducible repeat first | apply bN_ | apply bD_ | apply bA_); refine blk_far ?_ NB925_950.out _; (with_reducible repeat first | apply bN_ | apply bD_ | apply bA_); exact BK925.out⟩, ⟨by (with_reducible repeat first | apply bN_ | apply bD_ | apply bA_); refine blk_far ?_ NB936_950.out _; (with_reducible repeat first | apply bN_ | apply bD_ | apply bA_); refine blk_far ?_ NB936_950.out _; (with_reducible repeat first | apply bN_ | apply bD_ | apply bA_); refine blk_far ?_ NB936_950.out _; (with_reducible repeat first | apply bN_ | apply bD_ | apply bA_); refine blk_far ?_ NB936_950.out _; (with_reducible repeat first | apply bN_ | apply bD_ | apply bA_); exact BK936.out⟩, ⟨by (with_reducible repeat first | apply bN_ | apply bD_ | apply bA_); refine blk_far ?_ NB943_950.out _; (with_reducible repeat first | apply bN_ | apply bD_ | apply bA_); refine blk_far ?_ NB943_950.out _; (with_reducible repeat first | apply bN_ | apply bD_ | apply bA_); refine blk_far ?_ NB943_950.out _; (with_reducible repeat first | apply bN_ | apply bD_ | apply bA_); refine blk_far ?_ NB943_950.out _; (with_reducible repeat first | apply bN_ | apply bD_ | apply bA_); exact BK943.out⟩, ⟨by (with_reducible repeat first | apply bN_ | apply bD_ | apply bA_); refine blk_put (cs := #[.int .u64 t944, .int .u64 t945, .int .u8 t946, .int .u8 0]) ?_ 3 _ rfl; (with_reducible repeat first | apply bN_ | apply bD_ | apply bA_); refine blk_put (cs := #[.int .u64 t944, .int .u64 t945, .int .u8 0, .int .u8 0]) ?_ 2 _ rfl; (with_reducible repeat first | apply bN_ | apply bD_ | apply bA_); refine blk_put (cs := #[.int .u64 t944, .int .u64 0, .int .u8 0, .int .u8 0]) ?_ 1 _ rfl; (with_reducible repeat first | apply bN_ | apply bD_ | apply bA_); refine blk_put (cs := #[.int .u64 0, .int .u64 0, .int .u8 0, .int .u8 0]) ?_ 0 _ rfl; (with_reducible repeat first | apply bN_ | apply bD_ | apply bA_); exact BK950.out⟩, ⟨by repeat (first | (with_reducible first | exact qm_ HB.out | apply qA_ | apply qN_ | apply qD_ | refine below_set ?_ GE915.out | refine below_set ?_ GE916.out | refine below_set ?_ GE925.out | refine below_set ?_ GE936.out | refine below_set ?_ GE943.out | refine below_set ?_ GE950.out) | exact HB.out)⟩⟩
         ·replace c75 := Bool.eq_false_iff.mpr c75
          subst c75
          have H1 : (if t941 = true then (cutplanelaw11_SpecialKinds.j1 kj7 a0 false t948 true a2_0 a2_1 a3_0 a3_1 t930 t931 t932 t933 t944 t945 t946 t947) else (cutplanelaw11_SpecialKinds.j1 kj7 a0 false t948 false a2_0 a2_1 a3_0 a3_1 t930 t931 t932 t933 t944 t945 t946 t947)) = some r := by rw [if_neg (show ¬ (false = true) by decide)] at H; exact H
          clear H
          have H := H1
          clear H1
          by_cases c99 : t941 = true
          ·subst c99
           have H1 : (cutplanelaw11_SpecialKinds.j1 kj7 a0 false t948 true a2_0 a2_1 a3_0 a3_1 t930 t931 t932 t933 t944 t945 t946 t947) = some r := by rw [if_pos rfl] at H; exact H
           clear H
           have H := H1
           clear H1
           have H' := A0_ H
           clear H
           have hnb100 := NB936_915.out
           have hnc100 := NB915_936.out
           have hnb101 := NB936_916.out
           have hnc101 := NB916_936.out
           have hnb102 := NB936_925.out
           have hnc102 := NB925_936.out
           have hnb103 := NB936_943.out
           have hnc103 := NB943_936.out
           have hnb104 := NB936_950.out
           have hnc104 := NB950_936.out
           have hcz105 := bc4_ BK936.out
           have hfz105 := bf4_ BK936.out
           have hnb106 := NB943_915.out
           have hnc106 := NB915_943.out
           have hnb107 := NB943_916.out
           have hnc107 := NB916_943.out
           have hnb108 := NB943_925.out
           have hnc108 := NB925_943.out
           have hnb109 := NB943_950.out
           have hnc109 := NB950_943.out
           have hcz110 := bc4_ BK943.out
           have hfz110 := bf4_ BK943.out
           go_wp2
           go_meet
           case rel => exact ⟨_, (true), (by first | rfl | (simp; done) | (simp [*]; done)), H', ⟨by have := HJ7.out; first | omega | exact Nat.le_refl _⟩, ⟨by (with_reducible repeat first | apply bN_ | apply bD_ | apply bA_); refine blk_far ?_ NB915_950.out _; (with_reducible repeat first | apply bN_ | apply bD_ | apply bA_); refine blk_far ?_ NB915_950.out _; (with_reducible repeat first | apply bN_ | apply bD_ | apply bA_); refine blk_far ?_ NB915_950.out _; (with_reducible repeat first | apply bN_ | apply bD_ | apply bA_); refine blk_far ?_ NB915_950.out _; (with_reducible repeat first | apply bN_ | apply bD_ | apply bA_); exact BK915.out⟩, ⟨by (with_reducible repeat first | apply bN_ | apply bD_ | apply bA_); refine blk_far ?_ NB916_950.out _; (with_reducible repeat first | apply bN_ | apply bD_ | apply bA_); refine blk_far ?_ NB916_950.out _; (with_reducible repeat first | apply bN_ | apply bD_ | apply bA_); refine blk_far ?_ NB916_950.out _; (with_reducible repeat first | apply bN_ | apply bD_ | apply bA_); refine blk_far ?_ NB916_950.out _; (with_reducible repeat first | apply bN_ | apply bD_ | apply bA_); exact BK916.out⟩, ⟨by (with_reducible repeat first | apply bN_ | apply bD_ | apply bA_); refine blk_far ?_ NB925_950.out _; (with_reducible repeat first | apply bN_ | apply bD_ | apply bA_); refine blk_far ?_ NB925_950.out _; (with_reducible repeat first | apply bN_ | apply bD_ | apply bA_); refine blk_far ?_ NB925_950.out _; (with_reducible repeat first | apply bN_ | apply bD_ | apply bA_); refine blk_far ?_ NB925_950.out _; (with_reducible repeat first | apply bN_ | apply bD_ | apply bA_); exact BK925.out⟩, ⟨by (with_reducible repeat first | apply bN_ | apply bD_ | apply bA_); refine blk_far ?_ NB936_950.out _; (with_reducible repeat first | apply bN_ | apply bD_ | apply bA_); refine blk_far ?_ NB936_950.out _; (with_reducible repeat first | apply bN_ | apply bD_ | apply bA_); refine blk_far ?_ NB936_950.out _; (with_reducible repeat first | apply bN_ | apply bD_ | apply bA_); refine blk_far ?_ NB936_950.out _; (with_reducible repeat first | apply bN_ | apply bD_ | apply bA_); exact BK936.out⟩, ⟨by (with_reducible repeat first | apply bN_ | apply bD_ | apply bA_); refine blk_far ?_ NB943_950.out _; (with_reducible repeat first | apply bN_ | apply bD_ | apply bA_); refine blk_far ?_ NB943_950.out _; (with_reducible repeat first | apply bN_ | apply bD_ | apply bA_); refine blk_far ?_ NB943_950.out _; (with_reducible repeat first | apply bN_ | apply bD_ | apply bA_); refine blk_far ?_ NB943_950.out _; (with_reducible repeat first | apply bN_ | apply bD_ | apply bA_); exact BK943.out⟩, ⟨by (with_reducible repeat first | apply bN_ | apply bD_ | apply bA_); refine blk_put (cs := #[.int .u64 t944, .int .u64 t945, .int .u8 t946, .int .u8 0]) ?_ 3 _ rfl; (with_reducible repeat first | apply bN_ | apply bD_ | apply bA_); refine blk_put (cs := #[.int .u64 t944, .int .u64 t945, .int .u8 0, .int .u8 0]) ?_ 2 _ rfl; (with_reducible repeat first | apply bN_ | apply bD_ | apply bA_); refine blk_put (cs := #[.int .u64 t944, .int .u64 0, .int .u8 0, .int .u8 0]) ?_ 1 _ rfl; (with_reducible repeat first | apply bN_ | apply bD_ | apply bA_); refine blk_put (cs := #[.int .u64 0, .int .u64 0, .int .u8 0, .int .u8 0]) ?_ 0 _ rfl; (with_reducible repeat first | apply bN_ | apply bD_ | apply bA_); exact BK950.out⟩, ⟨by repeat (first | (with_reducible first | exact qm_ HB.out | apply qA_ | apply qN_ | apply qD_ | refine below_set ?_ GE915.out | refine below_set ?_ GE916.out | refine below_set ?_ GE925.out | refine below_set ?_ GE936.out | refine below_set ?_ GE943.out | refine below_set ?_ GE950.out) | exact HB.out)⟩⟩
          ·replace c99 := Bool.eq_false_iff.mpr c99
           subst c99
           have H1 : (cutplanelaw11_SpecialKinds.j1 kj7 a0 false t948 false a2_0 a2_1 a3_0 a3_1 t930 t931 t932 t933 t944 t945 t946 t947) = some r := by rw [if_neg (show ¬ (false = true) by decide)] at H; exact H
           clear H
           have H := H1
           clear H1
           have H' := A0_ H
           clear H
           have hnb111 := NB936_915.out
           have hnc111 := NB915_936.out
           have hnb112 := NB936_916.out
           have hnc112 := NB916_936.out
           have hnb113 := NB936_925.out
           have hnc113 := NB925_936.out
           have hnb114 := NB936_943.out
           have hnc114 := NB943_936.out
           have hnb115 := NB936_950.out
           have hnc115 := NB950_936.out
           have hcz116 := bc4_ BK936.out
           have hfz116 := bf4_ BK936.out
           have hnb117 := NB943_915.out
           have hnc117 := NB915_943.out
           have hnb118 := NB943_916.out
           have hnc118 := NB916_943.out
           have hnb119 := NB943_925.out
           have hnc119 := NB925_943.out
           have hnb120 := NB943_950.out
           have hnc120 := NB950_943.out
           have hcz121 := bc4_ BK943.out
           have hfz121 := bf4_ BK943.out
           go_wp2
           go_meet
           case rel => exact ⟨_, (false), (by first | rfl | (simp; done) | (simp [*]; done)), H', ⟨by have := HJ7.out; first | omega | exact Nat.le_refl _⟩, ⟨by (with_reducible repeat first | apply bN_ | apply bD_ | apply bA_); refine blk_far ?_ NB915_950.out _; (with_reducible repeat first | apply bN_ | apply bD_ | apply bA_); refine blk_far ?_ NB915_950.out _; (with_reducible repeat first | apply bN_ | apply bD_ | apply bA_); refine blk_far ?_ NB915_950.out _; (with_reducible repeat first | apply bN_ | apply bD_ | apply bA_); refine blk_far ?_ NB915_950.out _; (with_reducible repeat first | apply bN_ | apply bD_ | apply bA_); exact BK915.out⟩, ⟨by (with_reducible repeat first | apply bN_ | apply bD_ | apply bA_); refine blk_far ?_ NB916_950.out _; (with_reducible repeat first | apply bN_ | apply bD_ | apply bA_); refine blk_far ?_ NB916_950.out _; (with_reducible repeat first | apply bN_ | apply bD_ | apply bA_); refine blk_far ?_ NB916_950.out _; (with_reducible repeat first | apply bN_ | apply bD_ | apply bA_); refine blk_far ?_ NB916_950.out _; (with_reducible repeat first | apply bN_ | apply bD_ | apply bA_); exact BK916.out⟩, ⟨by (with_reducible repeat first | apply bN_ | apply bD_ | apply bA_); refine blk_far ?_ NB925_950.out _; (with_reducible repeat first | apply bN_ | apply bD_ | apply bA_); refine blk_far ?_ NB925_950.out _; (with_reducible repeat first | apply bN_ | apply bD_ | apply bA_); refine blk_far ?_ NB925_950.out _; (with_reducible repeat first | apply bN_ | apply bD_ | apply bA_); refine blk_far ?_ NB925_950.out _; (with_reducible repeat first | apply bN_ | apply bD_ | apply bA_); exact BK925.out⟩, ⟨by (with_reducible repeat first | apply bN_ | apply bD_ | apply bA_); refine blk_far ?_ NB936_950.out _; (with_reducible repeat first | apply bN_ | apply bD_ | apply bA_); refine blk_far ?_ NB936_950.out _; (with_reducible repeat first | apply bN_ | apply bD_ | apply bA_); refine blk_far ?_ NB936_950.out _; (with_reducible repeat first | apply bN_ | apply bD_ | apply bA_); refine blk_far ?_ NB936_950.out _; (with_reducible repeat first | apply bN_ | apply bD_ | apply bA_); exact BK936.out⟩, ⟨by (with_reducible repeat first | apply bN_ | apply bD_ | apply bA_); refine blk_far ?_ NB943_950.out _; (with_reducible repeat first | apply bN_ | apply bD_ | apply bA_); refine blk_far ?_ NB943_950.out _; (with_reducible repeat first | apply bN_ | apply bD_ | apply bA_); refine blk_far ?_ NB943_950.out _; (with_reducible repeat first | apply bN_ | apply bD_ | apply bA_); refine blk_far ?_ NB943_950.out _; (with_reducible repeat first | apply bN_ | apply bD_ | apply bA_); exact BK943.out⟩, ⟨by (with_reducible repeat first | apply bN_ | apply bD_ | apply bA_); refine blk_put (cs := #[.int .u64 t944, .int .u64 t945, .int .u8 t946, .int .u8 0]) ?_ 3 _ rfl; (with_reducible repeat first | apply bN_ | apply bD_ | apply bA_); refine blk_put (cs := #[.int .u64 t944, .int .u64 t945, .int .u8 0, .int .u8 0]) ?_ 2 _ rfl; (with_reducible repeat first | apply bN_ | apply bD_ | apply bA_); refine blk_put (cs := #[.int .u64 t944, .int .u64 0, .int .u8 0, .int .u8 0]) ?_ 1 _ rfl; (with_reducible repeat first | apply bN_ | apply bD_ | apply bA_); refine blk_put (cs := #[.int .u64 0, .int .u64 0, .int .u8 0, .int .u8 0]) ?_ 0 _ rfl; (with_reducible repeat first | apply bN_ | apply bD_ | apply bA_); exact BK950.out⟩, ⟨by repeat (first | (with_reducible first | exact qm_ HB.out | apply qA_ | apply qN_ | apply qD_ | refine below_set ?_ GE915.out | refine below_set ?_ GE916.out | refine below_set ?_ GE925.out | refine below_set ?_ GE936.out | refine below_set ?_ GE943.out | refine below_set ?_ GE950.out) | exact HB.out)⟩⟩
       ·rw [if_neg c73] at H
        exact absurd H (by simp)
      ·rw [if_neg c72] at H
       exact absurd H (by simp)
     ·rw [if_neg c71] at H
      exact absurd H (by simp)
    case rest =>
     clear HC40
     try clear c1
     try clear c2
     try clear p2
     try clear c3
     try clear c4
     try clear c5
     try clear c6
     try clear c6b0
     try clear c6b1
     try clear c7
     try clear c8
     try clear c9
     try clear c10
     try clear c11
     try clear c12
     try clear c14
     try clear c20
     try clear c21
     try clear c23
     try clear c23b0
     try clear c23b1
     try clear c25
     try clear c25b0
     try clear c25b1
     try clear c26
     try clear c26b0
     try clear c27
     try clear c28
     try clear c32
     try clear c33
     try clear c34
     try clear c41
     try clear c42
     try clear c44
     try clear c48
     try clear c49
     try clear c50
     try clear c56
     try clear c57
     try clear c58
     try clear c59
     try clear c65
     try clear c66
     try clear c67
     try clear c68
     try clear c69
     try clear c71
     try clear c71b0
     try clear c71b1
     try clear c72
     try clear c72b0
     try clear c72b1
     try clear c73
     try clear c73b0
     try clear c73b1
     try clear c74
     try clear c74b0
     try clear c75
     try clear c76
     try clear c77
     try clear c78
     try clear c79
     try clear c80
     try clear c81
     try clear c83
     try clear c84
     try clear c85
     try clear c86
     try clear c88
     try clear c89
     try clear c90
     try clear c91
     try clear c92
     try clear c94
     try clear c95
     try clear c96
     try clear c97
     try clear c99
     try clear c100
     try clear c101
     try clear c102
     try clear c103
     try clear c104
     try clear c106
     try clear c107
     try clear c108
     try clear c109
     try clear c111
     try clear c112
     try clear c113
     try clear c114
     try clear c115
     try clear c117
     try clear c118
     try clear c119
     try clear c120
     try clear hcz105
     try clear hcz110
     try clear hcz116
     try clear hcz121
     try clear hcz12
     try clear hcz13
     try clear hcz17
     try clear hcz22
     try clear hcz29
     try clear hcz35
     try clear hcz36
     try clear hcz43
     try clear hcz45
     try clear hcz51
     try clear hcz52
     try clear hcz53
     try clear hcz60
     try clear hcz61
     try clear hcz62
     try clear hcz70
     try clear hcz82
     try clear hcz87
     try clear hcz93
     try clear hcz98
     try clear hfz105
     try clear hfz110
     try clear hfz116
     try clear hfz121
     try clear hfz12
     try clear hfz13
     try clear hfz17
     try clear hfz22
     try clear hfz29
     try clear hfz35
     try clear hfz36
     try clear hfz43
     try clear hfz45
     try clear hfz51
     try clear hfz52
     try clear hfz53
     try clear hfz60
     try clear hfz61
     try clear hfz62
     try clear hfz70
     try clear hfz82
     try clear hfz87
     try clear hfz93
     try clear hfz98
     try clear p2
     obtain ⟨kq, x99_39, rfl, HA, HJ39, BK915, BK916, BK925, BK936, BK943, BK950, HB⟩ := hcut
     cases kq with
     | zero => exact absurd HA.out (by simp [cutplanelaw11_SpecialKinds.j1])
     | succ kj39 =>
      have H := HA.out
      clear HA
      simp only [cutplanelaw11_SpecialKinds.j1] at H
      by_cases c122 : x99_39 = true
      ·subst c122
       have H1 : (none) = some r := by rw [if_pos rfl] at H; exact H
       clear H
       have H := H1
       clear H1
       exact absurd H (by simp)
      ·replace c122 := Bool.eq_false_iff.mpr c122
       subst c122
       have H1 : ((cutplaneref10_Class.f kj39 a0 t930 t931).bind fun t951 => ((cutplaneref10_Finite.f kj39 a0 a2_0 a2_1).bind fun t952 => (if t952 = true then ((cutplaneref10_Finite.f kj39 a0 a3_0 a3_1).bind fun t953 => (if t953 = true then (if t934 = true then (none) else (cutplanelaw11_SpecialKinds.j2 kj39 a0 t934 t948 false a3_0 a3_1 t944 t945 t946 t947)) else (if t934 = true then (if t951 = 4 then (cutplanelaw11_SpecialKinds.j2 kj39 a0 t934 t948 false a3_0 a3_1 t944 t945 t946 t947) else (cutplanelaw11_SpecialKinds.j2 kj39 a0 t934 t948 (t951 != 3) a3_0 a3_1 t944 t945 t946 t947)) else (none)))) else (if t934 = true then (if t951 = 4 then (cutplanelaw11_SpecialKinds.j2 kj39 a0 t934 t948 false a3_0 a3_1 t944 t945 t946 t947) else (cutplanelaw11_SpecialKinds.j2 kj39 a0 t934 t948 (t951 != 3) a3_0 a3_1 t944 t945 t946 t947)) else (none))))) = some r := by rw [if_neg (show ¬ (false = true) by decide)] at H; exact H
       clear H
       have H := H1
       clear H1
       replace H := Option.bind_eq_some_iff.mp H
       obtain ⟨t951, A1230, H⟩ := H
       replace H : ((cutplaneref10_Finite.f kj39 a0 a2_0 a2_1).bind fun t952 => (if t952 = true then ((cutplaneref10_Finite.f kj39 a0 a3_0 a3_1).bind fun t953 => (if t953 = true then (if t934 = true then (none) else (cutplanelaw11_SpecialKinds.j2 kj39 a0 t934 t948 false a3_0 a3_1 t944 t945 t946 t947)) else (if t934 = true then (if t951 = 4 then (cutplanelaw11_SpecialKinds.j2 kj39 a0 t934 t948 false a3_0 a3_1 t944 t945 t946 t947) else (cutplanelaw11_SpecialKinds.j2 kj39 a0 t934 t948 (t951 != 3) a3_0 a3_1 t944 t945 t946 t947)) else (none)))) else (if t934 = true then (if t951 = 4 then (cutplanelaw11_SpecialKinds.j2 kj39 a0 t934 t948 false a3_0 a3_1 t944 t945 t946 t947) else (cutplanelaw11_SpecialKinds.j2 kj39 a0 t934 t948 (t951 != 3) a3_0 a3_1 t944 t945 t946 t947)) else (none)))) = some r := H
       have A123 := A0_ A1230
       clear A1230
       have HC124 := A0_ H
       clear H
       have hnb125 := NB936_915.out
       have hnc125 := NB915_936.out
       have hnb126 := NB936_916.out
       have hnc126 := NB916_936.out
       have hnb127 := NB936_925.out
       have hnc127 := NB925_936.out
       have hnb128 := NB936_943.out
       have hnc128 := NB943_936.out
       have hnb129 := NB936_950.out
       have hnc129 := NB950_936.out
       have hcz130 := bc4_ BK936.out
       have hfz130 := bf4_ BK936.out
       go_upto_region 14 with (first | ((with_reducible refine gate_callee (f := 12) rfl ?_); refine goesL_ (some 103) rfl rfl Try.func12 (by kernel_rfl) rfl #[.int .u8 a0, .agg #[.int .u64 t930, .int .u64 t931]] rfl (by (try simp only [List.map_toArray, List.map_cons, List.map_nil]); first | done | rfl | (simp only [List.length_drop, List.length_take]; rfl)) ?_; (with_reducible refine (cutplaneref10_Class.calls kj39 a0 t930 t931 t951 _ A123.out).mono ?_); rintro e w131 ⟨rfl, hb⟩; refine ⟨_, rfl, ?_⟩; have n0_ := A0_ (blk_below (bm_ BK915.out) hb); have n1_ := A0_ (blk_below (bm_ BK916.out) hb); have n2_ := A0_ (blk_below (bm_ BK925.out) hb); have n3_ := A0_ (blk_below (bm_ BK936.out) hb); have n4_ := A0_ (blk_below (bm_ BK943.out) hb); have n5_ := A0_ (blk_below (bm_ BK950.out) hb); have n6_ := A0_ (below_step (by repeat (first | (with_reducible first | exact qm_ HB.out | apply qA_ | apply qN_ | apply qD_ | refine below_set ?_ GE915.out | refine below_set ?_ GE916.out | refine below_set ?_ GE925.out | refine below_set ?_ GE936.out | refine below_set ?_ GE943.out | refine below_set ?_ GE950.out) | exact HB.out)) hb); clear BK915; clear BK916; clear BK925; clear BK936; clear BK943; clear BK950; clear HB; have BK915 := n0_; have BK916 := n1_; have BK925 := n2_; have BK936 := n3_; have BK943 := n4_; have BK950 := n5_; have HB := n6_; clear n0_ n1_ n2_ n3_ n4_ n5_ n6_; (try clear hb); (try clear hb2); (try clear hk); (try clear hi)))
       (try simp only [Act.put, List.setIfInBounds_toArray, List.set_cons_zero, List.set_cons_succ])
       go_cut [125] (fun v125 wc => ∃ (kq : Nat) (x125_123 : Bool), v125 = .bool x125_123 ∧ Aside0 (cutplanelaw11_SpecialKinds.j2 kq a0 t934 t948 x125_123 a3_0 a3_1 t944 t945 t946 t947 = some r) ∧ Aside0 (kq ≤ kj39) ∧ Aside0 (wc.heap[gb915]? = some (.cells #[.int .u64 a2_0, .int .u64 a2_1] 26 (0, 0))) ∧ Aside0 (wc.heap[gb916]? = some (.cells #[.int .u64 a3_0, .int .u64 a3_1] 26 (0, 0))) ∧ Aside0 (wc.heap[gb925]? = some (.cells #[.int .u64 t922, .int .u64 t923] 26 (0, 0))) ∧ Aside0 (wc.heap[gb936]? = some (.cells #[.int .u64 t930, .int .u64 t931, .int .u8 t932, .int .u8 t933] 29 (0, 0))) ∧ Aside0 (wc.heap[gb943]? = some (.cells #[.int .u64 t937, .int .u64 t938, .int .u8 t939, .int .u8 t940] 29 (0, 0))) ∧ Aside0 (wc.heap[gb950]? = some (.cells #[.int .u64 t944, .int .u64 t945, .int .u8 t946, .int .u8 t947] 29 (0, 0))) ∧ Aside0 (Below w.heap.size w wc))
       case first =>
        have H := HC124.out
        clear HC124
        replace H := Option.bind_eq_some_iff.mp H
        obtain ⟨t952, A1320, H⟩ := H
        replace H : (if t952 = true then ((cutplaneref10_Finite.f kj39 a0 a3_0 a3_1).bind fun t953 => (if t953 = true then (if t934 = true then (none) else (cutplanelaw11_SpecialKinds.j2 kj39 a0 t934 t948 false a3_0 a3_1 t944 t945 t946 t947)) else (if t934 = true then (if t951 = 4 then (cutplanelaw11_SpecialKinds.j2 kj39 a0 t934 t948 false a3_0 a3_1 t944 t945 t946 t947) else (cutplanelaw11_SpecialKinds.j2 kj39 a0 t934 t948 (t951 != 3) a3_0 a3_1 t944 t945 t946 t947)) else (none)))) else (if t934 = true then (if t951 = 4 then (cutplanelaw11_SpecialKinds.j2 kj39 a0 t934 t948 false a3_0 a3_1 t944 t945 t946 t947) else (cutplanelaw11_SpecialKinds.j2 kj39 a0 t934 t948 (t951 != 3) a3_0 a3_1 t944 t945 t946 t947)) else (none))) = some r := H
        have A132 := A0_ A1320
        clear A1320
        by_cases c133 : t952 = true
        ·subst c133
         have H1 : ((cutplaneref10_Finite.f kj39 a0 a3_0 a3_1).bind fun t953 => (if t953 = true then (if t934 = true then (none) else (cutplanelaw11_SpecialKinds.j2 kj39 a0 t934 t948 false a3_0 a3_1 t944 t945 t946 t947)) else (if t934 = true then (if t951 = 4 then (cutplanelaw11_SpecialKinds.j2 kj39 a0 t934 t948 false a3_0 a3_1 t944 t945 t946 t947) else (cutplanelaw11_SpecialKinds.j2 kj39 a0 t934 t948 (t951 != 3) a3_0 a3_1 t944 t945 t946 t947)) else (none)))) = some r := by rw [if_pos rfl] at H; exact H
         clear H
         have H := H1
         clear H1
         replace H := Option.bind_eq_some_iff.mp H
         obtain ⟨t953, A1340, H⟩ := H
         replace H : (if t953 = true then (if t934 = true then (none) else (cutplanelaw11_SpecialKinds.j2 kj39 a0 t934 t948 false a3_0 a3_1 t944 t945 t946 t947)) else (if t934 = true then (if t951 = 4 then (cutplanelaw11_SpecialKinds.j2 kj39 a0 t934 t948 false a3_0 a3_1 t944 t945 t946 t947) else (cutplanelaw11_SpecialKinds.j2 kj39 a0 t934 t948 (t951 != 3) a3_0 a3_1 t944 t945 t946 t947)) else (none))) = some r := H
         have A134 := A0_ A1340
         clear A1340
         by_cases c135 : t953 = true
         ·subst c135
          have H1 : (if t934 = true then (none) else (cutplanelaw11_SpecialKinds.j2 kj39 a0 t934 t948 false a3_0 a3_1 t944 t945 t946 t947)) = some r := by rw [if_pos rfl] at H; exact H
          clear H
          have H := H1
          clear H1
          by_cases c136 : t934 = true
          ·subst c136
           have H1 : (none) = some r := by rw [if_pos rfl] at H; exact H
           clear H
           have H := H1
           clear H1
           exact absurd H (by simp)
          ·replace c136 := Bool.eq_false_iff.mpr c136
           subst c136
           have H1 : (cutplanelaw11_SpecialKinds.j2 kj39 a0 false t948 false a3_0 a3_1 t944 t945 t946 t947) = some r := by rw [if_neg (show ¬ (false = true) by decide)] at H; exact H
           clear H
           have H := H1
           clear H1
           have H' := A0_ H
           clear H
           have hnb137 := NB915_916.out
           have hnc137 := NB916_915.out
           have hnb138 := NB915_925.out
           have hnc138 := NB925_915.out
           have hnb139 := NB915_936.out
           have hnc139 := NB936_915.out
           have hnb140 := NB915_943.out
           have hnc140 := NB943_915.out
           have hnb141 := NB915_950.out
           have hnc141 := NB950_915.out
           have hcz142 := bc2_ BK915.out
           have hfz142 := bf2_ BK915.out
           go_wp2_with (first | ((with_reducible refine gate_callee (f := 15) rfl ?_); refine goesL_ (some 107) rfl rfl Try.func15 (by kernel_rfl) rfl #[.int .u8 a0, .agg #[.int .u64 a2_0, .int .u64 a2_1]] rfl (by (try simp only [List.map_toArray, List.map_cons, List.map_nil]); first | done | rfl | (simp only [List.length_drop, List.length_take]; rfl)) ?_; (with_reducible refine (cutplaneref10_Finite.calls kj39 a0 a2_0 a2_1 true _ A132.out).mono ?_); rintro e w143 ⟨rfl, hb⟩; refine ⟨_, rfl, ?_⟩; have n0_ := A0_ (blk_below (bm_ BK915.out) hb); have n1_ := A0_ (blk_below (bm_ BK916.out) hb); have n2_ := A0_ (blk_below (bm_ BK925.out) hb); have n3_ := A0_ (blk_below (bm_ BK936.out) hb); have n4_ := A0_ (blk_below (bm_ BK943.out) hb); have n5_ := A0_ (blk_below (bm_ BK950.out) hb); have n6_ := A0_ (below_step (by repeat (first | (with_reducible first | exact qm_ HB.out | apply qA_ | apply qN_ | apply qD_ | refine below_set ?_ GE915.out | refine below_set ?_ GE916.out | refine below_set ?_ GE925.out | refine below_set ?_ GE936.out | refine below_set ?_ GE943.out | refine below_set ?_ GE950.out) | exact HB.out)) hb); clear BK915; clear BK916; clear BK925; clear BK936; clear BK943; clear BK950; clear HB; have BK915 := n0_; have BK916 := n1_; have BK925 := n2_; have BK936 := n3_; have BK943 := n4_; have BK950 := n5_; have HB := n6_; clear n0_ n1_ n2_ n3_ n4_ n5_ n6_; (try clear hb); (try clear hb2); (try clear hk); (try clear hi); have hnb144 := NB916_925.out; have hnc144 := NB925_916.out; have hnb145 := NB916_936.out; have hnc145 := NB936_916.out; have hnb146 := NB916_943.out; have hnc146 := NB943_916.out; have hnb147 := NB916_950.out; have hnc147 := NB950_916.out; have hcz148 := bc2_ BK916.out; have hfz148 := bf2_ BK916.out) | (go_at_call 15; (with_reducible refine (cutplaneref10_Finite.calls kj39 a0 a3_0 a3_1 true _ A134.out).mono ?_); rintro e w149 ⟨rfl, hb⟩; have n0_ := A0_ (blk_below (bm_ BK915.out) hb); have n1_ := A0_ (blk_below (bm_ BK916.out) hb); have n2_ := A0_ (blk_below (bm_ BK925.out) hb); have n3_ := A0_ (blk_below (bm_ BK936.out) hb); have n4_ := A0_ (blk_below (bm_ BK943.out) hb); have n5_ := A0_ (blk_below (bm_ BK950.out) hb); have n6_ := A0_ (below_step (by repeat (first | (with_reducible first | exact qm_ HB.out | apply qA_ | apply qN_ | apply qD_ | refine below_set ?_ GE915.out | refine below_set ?_ GE916.out | refine below_set ?_ GE925.out | refine below_set ?_ GE936.out | refine below_set ?_ GE943.out | refine below_set ?_ GE950.out) | exact HB.out)) hb); clear BK915; clear BK916; clear BK925; clear BK936; clear BK943; clear BK950; clear HB; have BK915 := n0_; have BK916 := n1_; have BK925 := n2_; have BK936 := n3_; have BK943 := n4_; have BK950 := n5_; have HB := n6_; clear n0_ n1_ n2_ n3_ n4_ n5_ n6_; (try clear hb); (try clear hb2); (try clear hk); (try clear hi)))
           go_meet
           case rel => exact ⟨_, (false), (by first | rfl | (simp; done) | (simp [*]; done)), H', ⟨by have := HJ7.out; have := HJ39.out; first | omega | exact Nat.le_refl _⟩, ⟨bm_ BK915.out⟩, ⟨bm_ BK916.out⟩, ⟨bm_ BK925.out⟩, ⟨bm_ BK936.out⟩, ⟨bm_ BK943.out⟩, ⟨bm_ BK950.out⟩, ⟨by repeat (first | (with_reducible first | exact qm_ HB.out | apply qA_ | apply qN_ | apply qD_ | refine below_set ?_ GE915.out | refine below_set ?_ GE916.out | refine below_set ?_ GE925.out | refine below_set ?_ GE936.out | refine below_set ?_ GE943.out | refine below_set ?_ GE950.out) | exact HB.out)⟩⟩
         ·replace c135 := Bool.eq_false_iff.mpr c135
          subst c135
          have H1 : (if t934 = true then (if t951 = 4 then (cutplanelaw11_SpecialKinds.j2 kj39 a0 t934 t948 false a3_0 a3_1 t944 t945 t946 t947) else (cutplanelaw11_SpecialKinds.j2 kj39 a0 t934 t948 (t951 != 3) a3_0 a3_1 t944 t945 t946 t947)) else (none)) = some r := by rw [if_neg (show ¬ (false = true) by decide)] at H; exact H
          clear H
          have H := H1
          clear H1
          by_cases c150 : t934 = true
          ·subst c150
           have H1 : (if t951 = 4 then (cutplanelaw11_SpecialKinds.j2 kj39 a0 true t948 false a3_0 a3_1 t944 t945 t946 t947) else (cutplanelaw11_SpecialKinds.j2 kj39 a0 true t948 (t951 != 3) a3_0 a3_1 t944 t945 t946 t947)) = some r := by rw [if_pos rfl] at H; exact H
           clear H
           have H := H1
           clear H1
           by_cases c151 : t951 = 4
           ·rw [if_pos c151] at H
            have c151b0 : (t951 == 4) = true := beq_iff_eq.mpr c151
            have c151b1 : (t951 != 4) = false := bne_eq_false_iff_eq.mpr c151
            clear c151
            (first | rw [c151b0] | (simp only [i64_w, i32_w]; rw [c151b0]) | skip)
            have H' := A0_ H
            clear H
            have hnb152 := NB915_916.out
            have hnc152 := NB916_915.out
            have hnb153 := NB915_925.out
            have hnc153 := NB925_915.out
            have hnb154 := NB915_936.out
            have hnc154 := NB936_915.out
            have hnb155 := NB915_943.out
            have hnc155 := NB943_915.out
            have hnb156 := NB915_950.out
            have hnc156 := NB950_915.out
            have hcz157 := bc2_ BK915.out
            have hfz157 := bf2_ BK915.out
            go_wp2_with (first | ((with_reducible refine gate_callee (f := 15) rfl ?_); refine goesL_ (some 107) rfl rfl Try.func15 (by kernel_rfl) rfl #[.int .u8 a0, .agg #[.int .u64 a2_0, .int .u64 a2_1]] rfl (by (try simp only [List.map_toArray, List.map_cons, List.map_nil]); first | done | rfl | (simp only [List.length_drop, List.length_take]; rfl)) ?_; (with_reducible refine (cutplaneref10_Finite.calls kj39 a0 a2_0 a2_1 true _ A132.out).mono ?_); rintro e w158 ⟨rfl, hb⟩; refine ⟨_, rfl, ?_⟩; have n0_ := A0_ (blk_below (bm_ BK915.out) hb); have n1_ := A0_ (blk_below (bm_ BK916.out) hb); have n2_ := A0_ (blk_below (bm_ BK925.out) hb); have n3_ := A0_ (blk_below (bm_ BK936.out) hb); have n4_ := A0_ (blk_below (bm_ BK943.out) hb); have n5_ := A0_ (blk_below (bm_ BK950.out) hb); have n6_ := A0_ (below_step (by repeat (first | (with_reducible first | exact qm_ HB.out | apply qA_ | apply qN_ | apply qD_ | refine below_set ?_ GE915.out | refine below_set ?_ GE916.out | refine below_set ?_ GE925.out | refine below_set ?_ GE936.out | refine below_set ?_ GE943.out | refine below_set ?_ GE950.out) | exact HB.out)) hb); clear BK915; clear BK916; clear BK925; clear BK936; clear BK943; clear BK950; clear HB; have BK915 := n0_; have BK916 := n1_; have BK925 := n2_; have BK936 := n3_; have BK943 := n4_; have BK950 := n5_; have HB := n6_; clear n0_ n1_ n2_ n3_ n4_ n5_ n6_; (try clear hb); (try clear hb2); (try clear hk); (try clear hi); have hnb159 := NB916_925.out; have hnc159 := NB925_916.out; have hnb160 := NB916_936.out; have hnc160 := NB936_916.out; have hnb161 := NB916_943.out; have hnc161 := NB943_916.out; have hnb162 := NB916_950.out; have hnc162 := NB950_916.out; have hcz163 := bc2_ BK916.out; have hfz163 := bf2_ BK916.out) | (go_at_call 15; (with_reducible refine (cutplaneref10_Finite.calls kj39 a0 a3_0 a3_1 false _ A134.out).mono ?_); rintro e w164 ⟨rfl, hb⟩; have n0_ := A0_ (blk_below (bm_ BK915.out) hb); have n1_ := A0_ (blk_below (bm_ BK916.out) hb); have n2_ := A0_ (blk_below (bm_ BK925.out) hb); have n3_ := A0_ (blk_below (bm_ BK936.out) hb); have n4_ := A0_ (blk_below (bm_ BK943.out) hb); have n5_ := A0_ (blk_below (bm_ BK950.out) hb); have n6_ := A0_ (below_step (by repeat (first | (with_reducible first | exact qm_ HB.out | apply qA_ | apply qN_ | apply qD_ | refine below_set ?_ GE915.out | refine below_set ?_ GE916.out | refine below_set ?_ GE925.out | refine below_set ?_ GE936.out | refine below_set ?_ GE943.out | refine below_set ?_ GE950.out) | exact HB.out)) hb); clear BK915; clear BK916; clear BK925; clear BK936; clear BK943; clear BK950; clear HB; have BK915 := n0_; have BK916 := n1_; have BK925 := n2_; have BK936 := n3_; have BK943 := n4_; have BK950 := n5_; have HB := n6_; clear n0_ n1_ n2_ n3_ n4_ n5_ n6_; (try clear hb); (try clear hb2); (try clear hk); (try clear hi)))
            go_meet
            case rel => exact ⟨_, (false), (by first | rfl | (simp; done) | (simp [*]; done)), H', ⟨by have := HJ7.out; have := HJ39.out; first | omega | exact Nat.le_refl _⟩, ⟨bm_ BK915.out⟩, ⟨bm_ BK916.out⟩, ⟨bm_ BK925.out⟩, ⟨bm_ BK936.out⟩, ⟨bm_ BK943.out⟩, ⟨bm_ BK950.out⟩, ⟨by repeat (first | (with_reducible first | exact qm_ HB.out | apply qA_ | apply qN_ | apply qD_ | refine below_set ?_ GE915.out | refine below_set ?_ GE916.out | refine below_set ?_ GE925.out | refine below_set ?_ GE936.out | refine below_set ?_ GE943.out | refine below_set ?_ GE950.out) | exact HB.out)⟩⟩
           ·rw [if_neg c151] at H
            have c151b0 : (t951 == 4) = false := beq_eq_false_iff_ne.mpr c151
            have c151b1 : (t951 != 4) = true := bne_iff_ne.mpr c151
            (first | rw [c151b0] | (simp only [i64_w, i32_w]; rw [c151b0]) | skip)
            have H' := A0_ H
            clear H
            have hnb165 := NB915_916.out
            have hnc165 := NB916_915.out
            have hnb166 := NB915_925.out
            have hnc166 := NB925_915.out
            have hnb167 := NB915_936.out
            have hnc167 := NB936_915.out
            have hnb168 := NB915_943.out
            have hnc168 := NB943_915.out
            have hnb169 := NB915_950.out
            have hnc169 := NB950_915.out
            have hcz170 := bc2_ BK915.out
            have hfz170 := bf2_ BK915.out
            go_wp2_with (first | ((with_reducible refine gate_callee (f := 15) rfl ?_); refine goesL_ (some 107) rfl rfl Try.func15 (by kernel_rfl) rfl #[.int .u8 a0, .agg #[.int .u64 a2_0, .int .u64 a2_1]] rfl (by (try simp only [List.map_toArray, List.map_cons, List.map_nil]); first | done | rfl | (simp only [List.length_drop, List.length_take]; rfl)) ?_; (with_reducible refine (cutplaneref10_Finite.calls kj39 a0 a2_0 a2_1 true _ A132.out).mono ?_); rintro e w171 ⟨rfl, hb⟩; refine ⟨_, rfl, ?_⟩; have n0_ := A0_ (blk_below (bm_ BK915.out) hb); have n1_ := A0_ (blk_below (bm_ BK916.out) hb); have n2_ := A0_ (blk_below (bm_ BK925.out) hb); have n3_ := A0_ (blk_below (bm_ BK936.out) hb); have n4_ := A0_ (blk_below (bm_ BK943.out) hb); have n5_ := A0_ (blk_below (bm_ BK950.out) hb); have n6_ := A0_ (below_step (by repeat (first | (with_reducible first | exact qm_ HB.out | apply qA_ | apply qN_ | apply qD_ | refine below_set ?_ GE915.out | refine below_set ?_ GE916.out | refine below_set ?_ GE925.out | refine below_set ?_ GE936.out | refine below_set ?_ GE943.out | refine below_set ?_ GE950.out) | exact HB.out)) hb); clear BK915; clear BK916; clear BK925; clear BK936; clear BK943; clear BK950; clear HB; have BK915 := n0_; have BK916 := n1_; have BK925 := n2_; have BK936 := n3_; have BK943 := n4_; have BK950 := n5_; have HB := n6_; clear n0_ n1_ n2_ n3_ n4_ n5_ n6_; (try clear hb); (try clear hb2); (try clear hk); (try clear hi); have hnb172 := NB916_925.out; have hnc172 := NB925_916.out; have hnb173 := NB916_936.out; have hnc173 := NB936_916.out; have hnb174 := NB916_943.out; have hnc174 := NB943_916.out; have hnb175 := NB916_950.out; have hnc175 := NB950_916.out; have hcz176 := bc2_ BK916.out; have hfz176 := bf2_ BK916.out) | (go_at_call 15; (with_reducible refine (cutplaneref10_Finite.calls kj39 a0 a3_0 a3_1 false _ A134.out).mono ?_); rintro e w177 ⟨rfl, hb⟩; have n0_ := A0_ (blk_below (bm_ BK915.out) hb); have n1_ := A0_ (blk_below (bm_ BK916.out) hb); have n2_ := A0_ (blk_below (bm_ BK925.out) hb); have n3_ := A0_ (blk_below (bm_ BK936.out) hb); have n4_ := A0_ (blk_below (bm_ BK943.out) hb); have n5_ := A0_ (blk_below (bm_ BK950.out) hb); have n6_ := A0_ (below_step (by repeat (first | (with_reducible first | exact qm_ HB.out | apply qA_ | apply qN_ | apply qD_ | refine below_set ?_ GE915.out | refine below_set ?_ GE916.out | refine below_set ?_ GE925.out | refine below_set ?_ GE936.out | refine below_set ?_ GE943.out | refine below_set ?_ GE950.out) | exact HB.out)) hb); clear BK915; clear BK916; clear BK925; clear BK936; clear BK943; clear BK950; clear HB; have BK915 := n0_; have BK916 := n1_; have BK925 := n2_; have BK936 := n3_; have BK943 := n4_; have BK950 := n5_; have HB := n6_; clear n0_ n1_ n2_ n3_ n4_ n5_ n6_; (try clear hb); (try clear hb2); (try clear hk); (try clear hi)))
            go_meet
            case rel => exact ⟨_, ((t951 != 3)), (by first | rfl | (simp; done) | (simp [*]; done)), H', ⟨by have := HJ7.out; have := HJ39.out; first | omega | exact Nat.le_refl _⟩, ⟨bm_ BK915.out⟩, ⟨bm_ BK916.out⟩, ⟨bm_ BK925.out⟩, ⟨bm_ BK936.out⟩, ⟨bm_ BK943.out⟩, ⟨bm_ BK950.out⟩, ⟨by repeat (first | (with_reducible first | exact qm_ HB.out | apply qA_ | apply qN_ | apply qD_ | refine below_set ?_ GE915.out | refine below_set ?_ GE916.out | refine below_set ?_ GE925.out | refine below_set ?_ GE936.out | refine below_set ?_ GE943.out | refine below_set ?_ GE950.out) | exact HB.out)⟩⟩
          ·replace c150 := Bool.eq_false_iff.mpr c150
           subst c150
           have H1 : (none) = some r := by rw [if_neg (show ¬ (false = true) by decide)] at H; exact H
           clear H
           have H := H1
           clear H1
           exact absurd H (by simp)
        ·replace c133 := Bool.eq_false_iff.mpr c133
         subst c133
         have H1 : (if t934 = true then (if t951 = 4 then (cutplanelaw11_SpecialKinds.j2 kj39 a0 t934 t948 false a3_0 a3_1 t944 t945 t946 t947) else (cutplanelaw11_SpecialKinds.j2 kj39 a0 t934 t948 (t951 != 3) a3_0 a3_1 t944 t945 t946 t947)) else (none)) = some r := by rw [if_neg (show ¬ (false = true) by decide)] at H; exact H
         clear H
         have H := H1
         clear H1
         by_cases c178 : t934 = true
         ·subst c178
          have H1 : (if t951 = 4 then (cutplanelaw11_SpecialKinds.j2 kj39 a0 true t948 false a3_0 a3_1 t944 t945 t946 t947) else (cutplanelaw11_SpecialKinds.j2 kj39 a0 true t948 (t951 != 3) a3_0 a3_1 t944 t945 t946 t947)) = some r := by rw [if_pos rfl] at H; exact H
          clear H
          have H := H1
          clear H1
          by_cases c179 : t951 = 4
          ·rw [if_pos c179] at H
           have c179b0 : (t951 == 4) = true := beq_iff_eq.mpr c179
           have c179b1 : (t951 != 4) = false := bne_eq_false_iff_eq.mpr c179
           clear c179
           have H' := A0_ H
           clear H
           have hnb180 := NB915_916.out
           have hnc180 := NB916_915.out
           have hnb181 := NB915_925.out
           have hnc181 := NB925_915.out
           have hnb182 := NB915_936.out
           have hnc182 := NB936_915.out
           have hnb183 := NB915_943.out
           have hnc183 := NB943_915.out
           have hnb184 := NB915_950.out
           have hnc184 := NB950_915.out
           have hcz185 := bc2_ BK915.out
           have hfz185 := bf2_ BK915.out
           go_wp2_with (first | ((with_reducible refine gate_callee (f := 15) rfl ?_); refine goesL_ (some 107) rfl rfl Try.func15 (by kernel_rfl) rfl #[.int .u8 a0, .agg #[.int .u64 a2_0, .int .u64 a2_1]] rfl (by (try simp only [List.map_toArray, List.map_cons, List.map_nil]); first | done | rfl | (simp only [List.length_drop, List.length_take]; rfl)) ?_; (with_reducible refine (cutplaneref10_Finite.calls kj39 a0 a2_0 a2_1 false _ A132.out).mono ?_); rintro e w186 ⟨rfl, hb⟩; refine ⟨_, rfl, ?_⟩; have n0_ := A0_ (blk_below (bm_ BK915.out) hb); have n1_ := A0_ (blk_below (bm_ BK916.out) hb); have n2_ := A0_ (blk_below (bm_ BK925.out) hb); have n3_ := A0_ (blk_below (bm_ BK936.out) hb); have n4_ := A0_ (blk_below (bm_ BK943.out) hb); have n5_ := A0_ (blk_below (bm_ BK950.out) hb); have n6_ := A0_ (below_step (by repeat (first | (with_reducible first | exact qm_ HB.out | apply qA_ | apply qN_ | apply qD_ | refine below_set ?_ GE915.out | refine below_set ?_ GE916.out | refine below_set ?_ GE925.out | refine below_set ?_ GE936.out | refine below_set ?_ GE943.out | refine below_set ?_ GE950.out) | exact HB.out)) hb); clear BK915; clear BK916; clear BK925; clear BK936; clear BK943; clear BK950; clear HB; have BK915 := n0_; have BK916 := n1_; have BK925 := n2_; have BK936 := n3_; have BK943 := n4_; have BK950 := n5_; have HB := n6_; clear n0_ n1_ n2_ n3_ n4_ n5_ n6_; (try clear hb); (try clear hb2); (try clear hk); (try clear hi)))
           go_meet
           case rel => exact ⟨_, (false), (by first | rfl | (simp; done) | (simp [*]; done)), H', ⟨by have := HJ7.out; have := HJ39.out; first | omega | exact Nat.le_refl _⟩, ⟨bm_ BK915.out⟩, ⟨bm_ BK916.out⟩, ⟨bm_ BK925.out⟩, ⟨bm_ BK936.out⟩, ⟨bm_ BK943.out⟩, ⟨bm_ BK950.out⟩, ⟨by repeat (first | (with_reducible first | exact qm_ HB.out | apply qA_ | apply qN_ | apply qD_ | refine below_set ?_ GE915.out | refine below_set ?_ GE916.out | refine below_set ?_ GE925.out | refine below_set ?_ GE936.out | refine below_set ?_ GE943.out | refine below_set ?_ GE950.out) | exact HB.out)⟩⟩
          ·rw [if_neg c179] at H
           have c179b0 : (t951 == 4) = false := beq_eq_false_iff_ne.mpr c179
           have c179b1 : (t951 != 4) = true := bne_iff_ne.mpr c179
           have H' := A0_ H
           clear H
           have hnb187 := NB915_916.out
           have hnc187 := NB916_915.out
           have hnb188 := NB915_925.out
           have hnc188 := NB925_915.out
           have hnb189 := NB915_936.out
           have hnc189 := NB936_915.out
           have hnb190 := NB915_943.out
           have hnc190 := NB943_915.out
           have hnb191 := NB915_950.out
           have hnc191 := NB950_915.out
           have hcz192 := bc2_ BK915.out
           have hfz192 := bf2_ BK915.out
           go_wp2_with (first | ((with_reducible refine gate_callee (f := 15) rfl ?_); refine goesL_ (some 107) rfl rfl Try.func15 (by kernel_rfl) rfl #[.int .u8 a0, .agg #[.int .u64 a2_0, .int .u64 a2_1]] rfl (by (try simp only [List.map_toArray, List.map_cons, List.map_nil]); first | done | rfl | (simp only [List.length_drop, List.length_take]; rfl)) ?_; (with_reducible refine (cutplaneref10_Finite.calls kj39 a0 a2_0 a2_1 false _ A132.out).mono ?_); rintro e w193 ⟨rfl, hb⟩; refine ⟨_, rfl, ?_⟩; have n0_ := A0_ (blk_below (bm_ BK915.out) hb); have n1_ := A0_ (blk_below (bm_ BK916.out) hb); have n2_ := A0_ (blk_below (bm_ BK925.out) hb); have n3_ := A0_ (blk_below (bm_ BK936.out) hb); have n4_ := A0_ (blk_below (bm_ BK943.out) hb); have n5_ := A0_ (blk_below (bm_ BK950.out) hb); have n6_ := A0_ (below_step (by repeat (first | (with_reducible first | exact qm_ HB.out | apply qA_ | apply qN_ | apply qD_ | refine below_set ?_ GE915.out | refine below_set ?_ GE916.out | refine below_set ?_ GE925.out | refine below_set ?_ GE936.out | refine below_set ?_ GE943.out | refine below_set ?_ GE950.out) | exact HB.out)) hb); clear BK915; clear BK916; clear BK925; clear BK936; clear BK943; clear BK950; clear HB; have BK915 := n0_; have BK916 := n1_; have BK925 := n2_; have BK936 := n3_; have BK943 := n4_; have BK950 := n5_; have HB := n6_; clear n0_ n1_ n2_ n3_ n4_ n5_ n6_; (try clear hb); (try clear hb2); (try clear hk); (try clear hi)))
           go_meet
           case rel => exact ⟨_, ((t951 != 3)), (by first | rfl | (simp; done) | (simp [*]; done)), H', ⟨by have := HJ7.out; have := HJ39.out; first | omega | exact Nat.le_refl _⟩, ⟨bm_ BK915.out⟩, ⟨bm_ BK916.out⟩, ⟨bm_ BK925.out⟩, ⟨bm_ BK936.out⟩, ⟨bm_ BK943.out⟩, ⟨bm_ BK950.out⟩, ⟨by repeat (first | (with_reducible first | exact qm_ HB.out | apply qA_ | apply qN_ | apply qD_ | refine below_set ?_ GE915.out | refine below_set ?_ GE916.out | refine below_set ?_ GE925.out | refine below_set ?_ GE936.out | refine below_set ?_ GE943.out | refine below_set ?_ GE950.out) | exact HB.out)⟩⟩
         ·replace c178 := Bool.eq_false_iff.mpr c178
          subst c178
          have H1 : (none) = some r := by rw [if_neg (show ¬ (false = true) by decide)] at H; exact H
          clear H
          have H := H1
          clear H1
          exact absurd H (by simp)
       case rest =>
        clear HC124
        try clear c1
        try clear c2
        try clear p2
        try clear c3
        try clear c4
        try clear c5
        try clear c6
        try clear c6b0
        try clear c6b1
        try clear c7
        try clear c8
        try clear c9
        try clear c10
        try clear c11
        try clear c12
        try clear c13
        try clear c14
        try clear c15
        try clear c16
        try clear c17
        try clear c18
        try clear c19
        try clear c20
        try clear c21
        try clear c23
        try clear c23b0
        try clear c23b1
        try clear c25
        try clear c25b0
        try clear c25b1
        try clear c26
        try clear c26b0
        try clear c27
        try clear c28
        try clear c32
        try clear c33
        try clear c34
        try clear c41
        try clear c42
        try clear c44
        try clear c48
        try clear c49
        try clear c50
        try clear c56
        try clear c57
        try clear c58
        try clear c59
        try clear c65
        try clear c66
        try clear c67
        try clear c68
        try clear c69
        try clear c71
        try clear c71b0
        try clear c71b1
        try clear c72
        try clear c72b0
        try clear c72b1
        try clear c73
        try clear c73b0
        try clear c73b1
        try clear c74
        try clear c74b0
        try clear c75
        try clear c76
        try clear c77
        try clear c78
        try clear c79
        try clear c80
        try clear c81
        try clear c83
        try clear c84
        try clear c85
        try clear c86
        try clear c88
        try clear c89
        try clear c90
        try clear c91
        try clear c92
        try clear c94
        try clear c95
        try clear c96
        try clear c97
        try clear c99
        try clear c100
        try clear c101
        try clear c102
        try clear c103
        try clear c104
        try clear c106
        try clear c107
        try clear c108
        try clear c109
        try clear c111
        try clear c112
        try clear c113
        try clear c114
        try clear c115
        try clear c117
        try clear c118
        try clear c119
        try clear c120
        try clear c122
        try clear c125
        try clear c126
        try clear c127
        try clear c128
        try clear c129
        try clear c133
        try clear c135
        try clear c136
        try clear c137
        try clear c138
        try clear c139
        try clear c140
        try clear c141
        try clear c144
        try clear c145
        try clear c146
        try clear c147
        try clear c150
        try clear c151
        try clear c151b0
        try clear c151b1
        try clear c152
        try clear c153
        try clear c154
        try clear c155
        try clear c156
        try clear c159
        try clear c160
        try clear c161
        try clear c162
        try clear c165
        try clear c166
        try clear c167
        try clear c168
        try clear c169
        try clear c172
        try clear c173
        try clear c174
        try clear c175
        try clear c178
        try clear c179
        try clear c179b0
        try clear c179b1
        try clear c180
        try clear c181
        try clear c182
        try clear c183
        try clear c184
        try clear c187
        try clear c188
        try clear c189
        try clear c190
        try clear c191
        try clear hcz105
        try clear hcz110
        try clear hcz116
        try clear hcz121
        try clear hcz12
        try clear hcz130
        try clear hcz13
        try clear hcz142
        try clear hcz148
        try clear hcz157
        try clear hcz163
        try clear hcz170
        try clear hcz176
        try clear hcz17
        try clear hcz185
        try clear hcz192
        try clear hcz22
        try clear hcz29
        try clear hcz35
        try clear hcz36
        try clear hcz43
        try clear hcz45
        try clear hcz51
        try clear hcz52
        try clear hcz53
        try clear hcz60
        try clear hcz61
        try clear hcz62
        try clear hcz70
        try clear hcz82
        try clear hcz87
        try clear hcz93
        try clear hcz98
        try clear hfz105
        try clear hfz110
        try clear hfz116
        try clear hfz121
        try clear hfz12
        try clear hfz130
        try clear hfz13
        try clear hfz142
        try clear hfz148
        try clear hfz157
        try clear hfz163
        try clear hfz170
        try clear hfz176
        try clear hfz17
        try clear hfz185
        try clear hfz192
        try clear hfz22
        try clear hfz29
        try clear hfz35
        try clear hfz36
        try clear hfz43
        try clear hfz45
        try clear hfz51
        try clear hfz52
        try clear hfz53
        try clear hfz60
        try clear hfz61
        try clear hfz62
        try clear hfz70
        try clear hfz82
        try clear hfz87
        try clear hfz93
        try clear hfz98
        try clear p2
        obtain ⟨kq, x125_123, rfl, HA, HJ123, BK915, BK916, BK925, BK936, BK943, BK950, HB⟩ := hcut
        cases kq with
        | zero => exact absurd HA.out (by simp [cutplanelaw11_SpecialKinds.j2])
        | succ kj123 =>
         have H := HA.out
         clear HA
         simp only [cutplanelaw11_SpecialKinds.j2] at H
         by_cases c194 : x125_123 = true
         ·subst c194
          have H1 : (none) = some r := by rw [if_pos rfl] at H; exact H
          clear H
          have H := H1
          clear H1
          exact absurd H (by simp)
         ·replace c194 := Bool.eq_false_iff.mpr c194
          subst c194
          have H1 : ((cutplaneref10_Class.f kj123 a0 t944 t945).bind fun t954 => (if t934 = true then (if t948 = true then (if t954 = 4 then ((cutplanelaw11_known.f kj123).bind fun t955 => (some t955)) else (if t954 = 3 then ((cutplanelaw11_known.f kj123).bind fun t956 => (some t956)) else (if t954 = 1 then ((cutplanelaw11_known.f kj123).bind fun t957 => (some t957)) else (none)))) else (none)) else ((cutplaneref10_Class.f kj123 a0 a3_0 a3_1).bind fun t958 => (if t948 = true then (if t958 = 1 then (if t954 = 4 then ((cutplanelaw11_known.f kj123).bind fun t959 => (some t959)) else (if t954 = 3 then ((cutplanelaw11_known.f kj123).bind fun t960 => (some t960)) else (if t954 = 1 then ((cutplanelaw11_known.f kj123).bind fun t961 => (some t961)) else (none)))) else (none)) else (if t958 = 1 then (none) else ((cutplanelaw11_known.f kj123).bind fun t962 => (some t962))))))) = some r := by rw [if_neg (show ¬ (false = true) by decide)] at H; exact H
          clear H
          have H := H1
          clear H1
          replace H := Option.bind_eq_some_iff.mp H
          obtain ⟨t954, A1950, H⟩ := H
          replace H : (if t934 = true then (if t948 = true then (if t954 = 4 then ((cutplanelaw11_known.f kj123).bind fun t955 => (some t955)) else (if t954 = 3 then ((cutplanelaw11_known.f kj123).bind fun t956 => (some t956)) else (if t954 = 1 then ((cutplanelaw11_known.f kj123).bind fun t957 => (some t957)) else (none)))) else (none)) else ((cutplaneref10_Class.f kj123 a0 a3_0 a3_1).bind fun t958 => (if t948 = true then (if t958 = 1 then (if t954 = 4 then ((cutplanelaw11_known.f kj123).bind fun t959 => (some t959)) else (if t954 = 3 then ((cutplanelaw11_known.f kj123).bind fun t960 => (some t960)) else (if t954 = 1 then ((cutplanelaw11_known.f kj123).bind fun t961 => (some t961)) else (none)))) else (none)) else (if t958 = 1 then (none) else ((cutplanelaw11_known.f kj123).bind fun t962 => (some t962)))))) = some r := H
          have A195 := A0_ A1950
          clear A1950
          by_cases c196 : t934 = true
          ·subst c196
           have H1 : (if t948 = true then (if t954 = 4 then ((cutplanelaw11_known.f kj123).bind fun t955 => (some t955)) else (if t954 = 3 then ((cutplanelaw11_known.f kj123).bind fun t956 => (some t956)) else (if t954 = 1 then ((cutplanelaw11_known.f kj123).bind fun t957 => (some t957)) else (none)))) else (none)) = some r := by rw [if_pos rfl] at H; exact H
           clear H
           have H := H1
           clear H1
           by_cases c197 : t948 = true
           ·subst c197
            have H1 : (if t954 = 4 then ((cutplanelaw11_known.f kj123).bind fun t955 => (some t955)) else (if t954 = 3 then ((cutplanelaw11_known.f kj123).bind fun t956 => (some t956)) else (if t954 = 1 then ((cutplanelaw11_known.f kj123).bind fun t957 => (some t957)) else (none)))) = some r := by rw [if_pos rfl] at H; exact H
            clear H
            have H := H1
            clear H1
            by_cases c198 : t954 = 4
            ·rw [if_pos c198] at H
             have c198b0 : (t954 == 4) = true := beq_iff_eq.mpr c198
             have c198b1 : (t954 != 4) = false := bne_eq_false_iff_eq.mpr c198
             clear c198
             replace H := Option.bind_eq_some_iff.mp H
             obtain ⟨t955, A1990, H⟩ := H
             replace H : (some t955) = some r := H
             have A199 := A0_ A1990
             clear A1990
             obtain rfl := Option.some.inj H
             have hnb200 := NB950_915.out
             have hnc200 := NB915_950.out
             have hnb201 := NB950_916.out
             have hnc201 := NB916_950.out
             have hnb202 := NB950_925.out
             have hnc202 := NB925_950.out
             have hnb203 := NB950_936.out
             have hnc203 := NB936_950.out
             have hnb204 := NB950_943.out
             have hnc204 := NB943_950.out
             have hcz205 := bc4_ BK950.out
             have hfz205 := bf4_ BK950.out
             go_wp2_with (first | ((with_reducible refine gate_callee (f := 12) rfl ?_); refine goesL_ (some 129) rfl rfl Try.func12 (by kernel_rfl) rfl #[.int .u8 a0, .agg #[.int .u64 t944, .int .u64 t945]] rfl (by (try simp only [List.map_toArray, List.map_cons, List.map_nil]); first | done | rfl | (simp only [List.length_drop, List.length_take]; rfl)) ?_; (with_reducible refine (cutplaneref10_Class.calls kj123 a0 t944 t945 t954 _ A195.out).mono ?_); rintro e w206 ⟨rfl, hb⟩; refine ⟨_, rfl, ?_⟩; have n0_ := A0_ (blk_below (bm_ BK915.out) hb); have n1_ := A0_ (blk_below (bm_ BK916.out) hb); have n2_ := A0_ (blk_below (bm_ BK925.out) hb); have n3_ := A0_ (blk_below (bm_ BK936.out) hb); have n4_ := A0_ (blk_below (bm_ BK943.out) hb); have n5_ := A0_ (blk_below (bm_ BK950.out) hb); have n6_ := A0_ (below_step (by repeat (first | (with_reducible first | exact qm_ HB.out | apply qA_ | apply qN_ | apply qD_ | refine below_set ?_ GE915.out | refine below_set ?_ GE916.out | refine below_set ?_ GE925.out | refine below_set ?_ GE936.out | refine below_set ?_ GE943.out | refine below_set ?_ GE950.out) | exact HB.out)) hb); clear BK915; clear BK916; clear BK925; clear BK936; clear BK943; clear BK950; clear HB; have BK915 := n0_; have BK916 := n1_; have BK925 := n2_; have BK936 := n3_; have BK943 := n4_; have BK950 := n5_; have HB := n6_; clear n0_ n1_ n2_ n3_ n4_ n5_ n6_; (try clear hb); (try clear hb2); (try clear hk); (try clear hi)) | (go_at_call 8; (with_reducible refine (cutplanelaw11_known.calls kj123  t955 _ A199.out).mono ?_); rintro e w207 ⟨rfl, hb⟩; have n0_ := A0_ (blk_below (bm_ BK915.out) hb); have n1_ := A0_ (blk_below (bm_ BK916.out) hb); have n2_ := A0_ (blk_below (bm_ BK925.out) hb); have n3_ := A0_ (blk_below (bm_ BK936.out) hb); have n4_ := A0_ (blk_below (bm_ BK943.out) hb); have n5_ := A0_ (blk_below (bm_ BK950.out) hb); have n6_ := A0_ (below_step (by repeat (first | (with_reducible first | exact qm_ HB.out | apply qA_ | apply qN_ | apply qD_ | refine below_set ?_ GE915.out | refine below_set ?_ GE916.out | refine below_set ?_ GE925.out | refine below_set ?_ GE936.out | refine below_set ?_ GE943.out | refine below_set ?_ GE950.out) | exact HB.out)) hb); clear BK915; clear BK916; clear BK925; clear BK936; clear BK943; clear BK950; clear HB; have BK915 := n0_; have BK916 := n1_; have BK925 := n2_; have BK936 := n3_; have BK943 := n4_; have BK950 := n5_; have HB := n6_; clear n0_ n1_ n2_ n3_ n4_ n5_ n6_; (try clear hb); (try clear hb2); (try clear hk); (try clear hi)))
             go_ret
             exact ⟨by first | rfl | (simp [errW_none, errW_some] <;> rfl) | (simp [*, errW_none, errW_some] <;> rfl), by repeat (first | (with_reducible first | exact qm_ HB.out | apply qA_ | apply qN_ | apply qD_ | refine below_set ?_ GE915.out | refine below_set ?_ GE916.out | refine below_set ?_ GE925.out | refine below_set ?_ GE936.out | refine below_set ?_ GE943.out | refine below_set ?_ GE950.out) | exact HB.out)⟩
            ·rw [if_neg c198] at H
             have c198b0 : (t954 == 4) = false := beq_eq_false_iff_ne.mpr c198
             have c198b1 : (t954 != 4) = true := bne_iff_ne.mpr c198
             by_cases c208 : t954 = 3
             ·rw [if_pos c208] at H
              have c208b0 : (t954 == 3) = true := beq_iff_eq.mpr c208
              have c208b1 : (t954 != 3) = false := bne_eq_false_iff_eq.mpr c208
              clear c208
              replace H := Option.bind_eq_some_iff.mp H
              obtain ⟨t956, A2090, H⟩ := H
              replace H : (some t956) = some r := H
              have A209 := A0_ A2090
              clear A2090
              obtain rfl := Option.some.inj H
              have hnb210 := NB950_915.out
              have hnc210 := NB915_950.out
              have hnb211 := NB950_916.out
              have hnc211 := NB916_950.out
              have hnb212 := NB950_925.out
              have hnc212 := NB925_950.out
              have hnb213 := NB950_936.out
              have hnc213 := NB936_950.out
              have hnb214 := NB950_943.out
              have hnc214 := NB943_950.out
              have hcz215 := bc4_ BK950.out
              have hfz215 := bf4_ BK950.out
              go_wp2_with (first | ((with_reducible refine gate_callee (f := 12) rfl ?_); refine goesL_ (some 129) rfl rfl Try.func12 (by kernel_rfl) rfl #[.int .u8 a0, .agg #[.int .u64 t944, .int .u64 t945]] rfl (by (try simp only [List.map_toArray, List.map_cons, List.map_nil]); first | done | rfl | (simp only [List.length_drop, List.length_take]; rfl)) ?_; (with_reducible refine (cutplaneref10_Class.calls kj123 a0 t944 t945 t954 _ A195.out).mono ?_); rintro e w216 ⟨rfl, hb⟩; refine ⟨_, rfl, ?_⟩; have n0_ := A0_ (blk_below (bm_ BK915.out) hb); have n1_ := A0_ (blk_below (bm_ BK916.out) hb); have n2_ := A0_ (blk_below (bm_ BK925.out) hb); have n3_ := A0_ (blk_below (bm_ BK936.out) hb); have n4_ := A0_ (blk_below (bm_ BK943.out) hb); have n5_ := A0_ (blk_below (bm_ BK950.out) hb); have n6_ := A0_ (below_step (by repeat (first | (with_reducible first | exact qm_ HB.out | apply qA_ | apply qN_ | apply qD_ | refine below_set ?_ GE915.out | refine below_set ?_ GE916.out | refine below_set ?_ GE925.out | refine below_set ?_ GE936.out | refine below_set ?_ GE943.out | refine below_set ?_ GE950.out) | exact HB.out)) hb); clear BK915; clear BK916; clear BK925; clear BK936; clear BK943; clear BK950; clear HB; have BK915 := n0_; have BK916 := n1_; have BK925 := n2_; have BK936 := n3_; have BK943 := n4_; have BK950 := n5_; have HB := n6_; clear n0_ n1_ n2_ n3_ n4_ n5_ n6_; (try clear hb); (try clear hb2); (try clear hk); (try clear hi)) | (go_at_call 8; (with_reducible refine (cutplanelaw11_known.calls kj123  t956 _ A209.out).mono ?_); rintro e w217 ⟨rfl, hb⟩; have n0_ := A0_ (blk_below (bm_ BK915.out) hb); have n1_ := A0_ (blk_below (bm_ BK916.out) hb); have n2_ := A0_ (blk_below (bm_ BK925.out) hb); have n3_ := A0_ (blk_below (bm_ BK936.out) hb); have n4_ := A0_ (blk_below (bm_ BK943.out) hb); have n5_ := A0_ (blk_below (bm_ BK950.out) hb); have n6_ := A0_ (below_step (by repeat (first | (with_reducible first | exact qm_ HB.out | apply qA_ | apply qN_ | apply qD_ | refine below_set ?_ GE915.out | refine below_set ?_ GE916.out | refine below_set ?_ GE925.out | refine below_set ?_ GE936.out | refine below_set ?_ GE943.out | refine below_set ?_ GE950.out) | exact HB.out)) hb); clear BK915; clear BK916; clear BK925; clear BK936; clear BK943; clear BK950; clear HB; have BK915 := n0_; have BK916 := n1_; have BK925 := n2_; have BK936 := n3_; have BK943 := n4_; have BK950 := n5_; have HB := n6_; clear n0_ n1_ n2_ n3_ n4_ n5_ n6_; (try clear hb); (try clear hb2); (try clear hk); (try clear hi)))
              go_ret
              exact ⟨by first | rfl | (simp [errW_none, errW_some] <;> rfl) | (simp [*, errW_none, errW_some] <;> rfl), by repeat (first | (with_reducible first | exact qm_ HB.out | apply qA_ | apply qN_ | apply qD_ | refine below_set ?_ GE915.out | refine below_set ?_ GE916.out | refine below_set ?_ GE925.out | refine below_set ?_ GE936.out | refine below_set ?_ GE943.out | refine below_set ?_ GE950.out) | exact HB.out)⟩
             ·rw [if_neg c208] at H
              have c208b0 : (t954 == 3) = false := beq_eq_false_iff_ne.mpr c208
              have c208b1 : (t954 != 3) = true := bne_iff_ne.mpr c208
              by_cases c218 : t954 = 1
              ·rw [if_pos c218] at H
               have c218b0 : (t954 == 1) = true := beq_iff_eq.mpr c218
               have c218b1 : (t954 != 1) = false := bne_eq_false_iff_eq.mpr c218
               clear c218
               replace H := Option.bind_eq_some_iff.mp H
               obtain ⟨t957, A2190, H⟩ := H
               replace H : (some t957) = some r := H
               have A219 := A0_ A2190
               clear A2190
               obtain rfl := Option.some.inj H
               have hnb220 := NB950_915.out
               have hnc220 := NB915_950.out
               have hnb221 := NB950_916.out
               have hnc221 := NB916_950.out
               have hnb222 := NB950_925.out
               have hnc222 := NB925_950.out
               have hnb223 := NB950_936.out
               have hnc223 := NB936_950.out
               have hnb224 := NB950_943.out
               have hnc224 := NB943_950.out
               have hcz225 := bc4_ BK950.out
               have hfz225 := bf4_ BK950.out
               go_wp2_with (first | ((with_reducible refine gate_callee (f := 12) rfl ?_); refine goesL_ (some 129) rfl rfl Try.func12 (by kernel_rfl) rfl #[.int .u8 a0, .agg #[.int .u64 t944, .int .u64 t945]] rfl (by (try simp only [List.map_toArray, List.map_cons, List.map_nil]); first | done | rfl | (simp only [List.length_drop, List.length_take]; rfl)) ?_; (with_reducible refine (cutplaneref10_Class.calls kj123 a0 t944 t945 t954 _ A195.out).mono ?_); rintro e w226 ⟨rfl, hb⟩; refine ⟨_, rfl, ?_⟩; have n0_ := A0_ (blk_below (bm_ BK915.out) hb); have n1_ := A0_ (blk_below (bm_ BK916.out) hb); have n2_ := A0_ (blk_below (bm_ BK925.out) hb); have n3_ := A0_ (blk_below (bm_ BK936.out) hb); have n4_ := A0_ (blk_below (bm_ BK943.out) hb); have n5_ := A0_ (blk_below (bm_ BK950.out) hb); have n6_ := A0_ (below_step (by repeat (first | (with_reducible first | exact qm_ HB.out | apply qA_ | apply qN_ | apply qD_ | refine below_set ?_ GE915.out | refine below_set ?_ GE916.out | refine below_set ?_ GE925.out | refine below_set ?_ GE936.out | refine below_set ?_ GE943.out | refine below_set ?_ GE950.out) | exact HB.out)) hb); clear BK915; clear BK916; clear BK925; clear BK936; clear BK943; clear BK950; clear HB; have BK915 := n0_; have BK916 := n1_; have BK925 := n2_; have BK936 := n3_; have BK943 := n4_; have BK950 := n5_; have HB := n6_; clear n0_ n1_ n2_ n3_ n4_ n5_ n6_; (try clear hb); (try clear hb2); (try clear hk); (try clear hi)) | (go_at_call 8; (with_reducible refine (cutplanelaw11_known.calls kj123  t957 _ A219.out).mono ?_); rintro e w227 ⟨rfl, hb⟩; have n0_ := A0_ (blk_below (bm_ BK915.out) hb); have n1_ := A0_ (blk_below (bm_ BK916.out) hb); have n2_ := A0_ (blk_below (bm_ BK925.out) hb); have n3_ := A0_ (blk_below (bm_ BK936.out) hb); have n4_ := A0_ (blk_below (bm_ BK943.out) hb); have n5_ := A0_ (blk_below (bm_ BK950.out) hb); have n6_ := A0_ (below_step (by repeat (first | (with_reducible first | exact qm_ HB.out | apply qA_ | apply qN_ | apply qD_ | refine below_set ?_ GE915.out | refine below_set ?_ GE916.out | refine below_set ?_ GE925.out | refine below_set ?_ GE936.out | refine below_set ?_ GE943.out | refine below_set ?_ GE950.out) | exact HB.out)) hb); clear BK915; clear BK916; clear BK925; clear BK936; clear BK943; clear BK950; clear HB; have BK915 := n0_; have BK916 := n1_; have BK925 := n2_; have BK936 := n3_; have BK943 := n4_; have BK950 := n5_; have HB := n6_; clear n0_ n1_ n2_ n3_ n4_ n5_ n6_; (try clear hb); (try clear hb2); (try clear hk); (try clear hi)))
               go_ret
               exact ⟨by first | rfl | (simp [errW_none, errW_some] <;> rfl) | (simp [*, errW_none, errW_some] <;> rfl), by repeat (first | (with_reducible first | exact qm_ HB.out | apply qA_ | apply qN_ | apply qD_ | refine below_set ?_ GE915.out | refine below_set ?_ GE916.out | refine below_set ?_ GE925.out | refine below_set ?_ GE936.out | refine below_set ?_ GE943.out | refine below_set ?_ GE950.out) | exact HB.out)⟩
              ·rw [if_neg c218] at H
               exact absurd H (by simp)
           ·replace c197 := Bool.eq_false_iff.mpr c197
            subst c197
            have H1 : (none) = some r := by rw [if_neg (show ¬ (false = true) by decide)] at H; exact H
            clear H
            have H := H1
            clear H1
            exact absurd H (by simp)
          ·replace c196 := Bool.eq_false_iff.mpr c196
           subst c196
           have H1 : ((cutplaneref10_Class.f kj123 a0 a3_0 a3_1).bind fun t958 => (if t948 = true then (if t958 = 1 then (if t954 = 4 then ((cutplanelaw11_known.f kj123).bind fun t959 => (some t959)) else (if t954 = 3 then ((cutplanelaw11_known.f kj123).bind fun t960 => (some t960)) else (if t954 = 1 then ((cutplanelaw11_known.f kj123).bind fun t961 => (some t961)) else (none)))) else (none)) else (if t958 = 1 then (none) else ((cutplanelaw11_known.f kj123).bind fun t962 => (some t962))))) = some r := by rw [if_neg (show ¬ (false = true) by decide)] at H; exact H
           clear H
           have H := H1
           clear H1
           replace H := Option.bind_eq_some_iff.mp H
           obtain ⟨t958, A2280, H⟩ := H
           replace H : (if t948 = true then (if t958 = 1 then (if t954 = 4 then ((cutplanelaw11_known.f kj123).bind fun t959 => (some t959)) else (if t954 = 3 then ((cutplanelaw11_known.f kj123).bind fun t960 => (some t960)) else (if t954 = 1 then ((cutplanelaw11_known.f kj123).bind fun t961 => (some t961)) else (none)))) else (none)) else (if t958 = 1 then (none) else ((cutplanelaw11_known.f kj123).bind fun t962 => (some t962)))) = some r := H
           have A228 := A0_ A2280
           clear A2280
           by_cases c229 : t948 = true
           ·subst c229
            have H1 : (if t958 = 1 then (if t954 = 4 then ((cutplanelaw11_known.f kj123).bind fun t959 => (some t959)) else (if t954 = 3 then ((cutplanelaw11_known.f kj123).bind fun t960 => (some t960)) else (if t954 = 1 then ((cutplanelaw11_known.f kj123).bind fun t961 => (some t961)) else (none)))) else (none)) = some r := by rw [if_pos rfl] at H; exact H
            clear H
            have H := H1
            clear H1
            by_cases c230 : t958 = 1
            ·rw [if_pos c230] at H
             have c230b0 : (t958 == 1) = true := beq_iff_eq.mpr c230
             have c230b1 : (t958 != 1) = false := bne_eq_false_iff_eq.mpr c230
             clear c230
             by_cases c231 : t954 = 4
             ·rw [if_pos c231] at H
              have c231b0 : (t954 == 4) = true := beq_iff_eq.mpr c231
              have c231b1 : (t954 != 4) = false := bne_eq_false_iff_eq.mpr c231
              clear c231
              replace H := Option.bind_eq_some_iff.mp H
              obtain ⟨t959, A2320, H⟩ := H
              replace H : (some t959) = some r := H
              have A232 := A0_ A2320
              clear A2320
              obtain rfl := Option.some.inj H
              have hnb233 := NB950_915.out
              have hnc233 := NB915_950.out
              have hnb234 := NB950_916.out
              have hnc234 := NB916_950.out
              have hnb235 := NB950_925.out
              have hnc235 := NB925_950.out
              have hnb236 := NB950_936.out
              have hnc236 := NB936_950.out
              have hnb237 := NB950_943.out
              have hnc237 := NB943_950.out
              have hcz238 := bc4_ BK950.out
              have hfz238 := bf4_ BK950.out
              go_wp2_with (first | ((with_reducible refine gate_callee (f := 12) rfl ?_); refine goesL_ (some 129) rfl rfl Try.func12 (by kernel_rfl) rfl #[.int .u8 a0, .agg #[.int .u64 t944, .int .u64 t945]] rfl (by (try simp only [List.map_toArray, List.map_cons, List.map_nil]); first | done | rfl | (simp only [List.length_drop, List.length_take]; rfl)) ?_; (with_reducible refine (cutplaneref10_Class.calls kj123 a0 t944 t945 t954 _ A195.out).mono ?_); rintro e w239 ⟨rfl, hb⟩; refine ⟨_, rfl, ?_⟩; have n0_ := A0_ (blk_below (bm_ BK915.out) hb); have n1_ := A0_ (blk_below (bm_ BK916.out) hb); have n2_ := A0_ (blk_below (bm_ BK925.out) hb); have n3_ := A0_ (blk_below (bm_ BK936.out) hb); have n4_ := A0_ (blk_below (bm_ BK943.out) hb); have n5_ := A0_ (blk_below (bm_ BK950.out) hb); have n6_ := A0_ (below_step (by repeat (first | (with_reducible first | exact qm_ HB.out | apply qA_ | apply qN_ | apply qD_ | refine below_set ?_ GE915.out | refine below_set ?_ GE916.out | refine below_set ?_ GE925.out | refine below_set ?_ GE936.out | refine below_set ?_ GE943.out | refine below_set ?_ GE950.out) | exact HB.out)) hb); clear BK915; clear BK916; clear BK925; clear BK936; clear BK943; clear BK950; clear HB; have BK915 := n0_; have BK916 := n1_; have BK925 := n2_; have BK936 := n3_; have BK943 := n4_; have BK950 := n5_; have HB := n6_; clear n0_ n1_ n2_ n3_ n4_ n5_ n6_; (try clear hb); (try clear hb2); (try clear hk); (try clear hi); have hnb240 := NB916_915.out; have hnc240 := NB915_916.out; have hnb241 := NB916_925.out; have hnc241 := NB925_916.out; have hnb242 := NB916_936.out; have hnc242 := NB936_916.out; have hnb243 := NB916_943.out; have hnc243 := NB943_916.out; have hcz244 := bc2_ BK916.out; have hfz244 := bf2_ BK916.out) | (go_at_call 12; (with_reducible refine (cutplaneref10_Class.calls kj123 a0 a3_0 a3_1 t958 _ A228.out).mono ?_); rintro e w245 ⟨rfl, hb⟩; have n0_ := A0_ (blk_below (bm_ BK915.out) hb); have n1_ := A0_ (blk_below (bm_ BK916.out) hb); have n2_ := A0_ (blk_below (bm_ BK925.out) hb); have n3_ := A0_ (blk_below (bm_ BK936.out) hb); have n4_ := A0_ (blk_below (bm_ BK943.out) hb); have n5_ := A0_ (blk_below (bm_ BK950.out) hb); have n6_ := A0_ (below_step (by repeat (first | (with_reducible first | exact qm_ HB.out | apply qA_ | apply qN_ | apply qD_ | refine below_set ?_ GE915.out | refine below_set ?_ GE916.out | refine below_set ?_ GE925.out | refine below_set ?_ GE936.out | refine below_set ?_ GE943.out | refine below_set ?_ GE950.out) | exact HB.out)) hb); clear BK915; clear BK916; clear BK925; clear BK936; clear BK943; clear BK950; clear HB; have BK915 := n0_; have BK916 := n1_; have BK925 := n2_; have BK936 := n3_; have BK943 := n4_; have BK950 := n5_; have HB := n6_; clear n0_ n1_ n2_ n3_ n4_ n5_ n6_; (try clear hb); (try clear hb2); (try clear hk); (try clear hi)) | (go_at_call 8; (with_reducible refine (cutplanelaw11_known.calls kj123  t959 _ A232.out).mono ?_); rintro e w246 ⟨rfl, hb⟩; have n0_ := A0_ (blk_below (bm_ BK915.out) hb); have n1_ := A0_ (blk_below (bm_ BK916.out) hb); have n2_ := A0_ (blk_below (bm_ BK925.out) hb); have n3_ := A0_ (blk_below (bm_ BK936.out) hb); have n4_ := A0_ (blk_below (bm_ BK943.out) hb); have n5_ := A0_ (blk_below (bm_ BK950.out) hb); have n6_ := A0_ (below_step (by repeat (first | (with_reducible first | exact qm_ HB.out | apply qA_ | apply qN_ | apply qD_ | refine below_set ?_ GE915.out | refine below_set ?_ GE916.out | refine below_set ?_ GE925.out | refine below_set ?_ GE936.out | refine below_set ?_ GE943.out | refine below_set ?_ GE950.out) | exact HB.out)) hb); clear BK915; clear BK916; clear BK925; clear BK936; clear BK943; clear BK950; clear HB; have BK915 := n0_; have BK916 := n1_; have BK925 := n2_; have BK936 := n3_; have BK943 := n4_; have BK950 := n5_; have HB := n6_; clear n0_ n1_ n2_ n3_ n4_ n5_ n6_; (try clear hb); (try clear hb2); (try clear hk); (try clear hi)))
              go_ret
              exact ⟨by first | rfl | (simp [errW_none, errW_some] <;> rfl) | (simp [*, errW_none, errW_some] <;> rfl), by repeat (first | (with_reducible first | exact qm_ HB.out | apply qA_ | apply qN_ | apply qD_ | refine below_set ?_ GE915.out | refine below_set ?_ GE916.out | refine below_set ?_ GE925.out | refine below_set ?_ GE936.out | refine below_set ?_ GE943.out | refine below_set ?_ GE950.out) | exact HB.out)⟩
             ·rw [if_neg c231] at H
              have c231b0 : (t954 == 4) = false := beq_eq_false_iff_ne.mpr c231
              have c231b1 : (t954 != 4) = true := bne_iff_ne.mpr c231
              by_cases c247 : t954 = 3
              ·rw [if_pos c247] at H
               have c247b0 : (t954 == 3) = true := beq_iff_eq.mpr c247
               have c247b1 : (t954 != 3) = false := bne_eq_false_iff_eq.mpr c247
               clear c247
               replace H := Option.bind_eq_some_iff.mp H
               obtain ⟨t960, A2480, H⟩ := H
               replace H : (some t960) = some r := H
               have A248 := A0_ A2480
               clear A2480
               obtain rfl := Option.some.inj H
               have hnb249 := NB950_915.out
               have hnc249 := NB915_950.out
               have hnb250 := NB950_916.out
               have hnc250 := NB916_950.out
               have hnb251 := NB950_925.out
               have hnc251 := NB925_950.out
               have hnb252 := NB950_936.out
               have hnc252 := NB936_950.out
               have hnb253 := NB950_943.out
               have hnc253 := NB943_950.out
               have hcz254 := bc4_ BK950.out
               have hfz254 := bf4_ BK950.out
               go_wp2_with (first | ((with_reducible refine gate_callee (f := 12) rfl ?_); refine goesL_ (some 129) rfl rfl Try.func12 (by kernel_rfl) rfl #[.int .u8 a0, .agg #[.int .u64 t944, .int .u64 t945]] rfl (by (try simp only [List.map_toArray, List.map_cons, List.map_nil]); first | done | rfl | (simp only [List.length_drop, List.length_take]; rfl)) ?_; (with_reducible refine (cutplaneref10_Class.calls kj123 a0 t944 t945 t954 _ A195.out).mono ?_); rintro e w255 ⟨rfl, hb⟩; refine ⟨_, rfl, ?_⟩; have n0_ := A0_ (blk_below (bm_ BK915.out) hb); have n1_ := A0_ (blk_below (bm_ BK916.out) hb); have n2_ := A0_ (blk_below (bm_ BK925.out) hb); have n3_ := A0_ (blk_below (bm_ BK936.out) hb); have n4_ := A0_ (blk_below (bm_ BK943.out) hb); have n5_ := A0_ (blk_below (bm_ BK950.out) hb); have n6_ := A0_ (below_step (by repeat (first | (with_reducible first | exact qm_ HB.out | apply qA_ | apply qN_ | apply qD_ | refine below_set ?_ GE915.out | refine below_set ?_ GE916.out | refine below_set ?_ GE925.out | refine below_set ?_ GE936.out | refine below_set ?_ GE943.out | refine below_set ?_ GE950.out) | exact HB.out)) hb); clear BK915; clear BK916; clear BK925; clear BK936; clear BK943; clear BK950; clear HB; have BK915 := n0_; have BK916 := n1_; have BK925 := n2_; have BK936 := n3_; have BK943 := n4_; have BK950 := n5_; have HB := n6_; clear n0_ n1_ n2_ n3_ n4_ n5_ n6_; (try clear hb); (try clear hb2); (try clear hk); (try clear hi); have hnb256 := NB916_915.out; have hnc256 := NB915_916.out; have hnb257 := NB916_925.out; have hnc257 := NB925_916.out; have hnb258 := NB916_936.out; have hnc258 := NB936_916.out; have hnb259 := NB916_943.out; have hnc259 := NB943_916.out; have hcz260 := bc2_ BK916.out; have hfz260 := bf2_ BK916.out) | (go_at_call 12; (with_reducible refine (cutplaneref10_Class.calls kj123 a0 a3_0 a3_1 t958 _ A228.out).mono ?_); rintro e w261 ⟨rfl, hb⟩; have n0_ := A0_ (blk_below (bm_ BK915.out) hb); have n1_ := A0_ (blk_below (bm_ BK916.out) hb); have n2_ := A0_ (blk_below (bm_ BK925.out) hb); have n3_ := A0_ (blk_below (bm_ BK936.out) hb); have n4_ := A0_ (blk_below (bm_ BK943.out) hb); have n5_ := A0_ (blk_below (bm_ BK950.out) hb); have n6_ := A0_ (below_step (by repeat (first | (with_reducible first | exact qm_ HB.out | apply qA_ | apply qN_ | apply qD_ | refine below_set ?_ GE915.out | refine below_set ?_ GE916.out | refine below_set ?_ GE925.out | refine below_set ?_ GE936.out | refine below_set ?_ GE943.out | refine below_set ?_ GE950.out) | exact HB.out)) hb); clear BK915; clear BK916; clear BK925; clear BK936; clear BK943; clear BK950; clear HB; have BK915 := n0_; have BK916 := n1_; have BK925 := n2_; have BK936 := n3_; have BK943 := n4_; have BK950 := n5_; have HB := n6_; clear n0_ n1_ n2_ n3_ n4_ n5_ n6_; (try clear hb); (try clear hb2); (try clear hk); (try clear hi)) | (go_at_call 8; (with_reducible refine (cutplanelaw11_known.calls kj123  t960 _ A248.out).mono ?_); rintro e w262 ⟨rfl, hb⟩; have n0_ := A0_ (blk_below (bm_ BK915.out) hb); have n1_ := A0_ (blk_below (bm_ BK916.out) hb); have n2_ := A0_ (blk_below (bm_ BK925.out) hb); have n3_ := A0_ (blk_below (bm_ BK936.out) hb); have n4_ := A0_ (blk_below (bm_ BK943.out) hb); have n5_ := A0_ (blk_below (bm_ BK950.out) hb); have n6_ := A0_ (below_step (by repeat (first | (with_reducible first | exact qm_ HB.out | apply qA_ | apply qN_ | apply qD_ | refine below_set ?_ GE915.out | refine below_set ?_ GE916.out | refine below_set ?_ GE925.out | refine below_set ?_ GE936.out | refine below_set ?_ GE943.out | refine below_set ?_ GE950.out) | exact HB.out)) hb); clear BK915; clear BK916; clear BK925; clear BK936; clear BK943; clear BK950; clear HB; have BK915 := n0_; have BK916 := n1_; have BK925 := n2_; have BK936 := n3_; have BK943 := n4_; have BK950 := n5_; have HB := n6_; clear n0_ n1_ n2_ n3_ n4_ n5_ n6_; (try clear hb); (try clear hb2); (try clear hk); (try clear hi)))
               go_ret
               exact ⟨by first | rfl | (simp [errW_none, errW_some] <;> rfl) | (simp [*, errW_none, errW_some] <;> rfl), by repeat (first | (with_reducible first | exact qm_ HB.out | apply qA_ | apply qN_ | apply qD_ | refine below_set ?_ GE915.out | refine below_set ?_ GE916.out | refine below_set ?_ GE925.out | refine below_set ?_ GE936.out | refine below_set ?_ GE943.out | refine below_set ?_ GE950.out) | exact HB.out)⟩
              ·rw [if_neg c247] at H
               have c247b0 : (t954 == 3) = false := beq_eq_false_iff_ne.mpr c247
               have c247b1 : (t954 != 3) = true := bne_iff_ne.mpr c247
               by_cases c263 : t954 = 1
               ·rw [if_pos c263] at H
                have c263b0 : (t954 == 1) = true := beq_iff_eq.mpr c263
                have c263b1 : (t954 != 1) = false := bne_eq_false_iff_eq.mpr c263
                clear c263
                replace H := Option.bind_eq_some_iff.mp H
                obtain ⟨t961, A2640, H⟩ := H
                replace H : (some t961) = some r := H
                have A264 := A0_ A2640
                clear A2640
                obtain rfl := Option.some.inj H
                have hnb265 := NB950_915.out
                have hnc265 := NB915_950.out
                have hnb266 := NB950_916.out
                have hnc266 := NB916_950.out
                have hnb267 := NB950_925.out
                have hnc267 := NB925_950.out
                have hnb268 := NB950_936.out
                have hnc268 := NB936_950.out
                have hnb269 := NB950_943.out
                have hnc269 := NB943_950.out
                have hcz270 := bc4_ BK950.out
                have hfz270 := bf4_ BK950.out
                go_wp2_with (first | ((with_reducible refine gate_callee (f := 12) rfl ?_); refine goesL_ (some 129) rfl rfl Try.func12 (by kernel_rfl) rfl #[.int .u8 a0, .agg #[.int .u64 t944, .int .u64 t945]] rfl (by (try simp only [List.map_toArray, List.map_cons, List.map_nil]); first | done | rfl | (simp only [List.length_drop, List.length_take]; rfl)) ?_; (with_reducible refine (cutplaneref10_Class.calls kj123 a0 t944 t945 t954 _ A195.out).mono ?_); rintro e w271 ⟨rfl, hb⟩; refine ⟨_, rfl, ?_⟩; have n0_ := A0_ (blk_below (bm_ BK915.out) hb); have n1_ := A0_ (blk_below (bm_ BK916.out) hb); have n2_ := A0_ (blk_below (bm_ BK925.out) hb); have n3_ := A0_ (blk_below (bm_ BK936.out) hb); have n4_ := A0_ (blk_below (bm_ BK943.out) hb); have n5_ := A0_ (blk_below (bm_ BK950.out) hb); have n6_ := A0_ (below_step (by repeat (first | (with_reducible first | exact qm_ HB.out | apply qA_ | apply qN_ | apply qD_ | refine below_set ?_ GE915.out | refine below_set ?_ GE916.out | refine below_set ?_ GE925.out | refine below_set ?_ GE936.out | refine below_set ?_ GE943.out | refine below_set ?_ GE950.out) | exact HB.out)) hb); clear BK915; clear BK916; clear BK925; clear BK936; clear BK943; clear BK950; clear HB; have BK915 := n0_; have BK916 := n1_; have BK925 := n2_; have BK936 := n3_; have BK943 := n4_; have BK950 := n5_; have HB := n6_; clear n0_ n1_ n2_ n3_ n4_ n5_ n6_; (try clear hb); (try clear hb2); (try clear hk); (try clear hi); have hnb272 := NB916_915.out; have hnc272 := NB915_916.out; have hnb273 := NB916_925.out; have hnc273 := NB925_916.out; have hnb274 := NB916_936.out; have hnc274 := NB936_916.out; have hnb275 := NB916_943.out; have hnc275 := NB943_916.out; have hcz276 := bc2_ BK916.out; have hfz276 := bf2_ BK916.out) | (go_at_call 12; (with_reducible refine (cutplaneref10_Class.calls kj123 a0 a3_0 a3_1 t958 _ A228.out).mono ?_); rintro e w277 ⟨rfl, hb⟩; have n0_ := A0_ (blk_below (bm_ BK915.out) hb); have n1_ := A0_ (blk_below (bm_ BK916.out) hb); have n2_ := A0_ (blk_below (bm_ BK925.out) hb); have n3_ := A0_ (blk_below (bm_ BK936.out) hb); have n4_ := A0_ (blk_below (bm_ BK943.out) hb); have n5_ := A0_ (blk_below (bm_ BK950.out) hb); have n6_ := A0_ (below_step (by repeat (first | (with_reducible first | exact qm_ HB.out | apply qA_ | apply qN_ | apply qD_ | refine below_set ?_ GE915.out | refine below_set ?_ GE916.out | refine below_set ?_ GE925.out | refine below_set ?_ GE936.out | refine below_set ?_ GE943.out | refine below_set ?_ GE950.out) | exact HB.out)) hb); clear BK915; clear BK916; clear BK925; clear BK936; clear BK943; clear BK950; clear HB; have BK915 := n0_; have BK916 := n1_; have BK925 := n2_; have BK936 := n3_; have BK943 := n4_; have BK950 := n5_; have HB := n6_; clear n0_ n1_ n2_ n3_ n4_ n5_ n6_; (try clear hb); (try clear hb2); (try clear hk); (try clear hi)) | (go_at_call 8; (with_reducible refine (cutplanelaw11_known.calls kj123  t961 _ A264.out).mono ?_); rintro e w278 ⟨rfl, hb⟩; have n0_ := A0_ (blk_below (bm_ BK915.out) hb); have n1_ := A0_ (blk_below (bm_ BK916.out) hb); have n2_ := A0_ (blk_below (bm_ BK925.out) hb); have n3_ := A0_ (blk_below (bm_ BK936.out) hb); have n4_ := A0_ (blk_below (bm_ BK943.out) hb); have n5_ := A0_ (blk_below (bm_ BK950.out) hb); have n6_ := A0_ (below_step (by repeat (first | (with_reducible first | exact qm_ HB.out | apply qA_ | apply qN_ | apply qD_ | refine below_set ?_ GE915.out | refine below_set ?_ GE916.out | refine below_set ?_ GE925.out | refine below_set ?_ GE936.out | refine below_set ?_ GE943.out | refine below_set ?_ GE950.out) | exact HB.out)) hb); clear BK915; clear BK916; clear BK925; clear BK936; clear BK943; clear BK950; clear HB; have BK915 := n0_; have BK916 := n1_; have BK925 := n2_; have BK936 := n3_; have BK943 := n4_; have BK950 := n5_; have HB := n6_; clear n0_ n1_ n2_ n3_ n4_ n5_ n6_; (try clear hb); (try clear hb2); (try clear hk); (try clear hi)))
                go_ret
                exact ⟨by first | rfl | (simp [errW_none, errW_some] <;> rfl) | (simp [*, errW_none, errW_some] <;> rfl), by repeat (first | (with_reducible first | exact qm_ HB.out | apply qA_ | apply qN_ | apply qD_ | refine below_set ?_ GE915.out | refine below_set ?_ GE916.out | refine below_set ?_ GE925.out | refine below_set ?_ GE936.out | refine below_set ?_ GE943.out | refine below_set ?_ GE950.out) | exact HB.out)⟩
               ·rw [if_neg c263] at H
                exact absurd H (by simp)
            ·rw [if_neg c230] at H
             exact absurd H (by simp)
           ·replace c229 := Bool.eq_false_iff.mpr c229
            subst c229
            have H1 : (if t958 = 1 then (none) else ((cutplanelaw11_known.f kj123).bind fun t962 => (some t962))) = some r := by rw [if_neg (show ¬ (false = true) by decide)] at H; exact H
            clear H
            have H := H1
            clear H1
            by_cases c279 : t958 = 1
            ·rw [if_pos c279] at H
             exact absurd H (by simp)
            ·rw [if_neg c279] at H
             have c279b0 : (t958 == 1) = false := beq_eq_false_iff_ne.mpr c279
             have c279b1 : (t958 != 1) = true := bne_iff_ne.mpr c279
             replace H := Option.bind_eq_some_iff.mp H
             obtain ⟨t962, A2800, H⟩ := H
             replace H : (some t962) = some r := H
             have A280 := A0_ A2800
             clear A2800
             obtain rfl := Option.some.inj H
             have hnb281 := NB950_915.out
             have hnc281 := NB915_950.out
             have hnb282 := NB950_916.out
             have hnc282 := NB916_950.out
             have hnb283 := NB950_925.out
             have hnc283 := NB925_950.out
             have hnb284 := NB950_936.out
             have hnc284 := NB936_950.out
             have hnb285 := NB950_943.out
             have hnc285 := NB943_950.out
             have hcz286 := bc4_ BK950.out
             have hfz286 := bf4_ BK950.out
             go_wp2_with (first | ((with_reducible refine gate_callee (f := 12) rfl ?_); refine goesL_ (some 129) rfl rfl Try.func12 (by kernel_rfl) rfl #[.int .u8 a0, .agg #[.int .u64 t944, .int .u64 t945]] rfl (by (try simp only [List.map_toArray, List.map_cons, List.map_nil]); first | done | rfl | (simp only [List.length_drop, List.length_take]; rfl)) ?_; (with_reducible refine (cutplaneref10_Class.calls kj123 a0 t944 t945 t954 _ A195.out).mono ?_); rintro e w287 ⟨rfl, hb⟩; refine ⟨_, rfl, ?_⟩; have n0_ := A0_ (blk_below (bm_ BK915.out) hb); have n1_ := A0_ (blk_below (bm_ BK916.out) hb); have n2_ := A0_ (blk_below (bm_ BK925.out) hb); have n3_ := A0_ (blk_below (bm_ BK936.out) hb); have n4_ := A0_ (blk_below (bm_ BK943.out) hb); have n5_ := A0_ (blk_below (bm_ BK950.out) hb); have n6_ := A0_ (below_step (by repeat (first | (with_reducible first | exact qm_ HB.out | apply qA_ | apply qN_ | apply qD_ | refine below_set ?_ GE915.out | refine below_set ?_ GE916.out | refine below_set ?_ GE925.out | refine below_set ?_ GE936.out | refine below_set ?_ GE943.out | refine below_set ?_ GE950.out) | exact HB.out)) hb); clear BK915; clear BK916; clear BK925; clear BK936; clear BK943; clear BK950; clear HB; have BK915 := n0_; have BK916 := n1_; have BK925 := n2_; have BK936 := n3_; have BK943 := n4_; have BK950 := n5_; have HB := n6_; clear n0_ n1_ n2_ n3_ n4_ n5_ n6_; (try clear hb); (try clear hb2); (try clear hk); (try clear hi); have hnb288 := NB916_915.out; have hnc288 := NB915_916.out; have hnb289 := NB916_925.out; have hnc289 := NB925_916.out; have hnb290 := NB916_936.out; have hnc290 := NB936_916.out; have hnb291 := NB916_943.out; have hnc291 := NB943_916.out; have hcz292 := bc2_ BK916.out; have hfz292 := bf2_ BK916.out) | (go_at_call 12; (with_reducible refine (cutplaneref10_Class.calls kj123 a0 a3_0 a3_1 t958 _ A228.out).mono ?_); rintro e w293 ⟨rfl, hb⟩; have n0_ := A0_ (blk_below (bm_ BK915.out) hb); have n1_ := A0_ (blk_below (bm_ BK916.out) hb); have n2_ := A0_ (blk_below (bm_ BK925.out) hb); have n3_ := A0_ (blk_below (bm_ BK936.out) hb); have n4_ := A0_ (blk_below (bm_ BK943.out) hb); have n5_ := A0_ (blk_below (bm_ BK950.out) hb); have n6_ := A0_ (below_step (by repeat (first | (with_reducible first | exact qm_ HB.out | apply qA_ | apply qN_ | apply qD_ | refine below_set ?_ GE915.out | refine below_set ?_ GE916.out | refine below_set ?_ GE925.out | refine below_set ?_ GE936.out | refine below_set ?_ GE943.out | refine below_set ?_ GE950.out) | exact HB.out)) hb); clear BK915; clear BK916; clear BK925; clear BK936; clear BK943; clear BK950; clear HB; have BK915 := n0_; have BK916 := n1_; have BK925 := n2_; have BK936 := n3_; have BK943 := n4_; have BK950 := n5_; have HB := n6_; clear n0_ n1_ n2_ n3_ n4_ n5_ n6_; (try clear hb); (try clear hb2); (try clear hk); (try clear hi)) | (go_at_call 8; (with_reducible refine (cutplanelaw11_known.calls kj123  t962 _ A280.out).mono ?_); rintro e w294 ⟨rfl, hb⟩; have n0_ := A0_ (blk_below (bm_ BK915.out) hb); have n1_ := A0_ (blk_below (bm_ BK916.out) hb); have n2_ := A0_ (blk_below (bm_ BK925.out) hb); have n3_ := A0_ (blk_below (bm_ BK936.out) hb); have n4_ := A0_ (blk_below (bm_ BK943.out) hb); have n5_ := A0_ (blk_below (bm_ BK950.out) hb); have n6_ := A0_ (below_step (by repeat (first | (with_reducible first | exact qm_ HB.out | apply qA_ | apply qN_ | apply qD_ | refine below_set ?_ GE915.out | refine below_set ?_ GE916.out | refine below_set ?_ GE925.out | refine below_set ?_ GE936.out | refine below_set ?_ GE943.out | refine below_set ?_ GE950.out) | exact HB.out)) hb); clear BK915; clear BK916; clear BK925; clear BK936; clear BK943; clear BK950; clear HB; have BK915 := n0_; have BK916 := n1_; have BK925 := n2_; have BK936 := n3_; have BK943 := n4_; have BK950 := n5_; have HB := n6_; clear n0_ n1_ n2_ n3_ n4_ n5_ n6_; (try clear hb); (try clear hb2); (try clear hk); (try clear hi)))
             go_ret
             exact ⟨by first | rfl | (simp [errW_none, errW_some] <;> rfl) | (simp [*, errW_none, errW_some] <;> rfl), by repeat (first | (with_reducible first | exact qm_ HB.out | apply qA_ | apply qN_ | apply qD_ | refine below_set ?_ GE915.out | refine below_set ?_ GE916.out | refine below_set ?_ GE925.out | refine below_set ?_ GE936.out | refine below_set ?_ GE943.out | refine below_set ?_ GE950.out) | exact HB.out)⟩
 ·rw [if_neg c6] at H
  have c6b0 : (t920 == 0) = false := beq_eq_false_iff_ne.mpr c6
  have c6b1 : (t920 != 0) = true := bne_iff_ne.mpr c6
  replace H := Option.bind_eq_some_iff.mp H
  obtain ⟨t921, A2950, H⟩ := H
  replace H : (some t921) = some r := H
  have A295 := A0_ A2950
  clear A2950
  obtain rfl := Option.some.inj H
  go_enter Try.func5, Try.ntmps5
  go_wp2_with (first | ((with_reducible refine gate_dst (N := 6) rfl ?_); refine box_event ?hg (N := 6) ?hd (cs := #[.int .u64 a2_0, .int .u64 a2_1]) (t := 26) ?hr ?_; (case hd => rfl); (case hg => rfl); (case hr => first | (go_simp; done) | (go_simp; rfl)); intro gb915 hg w296 hbox hb; have n0_ := A0_ (below_step (qm_ HB.out) hb); have n1_ := A0_ (hbox); have n2_ := A0_ ((by rw [hg]; exact (below_size (qm_ HB.out)) : w.heap.size ≤ gb915)); have n3_ := A0_ ((by rw [hg]; exact (below_size (qm_ HB.out)) : w.heap.size ≤ gb915)); clear HB; have HB := n0_; have BK915 := n1_; have GW915 := n2_; have GE915 := n3_; clear n0_ n1_ n2_ n3_; clear hb hbox hg) | ((with_reducible refine gate_dst (N := 7) rfl ?_); refine box_event ?hg (N := 7) ?hd (cs := #[.int .u64 a3_0, .int .u64 a3_1]) (t := 26) ?hr ?_; (case hd => rfl); (case hg => rfl); (case hr => first | (go_simp; done) | (go_simp; rfl)); intro gb916 hg w297 hbox hb; have n0_ := A0_ (blk_below (bm_ BK915.out) hb); have n1_ := A0_ (below_step (by repeat (first | (with_reducible first | exact qm_ HB.out | apply qA_ | apply qN_ | apply qD_ | refine below_set ?_ GE915.out) | exact HB.out)) hb); have n2_ := A0_ (hbox); have n3_ := A0_ ((by rw [hg]; exact (below_size (by repeat (first | (with_reducible first | exact qm_ HB.out | apply qA_ | apply qN_ | apply qD_ | refine below_set ?_ GE915.out) | exact HB.out))) : w.heap.size ≤ gb916)); have n4_ := A0_ ((by rw [hg]; exact (below_size (by repeat (first | (with_reducible first | exact qm_ HB.out | apply qA_ | apply qN_ | apply qD_ | refine below_set ?_ GE915.out) | exact HB.out))) : w.heap.size ≤ gb916)); have n5_ := A0_ ((by rw [hg]; exact Nat.ne_of_lt (blk_lt (bm_ BK915.out)) : gb915 ≠ gb916)); have n6_ := A0_ ((by rw [hg]; exact Nat.ne_of_gt (blk_lt (bm_ BK915.out)) : gb916 ≠ gb915)); clear BK915; clear HB; have BK915 := n0_; have HB := n1_; have BK916 := n2_; have GW916 := n3_; have GE916 := n4_; have NB915_916 := n5_; have NB916_915 := n6_; clear n0_ n1_ n2_ n3_ n4_ n5_ n6_; clear hb hbox hg; have hnb298 := NB915_916.out; have hnc298 := NB916_915.out; have hcz299 := bc2_ BK915.out; have hfz299 := bf2_ BK915.out; have hcz300 := bc2_ BK916.out; have hfz300 := bf2_ BK916.out) | ((with_reducible refine gate_dst (N := 28) rfl ?_); refine Kd.R_lit k26 _ 26 ?hg (N := 28) ?hd (xs := ([(⟨a2_0, a2_1⟩ : S26), (⟨a3_0, a3_1⟩ : S26)] : List (S26))) (inner := [.int .u64 a2_0, .int .u64 a2_1, .int .u64 a3_0, .int .u64 a3_1]) (ok := fun _ => True) (okp := fun _ => True) ?hr ?hp (fun _ hk => hk) trivial (Below.refl _ _) (Nat.le_refl _) (by simp) ?_; (case hd => rfl); (case hg => rfl); (case hr => first | (go_simp; done) | (go_simp; rfl)); (case hp => exact (Reps.c2 (show Kd.M k26 _ _ _ (⟨a2_0, a2_1⟩ : S26) [.int .u64 a2_0, .int .u64 a2_1] from (k26_mkM _ _ _ (⟨a2_0, a2_1⟩ : S26) )) (Reps.c2 (show Kd.M k26 _ _ _ (⟨a3_0, a3_1⟩ : S26) [.int .u64 a3_0, .int .u64 a3_1] from (k26_mkM _ _ _ (⟨a3_0, a3_1⟩ : S26) )) (Reps.none _ _)))); intro v918 w301 ho302 hb hg_ hnew_; clear hg_ hnew_; (first | rw [← Ny917.out] at ho302 | (simp only [Int.reduceToNat] at ho302; rw [← Ny917.out] at ho302)); have n0_ := A0_ (Kd.R_lower (Kd.R_newB (Kd.R_newB ho302 (bm_ BK915.out)) (bm_ BK916.out)) (below_size (by repeat (first | (with_reducible first | exact qm_ HB.out | apply qA_ | apply qN_ | apply qD_ | refine below_set ?_ GE915.out | refine below_set ?_ GE916.out) | exact HB.out)))); have n1_ := A0_ (blk_below (bm_ BK915.out) hb); have n2_ := A0_ (blk_below (bm_ BK916.out) hb); have n3_ := A0_ (below_step (by repeat (first | (with_reducible first | exact qm_ HB.out | apply qA_ | apply qN_ | apply qD_ | refine below_set ?_ GE915.out | refine below_set ?_ GE916.out) | exact HB.out)) hb); clear BK915; clear BK916; clear HB; have HO919 := n0_; have BK915 := n1_; have BK916 := n2_; have HB := n3_; clear n0_ n1_ n2_ n3_; clear hb ho302; obtain ⟨Ao303, co303, eo303⟩ := Kd.R_slice HO919.out; subst eo303) | ((with_reducible refine gate_callee (f := 7) rfl ?_); refine goesL_ (some 29) rfl rfl Try.func7 (by kernel_rfl) rfl #[.int .u8 a0, .int .u8 a1, .slice Ao303 y917.length co303] rfl (by (try simp only [List.map_toArray, List.map_cons, List.map_nil]); first | done | rfl | (simp only [List.length_drop, List.length_take]; rfl)) ?_; (with_reducible refine (cutplanelaw11_opens.calls k a0 a1 _ _ y917 t920 _ ?side1 ?side2 A5.out).mono ?_); (case side1 => repeat (first | exact (Kd.R_reads' HO919.out).2.2 | (with_reducible refine Kd.C_alloc ?_ _) | (with_reducible refine Kd.C_drewN ?_ _) | (with_reducible refine Kd.C_drew ?_))); (case side2 => exact (Kd.R_reads' HO919.out).2.1); rintro e w' ⟨rfl, ⟨nd, rfl⟩⟩; refine ⟨_, rfl, ?_⟩) | ((with_reducible refine gate_callee (f := 8) rfl ?_); refine goesL_ (some 31) rfl rfl Try.func8 (by kernel_rfl) rfl #[] rfl (by (try simp only [List.map_toArray, List.map_cons, List.map_nil]); first | done | rfl | (simp only [List.length_drop, List.length_take]; rfl)) ?_; (with_reducible refine (cutplanelaw11_known.calls k  t921 _ A295.out).mono ?_); rintro e w304 ⟨rfl, hb⟩; refine ⟨_, rfl, ?_⟩; have n0_ := A0_ (Kd.R_below (by exact rm_ HO919.out) hb); have n1_ := A0_ (blk_below (bm_ BK915.out) hb); have n2_ := A0_ (blk_below (bm_ BK916.out) hb); have n3_ := A0_ (below_step (by repeat (first | (with_reducible first | exact qm_ HB.out | apply qA_ | apply qN_ | apply qD_ | refine below_set ?_ GE915.out | refine below_set ?_ GE916.out) | exact HB.out)) hb); clear HO919; clear BK915; clear BK916; clear HB; have HO919 := n0_; have BK915 := n1_; have BK916 := n2_; have HB := n3_; clear n0_ n1_ n2_ n3_; (try clear hb); (try clear hb2); (try clear hk); (try clear hi)))
  go_ret
  exact ⟨by first | rfl | (simp [errW_none, errW_some] <;> rfl) | (simp [*, errW_none, errW_some] <;> rfl), by repeat (first | (with_reducible first | exact qm_ HB.out | apply qA_ | apply qN_ | apply qD_ | refine below_set ?_ GE915.out | refine below_set ?_ GE916.out) | exact HB.out)⟩
/-- THE ONE PURE STATEMENT of cutplanelaw11_SpecialKinds: yours. -/
def cutplanelaw11_SpecialKinds.Pure : Prop := ∀ (a0 : Int) (a1 : Int) (a2_0 : Int) (a2_1 : Int) (a3_0 : Int) (a3_1 : Int), (Lit.int .u8 a0).wf = true → (Lit.int .u8 a1).wf = true → (Lit.int .u64 a2_0).wf = true → (Lit.int .u64 a2_1).wf = true → (Lit.int .u64 a3_0).wf = true → (Lit.int .u64 a3_1).wf = true → ∃ k, cutplanelaw11_SpecialKinds.f k a0 a1 a2_0 a2_1 a3_0 a3_1 = some true
theorem cutplanelaw11_SpecialKinds.walk (P : cutplanelaw11_SpecialKinds.Pure) (a0 : Int) (a1 : Int) (a2_0 : Int) (a2_1 : Int) (a3_0 : Int) (a3_1 : Int) (w : World) (w0 : (Lit.int .u8 a0).wf = true) (w1 : (Lit.int .u8 a1).wf = true) (w2_0 : (Lit.int .u64 a2_0).wf = true) (w2_1 : (Lit.int .u64 a2_1).wf = true) (w3_0 : (Lit.int .u64 a3_0).wf = true) (w3_1 : (Lit.int .u64 a3_1).wf = true) :
  Calls Try.prog 5 #[.int .u8 a0, .int .u8 a1, .agg #[.int .u64 a2_0, .int .u64 a2_1], .agg #[.int .u64 a3_0, .int .u64 a3_1]] w fun e w' => e = .returned (.bool true) ∧ Below w.heap.size w w' := by
 obtain ⟨k, h⟩ := P a0 a1 a2_0 a2_1 a3_0 a3_1 w0 w1 w2_0 w2_1 w3_0 w3_1
 refine (cutplanelaw11_SpecialKinds.calls k a0 a1 a2_0 a2_1 a3_0 a3_1 true w h).mono ?_
 rintro e w' ⟨rfl, hd⟩
 exact ⟨rfl, hd⟩
end Go.Proofs.Ytlgapmhjaaajfaa.PA
end
