/- Steps of Go functions that the law CutsSides uses, told as plain Lean functions, each with the proof that its call comes to what it tells; words on memory; plain facts. No condition beyond those that each text names. -/
import Derived.Test.YtgaabjjenlbmhaaProg
import Derived.WalkMore
import Derived.Test.YtgaabjjenlbmhaaSCutsSides0
import Derived.Test.YtgaabjjenlbmhaaSCutsSides1
import Derived.Test.YtgaabjjenlbmhaaSCutsSides2
import Derived.Test.YtgaabjjenlbmhaaSCutsSides3
import Derived.Test.YtgaabjjenlbmhaaSCutsSides4
import Derived.Test.YtgaabjjenlbmhaaSCutsSides5
set_option maxHeartbeats 16000000
set_option maxRecDepth 100000
section
namespace Go.Proofs.Ytgaabjjenlbmhaa.PA
open Go.RowKit Go.Proofs.YtgaabjjenlbmhaaW.PrintWords Go.Proofs.YtgaabjjenlbmhaaW.PrintLast Go.Proofs.YtgaabjjenlbmhaaW.PrintMore
attribute [local go_sem] max2_int min2_int max_two min_two max_three min_three max_four min_four   -- for this text's walks alone
set_option linter.unusedVariables false
set_option linter.unusedSimpArgs false
def cutplaneref01_Of.f (k : Nat) (a0 : Int) : Option (List Int) := (cutplaneref01_Trim.f k (([(a0) % 4294967296, (a0 / 4294967296) % 4294967296] : List Int))).bind fun t623 => (some t623)
theorem cutplaneref01_Of.calls (k : Nat) (a0 : Int) (r : List Int) (w : World) (h : cutplaneref01_Of.f k a0 = some r) :
  Calls Try.prog 106 #[.int .u64 a0] w fun e w' => ∃ v0_ : Value, e = .returned (v0_) ∧ Kd.R (Kd.int .u32) 140 w' w.heap.size (fun _ => True) v0_ r ∧ Below w.heap.size w w' := by
 have HB := A0_ (Below.refl w.heap.size w)
 have H := h
 clear h
 unfold cutplaneref01_Of.f at H
 obtain ⟨y620, hy620⟩ : ∃ y_ : List Int, y_ = (([(a0) % 4294967296, (a0 / 4294967296) % 4294967296] : List Int)) := ⟨_, rfl⟩
 replace H : ((cutplaneref01_Trim.f k y620).bind fun t623 => (some t623)) = some r := by first | (rw [hy620]; with_reducible exact H) | (have H2_ := (Option.bind_some _ _).symm.trans H; rw [hy620]; with_reducible exact H2_) | (have H2_ := (Option.bind_some _ _).symm.trans H; with_reducible exact H2_) | with_reducible exact H | (rw [hy620]; exact H) | exact H
 have Ny620 := A0_ hy620
 clear hy620
 obtain ⟨t623, A2, H⟩ := bs_ H
 try dsimp -simprocs only at H
 obtain rfl := Option.some.inj H
 go_enter Try.func106, Try.ntmps106
 go_wp2_with (first | ((with_reducible refine gate_dst (N := 8) rfl ?_); refine Kd.R_lit (Kd.int .u32) _ 140 ?hg (N := 8) ?hd (xs := ([(a0) % 4294967296, (a0 / 4294967296) % 4294967296] : List Int)) (inner := [.int .u32 ((a0) % 4294967296), .int .u32 ((a0 / 4294967296) % 4294967296)]) (ok := fun _ => True) (okp := fun _ => True) ?hr ?hp (fun _ hk => hk) trivial (Below.refl _ _) (Nat.le_refl _) (by simp) ?_; (case hd => rfl); (case hg => rfl); (case hr => first | (go_simp; done) | (go_simp; rfl)); (case hp => exact (Reps.one (show Kd.M (Kd.int .u32) _ _ _ ((a0) % 4294967296) [.int .u32 ((a0) % 4294967296)] from rfl) (Reps.one (show Kd.M (Kd.int .u32) _ _ _ ((a0 / 4294967296) % 4294967296) [.int .u32 ((a0 / 4294967296) % 4294967296)] from rfl) (Reps.none _ _)))); intro v621 w3 ho4 hb hg_ hnew_; clear hg_ hnew_; (first | rw [← Ny620.out] at ho4 | (simp only [Int.reduceToNat] at ho4; rw [← Ny620.out] at ho4)); have HO622 := A0_ (Kd.R_lower ho4 (below_size (qm_ HB.out))); replace HB := hs_ hb; clear hb ho4; obtain ⟨Ao5, co5, eo5⟩ := Kd.R_slice HO622.out; subst eo5) | ((with_reducible refine gate_callee (f := 116) rfl ?_); refine goesL_ (some 9) rfl rfl Try.func116 (by kernel_rfl) rfl #[.slice Ao5 y620.length co5] rfl (am_ rfl) ?_; (with_reducible refine (cutplaneref01_Trim.calls k (fun k_ => some k_ = (.slice Ao5 y620.length co5 : Value).ownBlock) (.slice Ao5 y620.length co5) y620 t623 w _ ?side1 ?side2 A2.out).mono ?_); (case side1 => repeat with_reducible first | exact HB.out | apply below_alloc | apply pw_below_drewN | apply below_drew1); (case side2 => exact Kd.R_tight rfl HO622.out); rintro e w6 ⟨v624, rfl, ho0, hb, hkp⟩; refine ⟨_, rfl, ?_⟩; have HO625 := A0_ (Kd.R_mono (ok' := fun k_ => True) ho0 (fun k_ hk_ => trivial)); replace HB := A0_ (hb); clear HO622; (try clear hb); (try clear hkp); (try clear ho0)))
 go_ret
 exact ⟨_, by first | rfl | (simp [errW_none, errW_some] <;> rfl) | (simp [*, errW_none, errW_some] <;> rfl), by (with_reducible repeat (first | apply Kd.R_alloc | apply Kd.R_drewN | apply Kd.R_drew)); exact HO625.out, qm_ HB.out⟩
def cutplaneref03_Low.f (a0 : Int) : Option (Int) := if a0 = 1 then (some (-149)) else (some (-1074))
theorem cutplaneref03_Low.calls (a0 : Int) (r : Int) (w : World) (h : cutplaneref03_Low.f a0 = some r) :
  Calls Try.prog 107 #[.int .u8 a0] w fun e w' => e = .returned (.int .i64 r) ∧ Drawn0 w w' := by
 have H := h
 clear h
 unfold cutplaneref03_Low.f at H
 by_cases c2 : a0 = 1
 ·rw [if_pos c2] at H
  have c2b0 : (a0 == 1) = true := beq_iff_eq.mpr c2
  have c2b1 : (a0 != 1) = false := bne_eq_false_iff_eq.mpr c2
  clear c2
  obtain rfl := Option.some.inj H
  go_enter Try.func107, Try.ntmps107
  go_wp2
  go_ret
  exact ⟨by first | rfl | (simp; done) | (simp [*]; done), by repeat (first | exact Drawn0.refl _ | apply Drawn0.step)⟩
 ·rw [if_neg c2] at H
  have c2b0 : (a0 == 1) = false := beq_eq_false_iff_ne.mpr c2
  have c2b1 : (a0 != 1) = true := bne_iff_ne.mpr c2
  obtain rfl := Option.some.inj H
  go_enter Try.func107, Try.ntmps107
  go_wp2
  go_ret
  exact ⟨by first | rfl | (simp; done) | (simp [*]; done), by repeat (first | exact Drawn0.refl _ | apply Drawn0.step)⟩
end Go.Proofs.Ytgaabjjenlbmhaa.PA
end

section
namespace Go.Proofs.Ytgaabjjenlbmhaa.PA
open Go.RowKit Go.Proofs.YtgaabjjenlbmhaaW.PrintWords Go.Proofs.YtgaabjjenlbmhaaW.PrintLast Go.Proofs.YtgaabjjenlbmhaaW.PrintMore
attribute [local go_sem] max2_int min2_int max_two min_two max_three min_three max_four min_four   -- for this text's walks alone
set_option linter.unusedVariables false
set_option linter.unusedSimpArgs false
def cutplaneref03_Value.f (k : Nat) (a0 : Int) (a1 : Int) : Option (Bool × List Int × Int) := (cutplaneref03_Split.f a0 a1).bind fun bt627 => (if bt627.2.1 = 0 then ((cutplaneref01_Of.f k bt627.2.2).bind fun t631 => ((cutplaneref03_Low.f a0).bind fun t634 => ((cutplaneref02_Form.f k bt627.1 t631 t634).bind fun bt635 => (some (bt635.1, bt635.2.1, bt635.2.2))))) else ((cutplaneref03_Frac.f a0).bind fun t640 => (if 0 ≤ t640 then ((cutplaneref01_Of.f k (IntKind.u64.wrap ((shl .u64 1 t640) + bt627.2.2))).bind fun t641 => ((cutplaneref03_Low.f a0).bind fun t644 => ((cutplaneref02_Form.f k bt627.1 t641 (wrap64 ((wrap64 (bt627.2.1 - 1)) + t644))).bind fun bt645 => (some (bt645.1, bt645.2.1, bt645.2.2))))) else (none))))
def cutplaneref03_Value.T3 : Bool × List (List Nat × List Nat) := (true, [([], []), ([0], [0]), ([], []), ([2], [2]), ([3], [3]), ([], []), ([5, 4], [5]), ([1, 4, 6, 6], [1, 4, 6]), ([7, 7, 0, 1, 2, 3, 4, 5, 6, 7], [7])])
def cutplaneref03_Value.B3 : List Nat := [0, 1, 0, 4, 12, 0, 60, 127, 255]
theorem cutplaneref03_Value.tab3 : rtab .any (opsOf Try.f86 3) = cutplaneref03_Value.T3 := by kernel_rfl
theorem cutplaneref03_Value.bits3 : waitsOk cutplaneref03_Value.T3.2 cutplaneref03_Value.B3 = true := by kernel_rfl
def cutplaneref03_Value.T4 : Bool × List (List Nat × List Nat) := (true, [([], []), ([0], [0]), ([], []), ([2], [2]), ([3], [3]), ([], []), ([5], [5]), ([4, 6], [4, 6]), ([7, 3], [7]), ([], []), ([9], [9]), ([10], [10]), ([], []), ([12, 8], [12]), ([11, 13], [11, 13]), ([1, 8, 14, 13], [1, 8, 14]), ([15, 15, 0, 1, 2, 3, 4, 5, 6, 7, 8, 9, 10, 11, 12, 13, 14, 15], [15])])
def cutplaneref03_Value.B4 : List Nat := [0, 1, 0, 4, 12, 0, 32, 124, 252, 0, 512, 1536, 0, 4604, 16380, 32767, 65535]
theorem cutplaneref03_Value.tab4 : rtab .any (opsOf Try.f86 4) = cutplaneref03_Value.T4 := by kernel_rfl
theorem cutplaneref03_Value.bits4 : waitsOk cutplaneref03_Value.T4.2 cutplaneref03_Value.B4 = true := by kernel_rfl
theorem cutplaneref03_Value.calls (k : Nat) (a0 : Int) (a1 : Int) (r1 : Bool) (r2 : List Int) (r3 : Int) (w : World) (h : cutplaneref03_Value.f k a0 a1 = some (r1, r2, r3)) :
  Calls Try.prog 86 #[.int .u8 a0, .int .u64 a1] w fun e w' => ∃ v1_ : Value, e = .returned (.agg #[.bool r1, v1_, .int .i64 r3]) ∧ Kd.R (Kd.int .u32) 140 w' w.heap.size (fun _ => True) v1_ r2 ∧ Below w.heap.size w w' := by
 have hu124 := Try.underlying124
 have hu84 := Try.underlying84
 have HB := A0_ (Below.refl w.heap.size w)
 have H := h
 clear h
 unfold cutplaneref03_Value.f at H
 obtain ⟨⟨t627, t628, t629⟩, A3, H⟩ := bs_ H
 try dsimp -simprocs only at H
 by_cases c4 : t628 = 0
 ·rw [if_pos c4] at H
  have c4b0 : (t628 == 0) = true := beq_iff_eq.mpr c4
  have c4b1 : (t628 != 0) = false := bne_eq_false_iff_eq.mpr c4
  clear c4
  obtain ⟨t631, A5, H⟩ := bs_ H
  try dsimp -simprocs only at H
  obtain ⟨t634, A6, H⟩ := bs_ H
  try dsimp -simprocs only at H
  obtain ⟨⟨t635, t636, t639⟩, A7, H⟩ := bs_ H
  try dsimp -simprocs only at H
  simp only [Option.some.injEq, Prod.mk.injEq] at H
  obtain ⟨rfl, rfl, rfl⟩ := H
  go_enter Try.func86, Try.ntmps86
  try go_wp2_with (first | ((with_reducible refine gate_dst (N := 4) rfl ?_); refine box_event ?hg (N := 4) ?hd (cs := #[.bool false, .slice none 0 0, .int .i64 0]) (t := 124) ?hr ?_; (case hd => rfl); (case hg => rfl); (case hr => first | (go_simp; done) | (go_simp; rfl)); intro gb626 hg w8 hbox hb; have BK626 := A0_ (hbox); have GW626 := A0_ ((by rw [hg]; exact (below_size (qm_ HB.out)) : w.heap.size ≤ gb626)); have GE626 := GW626; replace HB := hs_ hb; clear hb hbox hg) | ((with_reducible refine gate_callee (f := 58) rfl ?_); refine goesL_ (some 8) rfl rfl Try.func58 (by kernel_rfl) rfl #[.int .u8 a0, .int .u64 a1] rfl (am_ rfl) ?_; (with_reducible refine (cutplaneref03_Split.calls a0 a1 t627 t628 t629 _ A3.out).mono ?_); rintro e w9 ⟨rfl, hb⟩; refine ⟨_, rfl, ?_⟩; replace BK626 := bb_ BK626 hb; replace HB := hs_ hb; (try clear hb)) | ((with_reducible refine gate_dst (N := 5) rfl ?_); refine box_event ?hg (N := 5) ?hd (cs := #[.bool false, .int .i64 0, .int .u64 0]) (t := 84) ?hr ?_; (case hd => rfl); (case hg => rfl); (case hr => first | (go_simp; done) | (go_simp; rfl)); intro gb630 hg w10 hbox hb; have BK630 := A0_ (hbox); have GW630 := A0_ ((by rw [hg]; exact (below_size qz_) : w.heap.size ≤ gb630)); have GE630 := GW630; replace HB := hs_ hb; have NB626_630 := nl_ hg BK626; have NB630_626 := ng_ hg BK626; replace BK626 := bb_ BK626 hb; clear hb hbox hg; have hnb11 := NB630_626.out; have hnc11 := NB626_630.out; have hcz12 := bc3_ BK630.out; have hfz12 := bf3_ BK630.out))
  have n0_ : Aside0 ((((w10.setCell ⟨gb630, 0, none⟩ (.bool t627)).setCell ⟨gb630, 1, none⟩ (.int .i64 t628)).setCell ⟨gb630, 2, none⟩ (.int .u64 t629)).heap[gb626]? = some (.cells #[.bool false, .slice none 0 0, .int .i64 0] 124 (0, 0))) := ⟨by (with_reducible repeat first | apply bN_ | apply bD_ | apply bA_); refine blk_far ?_ NB626_630.out _; refine blk_far ?_ NB626_630.out _; refine blk_far ?_ NB626_630.out _; exact bm_ BK626.out⟩
  have n1_ : Aside0 ((((w10.setCell ⟨gb630, 0, none⟩ (.bool t627)).setCell ⟨gb630, 1, none⟩ (.int .i64 t628)).setCell ⟨gb630, 2, none⟩ (.int .u64 t629)).heap[gb630]? = some (.cells #[.bool t627, .int .i64 t628, .int .u64 t629] 84 (0, 0))) := ⟨by (with_reducible repeat first | apply bN_ | apply bD_ | apply bA_); refine blk_put (cs := #[.bool t627, .int .i64 t628, .int .u64 0]) ?_ 2 _ rfl; refine blk_put (cs := #[.bool t627, .int .i64 0, .int .u64 0]) ?_ 1 _ rfl; refine blk_put (cs := #[.bool false, .int .i64 0, .int .u64 0]) ?_ 0 _ rfl; exact bm_ BK630.out⟩
  have n2_ : Aside0 (Below w.heap.size w (((w10.setCell ⟨gb630, 0, none⟩ (.bool t627)).setCell ⟨gb630, 1, none⟩ (.int .i64 t628)).setCell ⟨gb630, 2, none⟩ (.int .u64 t629))) := ⟨qz_⟩
  (try clear BK626)
  (try clear BK630)
  (try clear HB)
  generalize (((w10.setCell ⟨gb630, 0, none⟩ (.bool t627)).setCell ⟨gb630, 1, none⟩ (.int .i64 t628)).setCell ⟨gb630, 2, none⟩ (.int .u64 t629)) = w13 at n0_ n1_ n2_ ⊢
  have BK626 := n0_
  have BK630 := n1_
  have HB := n2_
  clear n0_ n1_ n2_
  replace BK626 := A0_ (blk_drew BK626.out)
  replace BK630 := A0_ (blk_drew BK630.out)
  replace HB := A0_ (below_drew1 HB.out)
  refine start_ (n := 9) (S := fun w' => w'.cell? ⟨gb630, 0, none⟩ = some (.bool t627) ∧ w'.cell? ⟨gb630, 1, none⟩ = some (.int .i64 t628) ∧ w'.cell? ⟨gb630, 2, none⟩ = some (.int .u64 t629)) (ds := []) #[false, false, false, false, false, false, false, false, false] (by kernel_rfl) rfl rfl ⟨bC_ BK630.out 0, bC_ BK630.out 1, bC_ BK630.out 2⟩ (fun hHeld => ?_); refine with_tabW cutplaneref03_Value.tab3 cutplaneref03_Value.bits3 (fun HT_ HW_ => ?_)
  generalize w13.drew = w14 at BK626 BK630 HB hHeld ⊢
  refine pure_ (i := 0) (N := some 12) (v := ?_) (a' := ?_) #[true, false, false, false, false, false, false, false, false] rfl rfl (any_of HT_.out (by kernel_rfl)) (fun _ _ _ h => h) (Or.inl ⟨by rfl, ?_⟩) ?_ ?_
  rotate_left
  ·intro w'
   go_simp
   with_reducible rfl
  rotate_left
  ·simp only [Act.put, sp_, i64_w, i32_w]
   rfl
  refine pure_ (i := 2) (N := some 14) (v := ?_) (a' := ?_) #[true, false, true, false, false, false, false, false, false] rfl rfl (any_of HT_.out (by kernel_rfl)) (fun _ _ _ h => h) (Or.inl ⟨by rfl, ?_⟩) ?_ ?_
  rotate_left
  ·intro w'
   go_simp
   with_reducible rfl
  rotate_left
  ·simp only [Act.put, sp_, i64_w, i32_w]
   rfl
  refine pure_ (i := 5) (N := some 17) (v := ?_) (a' := ?_) #[true, false, true, false, false, true, false, false, false] rfl rfl (any_of HT_.out (by kernel_rfl)) (fun _ _ _ h => h) (Or.inl ⟨by rfl, ?_⟩) ?_ ?_
  rotate_left
  ·intro w'
   go_simp
   with_reducible rfl
  rotate_left
  ·simp only [Act.put, sp_, i64_w, i32_w]
   rfl
  refine take_ (i := 1) (N := some 13) (v := ?_) (a' := ?_) #[true, true, true, false, false, true, false, false, false] rfl rfl (take_ofW HT_.out HW_.out (by kernel_rfl)) (fun _ _ _ h => h) (Or.inl ⟨by rfl, ?_⟩) hHeld ?_ ?_
  rotate_left
  ·rintro w' ⟨s0, s1, s2⟩
   go_simp
   with_reducible rfl
  rotate_left
  ·simp only [Act.put, sp_, i64_w, i32_w]
   rfl
  refine take_ (i := 3) (N := some 15) (v := ?_) (a' := ?_) #[true, true, true, true, false, true, false, false, false] rfl rfl (take_ofW HT_.out HW_.out (by kernel_rfl)) (fun _ _ _ h => h) (Or.inl ⟨by rfl, ?_⟩) hHeld ?_ ?_
  rotate_left
  ·rintro w' ⟨s0, s1, s2⟩
   go_simp
   with_reducible rfl
  rotate_left
  ·simp only [Act.put, sp_, i64_w, i32_w]
   rfl
  refine one_ (i := 4) (N := some 16) #[true, true, true, true, true, true, false, false, false] rfl rfl (one_of HT_.out (by kernel_rfl)) (by decide) (fun K hK => ?_)
  refine goes_ Try.func106 (by kernel_rfl) rfl #[.int .u64 t629] (by rfl) rfl rfl (am_ rfl) ?_
  with_reducible refine (cutplaneref01_Of.calls k t629 t631 _ A5.out).mono ?_
  rintro e w15 ⟨v632, rfl, ho0, hb⟩
  refine ⟨_, rfl, ?_⟩
  have HO633 := A0_ (Kd.R_lower ho0 (below_size qz_))
  replace BK626 := bb_ BK626 hb
  replace BK630 := bb_ BK630 hb
  replace HB := hs_ hb
  (try clear hb)
  (try clear ho0)
  refine hK.out _ _ ⟨bC_ BK630.out 0, bC_ BK630.out 1, bC_ BK630.out 2⟩ (fun hHeld => ?_)
  clear hK K
  refine norm_ (a' := ?_) ?_ ?_
  rotate_left
  ·show Act.put _ (some 16) _ = _
   simp only [Act.put, sp_, i64_w, i32_w]
   rfl
  refine one_ (i := 6) (N := some 18) #[true, true, true, true, true, true, true, false, false] rfl rfl (one_of HT_.out (by kernel_rfl)) (by decide) (fun K hK => ?_)
  refine goes_ Try.func107 (by kernel_rfl) rfl #[.int .u8 a0] (by rfl) rfl rfl (am_ rfl) ?_
  with_reducible refine (cutplaneref03_Low.calls a0 t634 _ A6.out).mono ?_
  rintro e w' ⟨rfl, ⟨nd, rfl⟩⟩
  refine ⟨_, rfl, ?_⟩
  obtain ⟨Ao16, co16, eo16⟩ := Kd.R_slice HO633.out
  (first | subst eo16 | (injection eo16 with f1_ f2_ f3_; have f4_ := f1_.symm; have f5_ := f3_.symm; clear f1_ f2_ f3_; subst f4_; subst f5_))
  refine hK.out _ _ ⟨bC_ BK630.out 0, bC_ BK630.out 1, bC_ BK630.out 2⟩ (fun hHeld => ?_)
  clear hK K
  refine norm_ (a' := ?_) ?_ ?_
  rotate_left
  ·show Act.put _ (some 18) _ = _
   simp only [Act.put, sp_, i64_w, i32_w]
   rfl
  refine one_ (i := 7) (N := some 19) #[true, true, true, true, true, true, true, true, false] rfl rfl (one_of HT_.out (by kernel_rfl)) (by decide) (fun K hK => ?_)
  refine goes_ Try.func105 (by kernel_rfl) rfl #[.bool t627, .slice Ao16 t631.length co16, .int .i64 t634] (by rfl) rfl rfl (am_ rfl) ?_
  with_reducible refine (cutplaneref02_Form.calls k t627 _ _ t631 t634 t635 t636 t639 _ ?side1 ?side2 A7.out).mono ?_
  (case side1 => repeat (first | exact (Kd.R_reads' HO633.out).2.2 | (with_reducible refine Kd.C_alloc ?_ _) | (with_reducible refine Kd.C_drewN ?_ _) | (with_reducible refine Kd.C_drew ?_)))
  (case side2 => exact (Kd.R_reads' HO633.out).2.1)
  rintro e w17 ⟨v637, rfl, ho0, hb⟩
  refine ⟨_, rfl, ?_⟩
  have HO638 := A0_ (Kd.R_lower (Kd.R_new' ho0 (Kd.R_lt (by exact rm_ HO633.out))) (below_size qz_))
  replace HO633 := A0_ (Kd.R_elder' (by exact rm_ HO633.out) (Kd.R_base ho0) hb)
  replace BK626 := bb_ BK626 hb
  replace BK630 := bb_ BK630 hb
  replace HB := hs_ hb
  (try clear hb)
  (try clear ho0)
  obtain ⟨Ao19, co19, eo19⟩ := Kd.R_slice HO638.out
  (first | subst eo19 | (injection eo19 with f1_ f2_ f3_; have f4_ := f1_.symm; have f5_ := f3_.symm; clear f1_ f2_ f3_; subst f4_; subst f5_))
  refine hK.out _ _ ⟨bC_ BK630.out 0, bC_ BK630.out 1, bC_ BK630.out 2⟩ (fun hHeld => ?_)
  clear hK K
  refine norm_ (a' := ?_) ?_ ?_
  rotate_left
  ·show Act.put _ (some 19) _ = _
   simp only [Act.put, sp_, i64_w, i32_w]
   rfl
  refine one_ (i := 8) (N := none) #[true, true, true, true, true, true, true, true, true] rfl rfl (one_of HT_.out (by kernel_rfl)) (by decide) (fun K hK => ?_)
  have hs18 : w17.cell? ⟨gb626, 0, none⟩ = some (.bool false) := (blk_cell BK626.out 0).trans rfl
  have hfs18 := blk_frozen BK626.out 0
  have hns18_1 := NB630_626.out
  have hms18_1 := NB626_630.out
  have hs20 : w17.cell? ⟨gb626, 1, none⟩ = some (.slice none 0 0) := (blk_cell BK626.out 1).trans rfl
  have hfs20 := blk_frozen BK626.out 1
  have hns20_1 := NB630_626.out
  have hms20_1 := NB626_630.out
  have hs21 : w17.cell? ⟨gb626, 2, none⟩ = some (.int .i64 0) := (blk_cell BK626.out 2).trans rfl
  have hfs21 := blk_frozen BK626.out 2
  have hns21_1 := NB630_626.out
  have hms21_1 := NB626_630.out
  refine skip_ (w1 := ?_) (by rfl) rfl ?_ ?_
  rotate_left
  ·go_simp
   rfl
  refine hK.out _ _ ⟨((cell_far (p := ⟨gb626, _, none⟩) NB630_626.out _).trans (((cell_far (p := ⟨gb626, _, none⟩) NB630_626.out _).trans (((cell_far (p := ⟨gb626, _, none⟩) NB630_626.out _).trans (hHeld.1)))))), ((cell_far (p := ⟨gb626, _, none⟩) NB630_626.out _).trans (((cell_far (p := ⟨gb626, _, none⟩) NB630_626.out _).trans (((cell_far (p := ⟨gb626, _, none⟩) NB630_626.out _).trans (hHeld.2.1)))))), ((cell_far (p := ⟨gb626, _, none⟩) NB630_626.out _).trans (((cell_far (p := ⟨gb626, _, none⟩) NB630_626.out _).trans (((cell_far (p := ⟨gb626, _, none⟩) NB630_626.out _).trans (hHeld.2.2))))))⟩ (fun hHeld => ?_)
  clear hK K
  refine done_ (done_of HT_.out (by kernel_rfl)) ?_
  try go_wp2
  refine bodyPost_ret (results_cell_row rfl _ _ gb626 124 #[.bool t635, .slice Ao19 t636.length co19, .int .i64 t639] (0, 0) _ rfl (by (with_reducible repeat first | apply bN_ | apply bD_ | apply bA_); refine blk_put (cs := #[.bool t635, .slice Ao19 t636.length co19, .int .i64 0]) ?_ 2 _ rfl; refine blk_put (cs := #[.bool t635, .slice none 0 0, .int .i64 0]) ?_ 1 _ rfl; refine blk_put (cs := #[.bool false, .slice none 0 0, .int .i64 0]) ?_ 0 _ rfl; exact bm_ BK626.out) Try.underlying124 rfl (by kernel_rfl)) rfl ?_
  exact ⟨_, by first | rfl | (simp [errW_none, errW_some] <;> rfl) | (simp [*, errW_none, errW_some] <;> rfl), by (with_reducible repeat (first | apply Kd.R_alloc | apply Kd.R_drewN | apply Kd.R_drew)); exact Kd.R_mono (Kd.R_far (p := ⟨gb626, 2, none⟩) (Kd.R_far (p := ⟨gb626, 1, none⟩) (Kd.R_far (p := ⟨gb626, 0, none⟩) (Kd.R_types HO638.out BK626.out (by decide)) (fun _ hk => hk.2) (.bool t635)) (fun _ hk => hk.2) (.slice Ao19 t636.length co19)) (fun _ hk => hk.2) (.int .i64 t639)) (fun _ hk => trivial), qz_⟩
 ·rw [if_neg c4] at H
  have c4b0 : (t628 == 0) = false := beq_eq_false_iff_ne.mpr c4
  have c4b1 : (t628 != 0) = true := bne_iff_ne.mpr c4
  obtain ⟨t640, A22, H⟩ := bs_ H
  try dsimp -simprocs only at H
  obtain ⟨c23, H⟩ := ic_ H
  have c23b0 := eq_true c23
  have c23b1 : decide (0 ≤ t640) = true := decide_eq_true c23
  clear c23
  obtain ⟨ji24, hji24⟩ : ∃ j_ : Int, (shl .u64 1 t640) = j_ := ⟨_, rfl⟩
  replace H : ((cutplaneref01_Of.f k (IntKind.u64.wrap ((ji24) + t629))).bind fun t641 => ((cutplaneref03_Low.f a0).bind fun t644 => ((cutplaneref02_Form.f k t627 t641 (wrap64 ((wrap64 (t628 - 1)) + t644))).bind fun bt645 => (some (bt645.1, bt645.2.1, bt645.2.2))))) = some (r1, r2, r3) := by first | (rw [hji24] at H; exact H) | (simp only [hji24] at H ⊢; exact H)
  (try rw [hji24] at A3)
  (try rw [hji24] at A22)
  have hji24_ : (IntKind.u64.wrap (1 * 2 ^ min t640.toNat 64)) = ji24 := hji24
  have hji24z : t640 ≤ 64 → (IntKind.u64.wrap (1 * 2 ^ t640.toNat)) = ji24 := shl_small hji24
  have hji24u : (IntKind.u64.wrap (2 ^ min t640.toNat 64)) = ji24 := by have h_ := hji24_; rw [Int.one_mul] at h_; exact h_
  have hji24v : t640 ≤ 64 → (IntKind.u64.wrap (2 ^ t640.toNat)) = ji24 := fun hle_ => by have h_ := hji24z hle_; rw [Int.one_mul] at h_; exact h_
  obtain ⟨t641, A25, H⟩ := bs_ H
  try dsimp -simprocs only at H
  obtain ⟨t644, A26, H⟩ := bs_ H
  try dsimp -simprocs only at H
  obtain ⟨⟨t645, t646, t649⟩, A27, H⟩ := bs_ H
  try dsimp -simprocs only at H
  simp only [Option.some.injEq, Prod.mk.injEq] at H
  obtain ⟨rfl, rfl, rfl⟩ := H
  go_enter Try.func86, Try.ntmps86
  try go_wp2_with (first | ((with_reducible refine gate_dst (N := 4) rfl ?_); refine box_event ?hg (N := 4) ?hd (cs := #[.bool false, .slice none 0 0, .int .i64 0]) (t := 124) ?hr ?_; (case hd => rfl); (case hg => rfl); (case hr => first | (go_simp; done) | (go_simp; rfl)); intro gb626 hg w28 hbox hb; have BK626 := A0_ (hbox); have GW626 := A0_ ((by rw [hg]; exact (below_size (qm_ HB.out)) : w.heap.size ≤ gb626)); have GE626 := GW626; replace HB := hs_ hb; clear hb hbox hg) | ((with_reducible refine gate_callee (f := 58) rfl ?_); refine goesL_ (some 8) rfl rfl Try.func58 (by kernel_rfl) rfl #[.int .u8 a0, .int .u64 a1] rfl (am_ rfl) ?_; (with_reducible refine (cutplaneref03_Split.calls a0 a1 t627 t628 t629 _ A3.out).mono ?_); rintro e w29 ⟨rfl, hb⟩; refine ⟨_, rfl, ?_⟩; replace BK626 := bb_ BK626 hb; replace HB := hs_ hb; (try clear hb)) | ((with_reducible refine gate_dst (N := 5) rfl ?_); refine box_event ?hg (N := 5) ?hd (cs := #[.bool false, .int .i64 0, .int .u64 0]) (t := 84) ?hr ?_; (case hd => rfl); (case hg => rfl); (case hr => first | (go_simp; done) | (go_simp; rfl)); intro gb630 hg w30 hbox hb; have BK630 := A0_ (hbox); have GW630 := A0_ ((by rw [hg]; exact (below_size qz_) : w.heap.size ≤ gb630)); have GE630 := GW630; replace HB := hs_ hb; have NB626_630 := nl_ hg BK626; have NB630_626 := ng_ hg BK626; replace BK626 := bb_ BK626 hb; clear hb hbox hg; have hnb31 := NB630_626.out; have hnc31 := NB626_630.out; have hcz32 := bc3_ BK630.out; have hfz32 := bf3_ BK630.out))
  have n0_ : Aside0 ((((w30.setCell ⟨gb630, 0, none⟩ (.bool t627)).setCell ⟨gb630, 1, none⟩ (.int .i64 t628)).setCell ⟨gb630, 2, none⟩ (.int .u64 t629)).heap[gb626]? = some (.cells #[.bool false, .slice none 0 0, .int .i64 0] 124 (0, 0))) := ⟨by (with_reducible repeat first | apply bN_ | apply bD_ | apply bA_); refine blk_far ?_ NB626_630.out _; refine blk_far ?_ NB626_630.out _; refine blk_far ?_ NB626_630.out _; exact bm_ BK626.out⟩
  have n1_ : Aside0 ((((w30.setCell ⟨gb630, 0, none⟩ (.bool t627)).setCell ⟨gb630, 1, none⟩ (.int .i64 t628)).setCell ⟨gb630, 2, none⟩ (.int .u64 t629)).heap[gb630]? = some (.cells #[.bool t627, .int .i64 t628, .int .u64 t629] 84 (0, 0))) := ⟨by (with_reducible repeat first | apply bN_ | apply bD_ | apply bA_); refine blk_put (cs := #[.bool t627, .int .i64 t628, .int .u64 0]) ?_ 2 _ rfl; refine blk_put (cs := #[.bool t627, .int .i64 0, .int .u64 0]) ?_ 1 _ rfl; refine blk_put (cs := #[.bool false, .int .i64 0, .int .u64 0]) ?_ 0 _ rfl; exact bm_ BK630.out⟩
  have n2_ : Aside0 (Below w.heap.size w (((w30.setCell ⟨gb630, 0, none⟩ (.bool t627)).setCell ⟨gb630, 1, none⟩ (.int .i64 t628)).setCell ⟨gb630, 2, none⟩ (.int .u64 t629))) := ⟨qz_⟩
  (try clear BK626)
  (try clear BK630)
  (try clear HB)
  generalize (((w30.setCell ⟨gb630, 0, none⟩ (.bool t627)).setCell ⟨gb630, 1, none⟩ (.int .i64 t628)).setCell ⟨gb630, 2, none⟩ (.int .u64 t629)) = w33 at n0_ n1_ n2_ ⊢
  have BK626 := n0_
  have BK630 := n1_
  have HB := n2_
  clear n0_ n1_ n2_
  replace BK626 := A0_ (blk_drew BK626.out)
  replace BK630 := A0_ (blk_drew BK630.out)
  replace HB := A0_ (below_drew1 HB.out)
  refine start_ (n := 17) (S := fun w' => w'.cell? ⟨gb630, 0, none⟩ = some (.bool t627) ∧ w'.cell? ⟨gb630, 1, none⟩ = some (.int .i64 t628) ∧ w'.cell? ⟨gb630, 2, none⟩ = some (.int .u64 t629)) (ds := []) #[false, false, false, false, false, false, false, false, false, false, false, false, false, false, false, false, false] (by kernel_rfl) rfl rfl ⟨bC_ BK630.out 0, bC_ BK630.out 1, bC_ BK630.out 2⟩ (fun hHeld => ?_); refine with_tabW cutplaneref03_Value.tab4 cutplaneref03_Value.bits4 (fun HT_ HW_ => ?_)
  generalize w33.drew = w34 at BK626 BK630 HB hHeld ⊢
  refine pure_ (i := 0) (N := some 20) (v := ?_) (a' := ?_) #[true, false, false, false, false, false, false, false, false, false, false, false, false, false, false, false, false] rfl rfl (any_of HT_.out (by kernel_rfl)) (fun _ _ _ h => h) (Or.inl ⟨by rfl, ?_⟩) ?_ ?_
  rotate_left
  ·intro w'
   go_simp
   with_reducible rfl
  rotate_left
  ·simp only [Act.put, sp_, i64_w, i32_w]
   rfl
  refine pure_ (i := 2) (N := some 22) (v := ?_) (a' := ?_) #[true, false, true, false, false, false, false, false, false, false, false, false, false, false, false, false, false] rfl rfl (any_of HT_.out (by kernel_rfl)) (fun _ _ _ h => h) (Or.inl ⟨by rfl, ?_⟩) ?_ ?_
  rotate_left
  ·intro w'
   go_simp
   with_reducible rfl
  rotate_left
  ·simp only [Act.put, sp_, i64_w, i32_w]
   rfl
  refine pure_ (i := 5) (N := some 25) (v := ?_) (a' := ?_) #[true, false, true, false, false, true, false, false, false, false, false, false, false, false, false, false, false] rfl rfl (any_of HT_.out (by kernel_rfl)) (fun _ _ _ h => h) (Or.inl ⟨by rfl, ?_⟩) ?_ ?_
  rotate_left
  ·intro w'
   go_simp
   with_reducible rfl
  rotate_left
  ·simp only [Act.put, sp_, i64_w, i32_w]
   rfl
  refine pure_ (i := 9) (N := some 29) (v := ?_) (a' := ?_) #[true, false, true, false, false, true, false, false, false, true, false, false, false, false, false, false, false] rfl rfl (any_of HT_.out (by kernel_rfl)) (fun _ _ _ h => h) (Or.inl ⟨by rfl, ?_⟩) ?_ ?_
  rotate_left
  ·intro w'
   go_simp
   with_reducible rfl
  rotate_left
  ·simp only [Act.put, sp_, i64_w, i32_w]
   rfl
  refine pure_ (i := 12) (N := some 32) (v := ?_) (a' := ?_) #[true, false, true, false, false, true, false, false, false, true, false, false, true, false, false, false, false] rfl rfl (any_of HT_.out (by kernel_rfl)) (fun _ _ _ h => h) (Or.inl ⟨by rfl, ?_⟩) ?_ ?_
  rotate_left
  ·intro w'
   go_simp
   with_reducible rfl
  rotate_left
  ·simp only [Act.put, sp_, i64_w, i32_w]
   rfl
  refine take_ (i := 1) (N := some 21) (v := ?_) (a' := ?_) #[true, true, true, false, false, true, false, false, false, true, false, false, true, false, false, false, false] rfl rfl (take_ofW HT_.out HW_.out (by kernel_rfl)) (fun _ _ _ h => h) (Or.inl ⟨by rfl, ?_⟩) hHeld ?_ ?_
  rotate_left
  ·rintro w' ⟨s0, s1, s2⟩
   go_simp
   with_reducible rfl
  rotate_left
  ·simp only [Act.put, sp_, i64_w, i32_w]
   rfl
  refine take_ (i := 6) (N := some 26) (v := ?_) (a' := ?_) #[true, true, true, false, false, true, true, false, false, true, false, false, true, false, false, false, false] rfl rfl (take_ofW HT_.out HW_.out (by kernel_rfl)) (fun _ _ _ h => h) (Or.inl ⟨by rfl, ?_⟩) hHeld ?_ ?_
  rotate_left
  ·rintro w' ⟨s0, s1, s2⟩
   go_simp
   with_reducible rfl
  rotate_left
  ·simp only [Act.put, sp_, i64_w, i32_w]
   rfl
  refine take_ (i := 10) (N := some 30) (v := ?_) (a' := ?_) #[true, true, true, false, false, true, true, false, false, true, true, false, true, false, false, false, false] rfl rfl (take_ofW HT_.out HW_.out (by kernel_rfl)) (fun _ _ _ h => h) (Or.inl ⟨by rfl, ?_⟩) hHeld ?_ ?_
  rotate_left
  ·rintro w' ⟨s0, s1, s2⟩
   go_simp
   with_reducible rfl
  rotate_left
  ·simp only [Act.put, sp_, i64_w, i32_w]
   rfl
  refine pure_ (i := 11) (N := some 31) (v := ?_) (a' := ?_) #[true, true, true, false, false, true, true, false, false, true, true, true, true, false, false, false, false] rfl rfl (any_of HT_.out (by kernel_rfl)) (fun _ _ _ h => h) (Or.inl ⟨by rfl, ?_⟩) ?_ ?_
  rotate_left
  ·intro w'
   go_simp
   with_reducible rfl
  rotate_left
  ·simp only [Act.put, sp_, i64_w, i32_w]
   rfl
  refine one_ (i := 3) (N := some 23) #[true, true, true, true, false, true, true, false, false, true, true, true, true, false, false, false, false] rfl rfl (one_of HT_.out (by kernel_rfl)) (by decide) (fun K hK => ?_)
  refine goes_ Try.func79 (by kernel_rfl) rfl #[.int .u8 a0] (by rfl) rfl rfl (am_ rfl) ?_
  with_reducible refine (cutplaneref03_Frac.calls a0 t640 _ A22.out).mono ?_
  rintro e w' ⟨rfl, ⟨nd, rfl⟩⟩
  refine ⟨_, rfl, ?_⟩
  refine hK.out _ _ ⟨bC_ BK630.out 0, bC_ BK630.out 1, bC_ BK630.out 2⟩ (fun hHeld => ?_)
  clear hK K
  refine norm_ (a' := ?_) ?_ ?_
  rotate_left
  ·show Act.put _ (some 23) _ = _
   simp only [Act.put, sp_, i64_w, i32_w]
   rfl
  refine pure_ (i := 4) (N := some 24) (v := ?_) (a' := ?_) #[true, true, true, true, true, true, true, false, false, true, true, true, true, false, false, false, false] rfl rfl (any_of HT_.out (by kernel_rfl)) (fun _ _ _ h => h) (Or.inl ⟨by rfl, ?_⟩) ?_ ?_
  rotate_left
  ·intro w'
   go_simp
   with_reducible rfl
  rotate_left
  ·simp only [Act.put, sp_, i64_w, i32_w]
   rfl
  refine pure_ (i := 7) (N := some 27) (v := ?_) (a' := ?_) #[true, true, true, true, true, true, true, true, false, true, true, true, true, false, false, false, false] rfl rfl (any_of HT_.out (by kernel_rfl)) (fun _ _ _ h => h) (Or.inl ⟨by rfl, ?_⟩) ?_ ?_
  rotate_left
  ·intro w'
   go_simp
   with_reducible rfl
  rotate_left
  ·simp only [Act.put, sp_, i64_w, i32_w]
   rfl
  refine one_ (i := 8) (N := some 28) #[true, true, true, true, true, true, true, true, true, true, true, true, true, false, false, false, false] rfl rfl (one_of HT_.out (by kernel_rfl)) (by decide) (fun K hK => ?_)
  refine goes_ Try.func106 (by kernel_rfl) rfl #[.int .u64 (IntKind.u64.wrap ((ji24) + t629))] (by rfl) rfl rfl (by (try simp only [List.map_toArray, List.map_cons, List.map_nil]); first | done | (simp only [hji24]; rfl) | rfl | (simp only [List.length_drop, List.length_take]; rfl)) ?_
  with_reducible refine (cutplaneref01_Of.calls k (IntKind.u64.wrap ((ji24) + t629)) t641 _ A25.out).mono ?_
  rintro e w35 ⟨v642, rfl, ho0, hb⟩
  refine ⟨_, rfl, ?_⟩
  have HO643 := A0_ (Kd.R_lower ho0 (below_size qz_))
  replace BK626 := bb_ BK626 hb
  replace BK630 := bb_ BK630 hb
  replace HB := hs_ hb
  (try clear hb)
  (try clear ho0)
  refine hK.out _ _ ⟨bC_ BK630.out 0, bC_ BK630.out 1, bC_ BK630.out 2⟩ (fun hHeld => ?_)
  clear hK K
  refine norm_ (a' := ?_) ?_ ?_
  rotate_left
  ·show Act.put _ (some 28) _ = _
   simp only [Act.put, sp_, i64_w, i32_w]
   rfl
  refine one_ (i := 13) (N := some 33) #[true, true, true, true, true, true, true, true, true, true, true, true, true, true, false, false, false] rfl rfl (one_of HT_.out (by kernel_rfl)) (by decide) (fun K hK => ?_)
  refine goes_ Try.func107 (by kernel_rfl) rfl #[.int .u8 a0] (by rfl) rfl rfl (am_ rfl) ?_
  with_reducible refine (cutplaneref03_Low.calls a0 t644 _ A26.out).mono ?_
  rintro e w' ⟨rfl, ⟨nd, rfl⟩⟩
  refine ⟨_, rfl, ?_⟩
  obtain ⟨Ao36, co36, eo36⟩ := Kd.R_slice HO643.out
  (first | subst eo36 | (injection eo36 with f1_ f2_ f3_; have f4_ := f1_.symm; have f5_ := f3_.symm; clear f1_ f2_ f3_; subst f4_; subst f5_))
  refine hK.out _ _ ⟨bC_ BK630.out 0, bC_ BK630.out 1, bC_ BK630.out 2⟩ (fun hHeld => ?_)
  clear hK K
  refine norm_ (a' := ?_) ?_ ?_
  rotate_left
  ·show Act.put _ (some 33) _ = _
   simp only [Act.put, sp_, i64_w, i32_w]
   rfl
  refine pure_ (i := 14) (N := some 34) (v := ?_) (a' := ?_) #[true, true, true, true, true, true, true, true, true, true, true, true, true, true, true, false, false] rfl rfl (any_of HT_.out (by kernel_rfl)) (fun _ _ _ h => h) (Or.inl ⟨by rfl, ?_⟩) ?_ ?_
  rotate_left
  ·intro w'
   go_simp
   with_reducible rfl
  rotate_left
  ·simp only [Act.put, sp_, i64_w, i32_w]
   rfl
  refine one_ (i := 15) (N := some 35) #[true, true, true, true, true, true, true, true, true, true, true, true, true, true, true, true, false] rfl rfl (one_of HT_.out (by kernel_rfl)) (by decide) (fun K hK => ?_)
  refine goes_ Try.func105 (by kernel_rfl) rfl #[.bool t627, .slice Ao36 t641.length co36, .int .i64 (wrap64 ((wrap64 (t628 - 1)) + t644))] (by rfl) rfl rfl (am_ rfl) ?_
  with_reducible refine (cutplaneref02_Form.calls k t627 _ _ t641 (wrap64 ((wrap64 (t628 - 1)) + t644)) t645 t646 t649 _ ?side1 ?side2 A27.out).mono ?_
  (case side1 => repeat (first | exact (Kd.R_reads' HO643.out).2.2 | (with_reducible refine Kd.C_alloc ?_ _) | (with_reducible refine Kd.C_drewN ?_ _) | (with_reducible refine Kd.C_drew ?_)))
  (case side2 => exact (Kd.R_reads' HO643.out).2.1)
  rintro e w37 ⟨v647, rfl, ho0, hb⟩
  refine ⟨_, rfl, ?_⟩
  have HO648 := A0_ (Kd.R_lower (Kd.R_new' ho0 (Kd.R_lt (by exact rm_ HO643.out))) (below_size qz_))
  replace HO643 := A0_ (Kd.R_elder' (by exact rm_ HO643.out) (Kd.R_base ho0) hb)
  replace BK626 := bb_ BK626 hb
  replace BK630 := bb_ BK630 hb
  replace HB := hs_ hb
  (try clear hb)
  (try clear ho0)
  obtain ⟨Ao39, co39, eo39⟩ := Kd.R_slice HO648.out
  (first | subst eo39 | (injection eo39 with f1_ f2_ f3_; have f4_ := f1_.symm; have f5_ := f3_.symm; clear f1_ f2_ f3_; subst f4_; subst f5_))
  refine hK.out _ _ ⟨bC_ BK630.out 0, bC_ BK630.out 1, bC_ BK630.out 2⟩ (fun hHeld => ?_)
  clear hK K
  refine norm_ (a' := ?_) ?_ ?_
  rotate_left
  ·show Act.put _ (some 35) _ = _
   simp only [Act.put, sp_, i64_w, i32_w]
   rfl
  refine one_ (i := 16) (N := none) #[true, true, true, true, true, true, true, true, true, true, true, true, true, true, true, true, true] rfl rfl (one_of HT_.out (by kernel_rfl)) (by decide) (fun K hK => ?_)
  have hs38 : w37.cell? ⟨gb626, 0, none⟩ = some (.bool false) := (blk_cell BK626.out 0).trans rfl
  have hfs38 := blk_frozen BK626.out 0
  have hns38_1 := NB630_626.out
  have hms38_1 := NB626_630.out
  have hs40 : w37.cell? ⟨gb626, 1, none⟩ = some (.slice none 0 0) := (blk_cell BK626.out 1).trans rfl
  have hfs40 := blk_frozen BK626.out 1
  have hns40_1 := NB630_626.out
  have hms40_1 := NB626_630.out
  have hs41 : w37.cell? ⟨gb626, 2, none⟩ = some (.int .i64 0) := (blk_cell BK626.out 2).trans rfl
  have hfs41 := blk_frozen BK626.out 2
  have hns41_1 := NB630_626.out
  have hms41_1 := NB626_630.out
  refine skip_ (w1 := ?_) (by rfl) rfl ?_ ?_
  rotate_left
  ·go_simp
   rfl
  refine hK.out _ _ ⟨((cell_far (p := ⟨gb626, _, none⟩) NB630_626.out _).trans (((cell_far (p := ⟨gb626, _, none⟩) NB630_626.out _).trans (((cell_far (p := ⟨gb626, _, none⟩) NB630_626.out _).trans (hHeld.1)))))), ((cell_far (p := ⟨gb626, _, none⟩) NB630_626.out _).trans (((cell_far (p := ⟨gb626, _, none⟩) NB630_626.out _).trans (((cell_far (p := ⟨gb626, _, none⟩) NB630_626.out _).trans (hHeld.2.1)))))), ((cell_far (p := ⟨gb626, _, none⟩) NB630_626.out _).trans (((cell_far (p := ⟨gb626, _, none⟩) NB630_626.out _).trans (((cell_far (p := ⟨gb626, _, none⟩) NB630_626.out _).trans (hHeld.2.2))))))⟩ (fun hHeld => ?_)
  clear hK K
  refine done_ (done_of HT_.out (by kernel_rfl)) ?_
  try go_wp2
  refine bodyPost_ret (results_cell_row rfl _ _ gb626 124 #[.bool t645, .slice Ao39 t646.length co39, .int .i64 t649] (0, 0) _ rfl (by (with_reducible repeat first | apply bN_ | apply bD_ | apply bA_); refine blk_put (cs := #[.bool t645, .slice Ao39 t646.length co39, .int .i64 0]) ?_ 2 _ rfl; refine blk_put (cs := #[.bool t645, .slice none 0 0, .int .i64 0]) ?_ 1 _ rfl; refine blk_put (cs := #[.bool false, .slice none 0 0, .int .i64 0]) ?_ 0 _ rfl; exact bm_ BK626.out) Try.underlying124 rfl (by kernel_rfl)) rfl ?_
  exact ⟨_, by first | rfl | (simp [errW_none, errW_some] <;> rfl) | (simp only [← hji24]; first | rfl | (simp [errW_none, errW_some] <;> rfl)) | (simp [*, errW_none, errW_some] <;> rfl), by (with_reducible repeat (first | apply Kd.R_alloc | apply Kd.R_drewN | apply Kd.R_drew)); exact Kd.R_mono (Kd.R_far (p := ⟨gb626, 2, none⟩) (Kd.R_far (p := ⟨gb626, 1, none⟩) (Kd.R_far (p := ⟨gb626, 0, none⟩) (Kd.R_types HO648.out BK626.out (by decide)) (fun _ hk => hk.2) (.bool t645)) (fun _ hk => hk.2) (.slice Ao39 t646.length co39)) (fun _ hk => hk.2) (.int .i64 t649)) (fun _ hk => trivial), qz_⟩
end Go.Proofs.Ytgaabjjenlbmhaa.PA
end

section
namespace Go.Proofs.Ytgaabjjenlbmhaa.PA
open Go.RowKit Go.Proofs.YtgaabjjenlbmhaaW.PrintWords Go.Proofs.YtgaabjjenlbmhaaW.PrintLast Go.Proofs.YtgaabjjenlbmhaaW.PrintMore
attribute [local go_sem] max2_int min2_int max_two min_two max_three min_three max_four min_four   -- for this text's walks alone
set_option linter.unusedVariables false
set_option linter.unusedSimpArgs false
def cuts_table_1.f (a0_0 : Int) (a0_1 : Int) (a0_2 : Int) (a0_3 : Int) : Option (Int × Int) := some (a0_0, a0_3)
theorem cuts_table_1.calls (a0_0 : Int) (a0_1 : Int) (a0_2 : Int) (a0_3 : Int) (r1 : Int) (r2 : Int) (w : World) (h : cuts_table_1.f a0_0 a0_1 a0_2 a0_3 = some (r1, r2)) :
  Calls Try.prog 90 #[.agg #[.int .i64 a0_0, .int .i64 a0_1, .int .i64 a0_2, .int .i64 a0_3]] w fun e w' => e = .returned (.tuple #[.int .i64 r1, .int .i64 r2]) ∧ Below w.heap.size w w' := by
 have hu96 := Try.underlying96
 have HB := A0_ (Below.refl w.heap.size w)
 have H := h
 clear h
 unfold cuts_table_1.f at H
 simp only [Option.some.injEq, Prod.mk.injEq] at H
 obtain ⟨rfl, rfl⟩ := H
 go_enter Try.func90, Try.ntmps90
 go_wp2_with (first | ((with_reducible refine gate_dst (N := 1) rfl ?_); refine box_event ?hg (N := 1) ?hd (cs := #[.int .i64 a0_0, .int .i64 a0_1, .int .i64 a0_2, .int .i64 a0_3]) (t := 96) ?hr ?_; (case hd => rfl); (case hg => rfl); (case hr => first | (go_simp; done) | (go_simp; rfl)); intro gb685 hg w2 hbox hb; have BK685 := A0_ (hbox); have GW685 := A0_ ((by rw [hg]; exact (below_size (qm_ HB.out)) : w.heap.size ≤ gb685)); have GE685 := GW685; replace HB := hs_ hb; clear hb hbox hg; have hcz3 := bc4_ BK685.out; have hfz3 := bf4_ BK685.out))
 repeat (go_quiet (first | ((with_reducible refine gate_dst (N := 1) rfl ?_); refine box_event ?hg (N := 1) ?hd (cs := #[.int .i64 a0_0, .int .i64 a0_1, .int .i64 a0_2, .int .i64 a0_3]) (t := 96) ?hr ?_; (case hd => rfl); (case hg => rfl); (case hr => first | (go_simp; done) | (go_simp; rfl)); intro gb685 hg w2 hbox hb; have BK685 := A0_ (hbox); have GW685 := A0_ ((by rw [hg]; exact (below_size (qm_ HB.out)) : w.heap.size ≤ gb685)); have GE685 := GW685; replace HB := hs_ hb; clear hb hbox hg; have hcz3 := bc4_ BK685.out; have hfz3 := bf4_ BK685.out)); try go_wp2_with (first | ((with_reducible refine gate_dst (N := 1) rfl ?_); refine box_event ?hg (N := 1) ?hd (cs := #[.int .i64 a0_0, .int .i64 a0_1, .int .i64 a0_2, .int .i64 a0_3]) (t := 96) ?hr ?_; (case hd => rfl); (case hg => rfl); (case hr => first | (go_simp; done) | (go_simp; rfl)); intro gb685 hg w2 hbox hb; have BK685 := A0_ (hbox); have GW685 := A0_ ((by rw [hg]; exact (below_size (qm_ HB.out)) : w.heap.size ≤ gb685)); have GE685 := GW685; replace HB := hs_ hb; clear hb hbox hg; have hcz3 := bc4_ BK685.out; have hfz3 := bf4_ BK685.out)))
 go_ret2
 exact ⟨by first | rfl | (simp [errW_none, errW_some] <;> rfl) | (simp [*, errW_none, errW_some] <;> rfl), qz_⟩
def cuts_table_2.f (a0_0 : Int) (a0_1 : Int) (a0_2 : Int) (a0_3 : Int) : Option (Int × Int) := some (a0_3, a0_0)
theorem cuts_table_2.calls (a0_0 : Int) (a0_1 : Int) (a0_2 : Int) (a0_3 : Int) (r1 : Int) (r2 : Int) (w : World) (h : cuts_table_2.f a0_0 a0_1 a0_2 a0_3 = some (r1, r2)) :
  Calls Try.prog 91 #[.agg #[.int .i64 a0_0, .int .i64 a0_1, .int .i64 a0_2, .int .i64 a0_3]] w fun e w' => e = .returned (.tuple #[.int .i64 r1, .int .i64 r2]) ∧ Below w.heap.size w w' := by
 have hu96 := Try.underlying96
 have HB := A0_ (Below.refl w.heap.size w)
 have H := h
 clear h
 unfold cuts_table_2.f at H
 simp only [Option.some.injEq, Prod.mk.injEq] at H
 obtain ⟨rfl, rfl⟩ := H
 go_enter Try.func91, Try.ntmps91
 go_wp2_with (first | ((with_reducible refine gate_dst (N := 1) rfl ?_); refine box_event ?hg (N := 1) ?hd (cs := #[.int .i64 a0_0, .int .i64 a0_1, .int .i64 a0_2, .int .i64 a0_3]) (t := 96) ?hr ?_; (case hd => rfl); (case hg => rfl); (case hr => first | (go_simp; done) | (go_simp; rfl)); intro gb686 hg w2 hbox hb; have BK686 := A0_ (hbox); have GW686 := A0_ ((by rw [hg]; exact (below_size (qm_ HB.out)) : w.heap.size ≤ gb686)); have GE686 := GW686; replace HB := hs_ hb; clear hb hbox hg; have hcz3 := bc4_ BK686.out; have hfz3 := bf4_ BK686.out))
 repeat (go_quiet (first | ((with_reducible refine gate_dst (N := 1) rfl ?_); refine box_event ?hg (N := 1) ?hd (cs := #[.int .i64 a0_0, .int .i64 a0_1, .int .i64 a0_2, .int .i64 a0_3]) (t := 96) ?hr ?_; (case hd => rfl); (case hg => rfl); (case hr => first | (go_simp; done) | (go_simp; rfl)); intro gb686 hg w2 hbox hb; have BK686 := A0_ (hbox); have GW686 := A0_ ((by rw [hg]; exact (below_size (qm_ HB.out)) : w.heap.size ≤ gb686)); have GE686 := GW686; replace HB := hs_ hb; clear hb hbox hg; have hcz3 := bc4_ BK686.out; have hfz3 := bf4_ BK686.out)); try go_wp2_with (first | ((with_reducible refine gate_dst (N := 1) rfl ?_); refine box_event ?hg (N := 1) ?hd (cs := #[.int .i64 a0_0, .int .i64 a0_1, .int .i64 a0_2, .int .i64 a0_3]) (t := 96) ?hr ?_; (case hd => rfl); (case hg => rfl); (case hr => first | (go_simp; done) | (go_simp; rfl)); intro gb686 hg w2 hbox hb; have BK686 := A0_ (hbox); have GW686 := A0_ ((by rw [hg]; exact (below_size (qm_ HB.out)) : w.heap.size ≤ gb686)); have GE686 := GW686; replace HB := hs_ hb; clear hb hbox hg; have hcz3 := bc4_ BK686.out; have hfz3 := bf4_ BK686.out)))
 go_ret2
 exact ⟨by first | rfl | (simp [errW_none, errW_some] <;> rfl) | (simp [*, errW_none, errW_some] <;> rfl), qz_⟩
def cuts_table_3.f (a0_0 : Int) (a0_1 : Int) (a0_2 : Int) (a0_3 : Int) : Option (Int × Int) := some (0, a0_3)
theorem cuts_table_3.calls (a0_0 : Int) (a0_1 : Int) (a0_2 : Int) (a0_3 : Int) (r1 : Int) (r2 : Int) (w : World) (h : cuts_table_3.f a0_0 a0_1 a0_2 a0_3 = some (r1, r2)) :
  Calls Try.prog 92 #[.agg #[.int .i64 a0_0, .int .i64 a0_1, .int .i64 a0_2, .int .i64 a0_3]] w fun e w' => e = .returned (.tuple #[.int .i64 r1, .int .i64 r2]) ∧ Below w.heap.size w w' := by
 have hu96 := Try.underlying96
 have HB := A0_ (Below.refl w.heap.size w)
 have H := h
 clear h
 unfold cuts_table_3.f at H
 simp only [Option.some.injEq, Prod.mk.injEq] at H
 obtain ⟨rfl, rfl⟩ := H
 go_enter Try.func92, Try.ntmps92
 go_wp2_with (first | ((with_reducible refine gate_dst (N := 1) rfl ?_); refine box_event ?hg (N := 1) ?hd (cs := #[.int .i64 a0_0, .int .i64 a0_1, .int .i64 a0_2, .int .i64 a0_3]) (t := 96) ?hr ?_; (case hd => rfl); (case hg => rfl); (case hr => first | (go_simp; done) | (go_simp; rfl)); intro gb687 hg w2 hbox hb; have BK687 := A0_ (hbox); have GW687 := A0_ ((by rw [hg]; exact (below_size (qm_ HB.out)) : w.heap.size ≤ gb687)); have GE687 := GW687; replace HB := hs_ hb; clear hb hbox hg; have hcz3 := bc4_ BK687.out; have hfz3 := bf4_ BK687.out))
 repeat (go_quiet (first | ((with_reducible refine gate_dst (N := 1) rfl ?_); refine box_event ?hg (N := 1) ?hd (cs := #[.int .i64 a0_0, .int .i64 a0_1, .int .i64 a0_2, .int .i64 a0_3]) (t := 96) ?hr ?_; (case hd => rfl); (case hg => rfl); (case hr => first | (go_simp; done) | (go_simp; rfl)); intro gb687 hg w2 hbox hb; have BK687 := A0_ (hbox); have GW687 := A0_ ((by rw [hg]; exact (below_size (qm_ HB.out)) : w.heap.size ≤ gb687)); have GE687 := GW687; replace HB := hs_ hb; clear hb hbox hg; have hcz3 := bc4_ BK687.out; have hfz3 := bf4_ BK687.out)); try go_wp2_with (first | ((with_reducible refine gate_dst (N := 1) rfl ?_); refine box_event ?hg (N := 1) ?hd (cs := #[.int .i64 a0_0, .int .i64 a0_1, .int .i64 a0_2, .int .i64 a0_3]) (t := 96) ?hr ?_; (case hd => rfl); (case hg => rfl); (case hr => first | (go_simp; done) | (go_simp; rfl)); intro gb687 hg w2 hbox hb; have BK687 := A0_ (hbox); have GW687 := A0_ ((by rw [hg]; exact (below_size (qm_ HB.out)) : w.heap.size ≤ gb687)); have GE687 := GW687; replace HB := hs_ hb; clear hb hbox hg; have hcz3 := bc4_ BK687.out; have hfz3 := bf4_ BK687.out)))
 go_ret2
 exact ⟨by first | rfl | (simp [errW_none, errW_some] <;> rfl) | (simp [*, errW_none, errW_some] <;> rfl), qz_⟩
def cuts_table_4.f (a0_0 : Int) (a0_1 : Int) (a0_2 : Int) (a0_3 : Int) : Option (Int × Int) := some (wrap64 (-a0_2), a0_3)
theorem cuts_table_4.calls (a0_0 : Int) (a0_1 : Int) (a0_2 : Int) (a0_3 : Int) (r1 : Int) (r2 : Int) (w : World) (h : cuts_table_4.f a0_0 a0_1 a0_2 a0_3 = some (r1, r2)) :
  Calls Try.prog 93 #[.agg #[.int .i64 a0_0, .int .i64 a0_1, .int .i64 a0_2, .int .i64 a0_3]] w fun e w' => e = .returned (.tuple #[.int .i64 r1, .int .i64 r2]) ∧ Below w.heap.size w w' := by
 have hu96 := Try.underlying96
 have HB := A0_ (Below.refl w.heap.size w)
 have H := h
 clear h
 unfold cuts_table_4.f at H
 simp only [Option.some.injEq, Prod.mk.injEq] at H
 obtain ⟨rfl, rfl⟩ := H
 go_enter Try.func93, Try.ntmps93
 go_wp2_with (first | ((with_reducible refine gate_dst (N := 1) rfl ?_); refine box_event ?hg (N := 1) ?hd (cs := #[.int .i64 a0_0, .int .i64 a0_1, .int .i64 a0_2, .int .i64 a0_3]) (t := 96) ?hr ?_; (case hd => rfl); (case hg => rfl); (case hr => first | (go_simp; done) | (go_simp; rfl)); intro gb688 hg w2 hbox hb; have BK688 := A0_ (hbox); have GW688 := A0_ ((by rw [hg]; exact (below_size (qm_ HB.out)) : w.heap.size ≤ gb688)); have GE688 := GW688; replace HB := hs_ hb; clear hb hbox hg; have hcz3 := bc4_ BK688.out; have hfz3 := bf4_ BK688.out))
 repeat (go_quiet (first | ((with_reducible refine gate_dst (N := 1) rfl ?_); refine box_event ?hg (N := 1) ?hd (cs := #[.int .i64 a0_0, .int .i64 a0_1, .int .i64 a0_2, .int .i64 a0_3]) (t := 96) ?hr ?_; (case hd => rfl); (case hg => rfl); (case hr => first | (go_simp; done) | (go_simp; rfl)); intro gb688 hg w2 hbox hb; have BK688 := A0_ (hbox); have GW688 := A0_ ((by rw [hg]; exact (below_size (qm_ HB.out)) : w.heap.size ≤ gb688)); have GE688 := GW688; replace HB := hs_ hb; clear hb hbox hg; have hcz3 := bc4_ BK688.out; have hfz3 := bf4_ BK688.out)); try go_wp2_with (first | ((with_reducible refine gate_dst (N := 1) rfl ?_); refine box_event ?hg (N := 1) ?hd (cs := #[.int .i64 a0_0, .int .i64 a0_1, .int .i64 a0_2, .int .i64 a0_3]) (t := 96) ?hr ?_; (case hd => rfl); (case hg => rfl); (case hr => first | (go_simp; done) | (go_simp; rfl)); intro gb688 hg w2 hbox hb; have BK688 := A0_ (hbox); have GW688 := A0_ ((by rw [hg]; exact (below_size (qm_ HB.out)) : w.heap.size ≤ gb688)); have GE688 := GW688; replace HB := hs_ hb; clear hb hbox hg; have hcz3 := bc4_ BK688.out; have hfz3 := bf4_ BK688.out)))
 go_ret2
 exact ⟨by first | rfl | (simp [errW_none, errW_some] <;> rfl) | (simp [*, errW_none, errW_some] <;> rfl), qz_⟩
end Go.Proofs.Ytgaabjjenlbmhaa.PA
end

section
namespace Go.Proofs.Ytgaabjjenlbmhaa.PA
open Go.RowKit Go.Proofs.YtgaabjjenlbmhaaW.PrintWords Go.Proofs.YtgaabjjenlbmhaaW.PrintLast Go.Proofs.YtgaabjjenlbmhaaW.PrintMore
attribute [local go_sem] max2_int min2_int max_two min_two max_three min_three max_four min_four   -- for this text's walks alone
set_option linter.unusedVariables false
set_option linter.unusedSimpArgs false
def cuts_both.f (a0 : Bool) : Option ((List (S54))) := some (([(⟨a0, 1, false⟩ : S54), (⟨a0, (-1), true⟩ : S54)] : List (S54)))
theorem cuts_both.calls (a0 : Bool) (r : List (S54)) (w : World) (h : cuts_both.f a0 = some r) :
  Calls Try.prog 94 #[.bool a0] w fun e w' => ∃ v0_ : Value, e = .returned (v0_) ∧ Kd.R k54 54 w' w.heap.size (fun _ => True) v0_ r ∧ Below w.heap.size w w' := by
 have hu54 := Try.underlying54
 have HB := A0_ (Below.refl w.heap.size w)
 have H := h
 clear h
 unfold cuts_both.f at H
 obtain ⟨y689, hy689⟩ : ∃ y_ : List (S54), y_ = (([(⟨a0, 1, false⟩ : S54), (⟨a0, (-1), true⟩ : S54)] : List (S54))) := ⟨_, rfl⟩
 replace H : (some y689) = some r := by first | (rw [hy689]; with_reducible exact H) | (have H2_ := (Option.bind_some _ _).symm.trans H; rw [hy689]; with_reducible exact H2_) | (have H2_ := (Option.bind_some _ _).symm.trans H; with_reducible exact H2_) | with_reducible exact H | (rw [hy689]; exact H) | exact H
 have Ny689 := A0_ hy689
 clear hy689
 obtain rfl := Option.some.inj H
 go_enter Try.func94, Try.ntmps94
 go_wp2_with (first | ((with_reducible refine gate_dst (N := 7) rfl ?_); refine Kd.R_lit k54 _ 54 ?hg (N := 7) ?hd (xs := ([(⟨a0, 1, false⟩ : S54), (⟨a0, (-1), true⟩ : S54)] : List (S54))) (inner := [.bool a0, .int .i64 1, .bool false, .bool a0, .int .i64 (-1), .bool true]) (ok := fun _ => True) (okp := fun _ => True) ?hr ?hp (fun _ hk => hk) trivial (Below.refl _ _) (Nat.le_refl _) (by simp) ?_; (case hd => rfl); (case hg => rfl); (case hr => first | (go_simp; done) | (go_simp; rfl)); (case hp => exact (Reps.c3 (show Kd.M k54 _ _ _ (⟨a0, 1, false⟩ : S54) [.bool a0, .int .i64 1, .bool false] from (k54_mkM _ _ _ (⟨a0, 1, false⟩ : S54) )) (Reps.c3 (show Kd.M k54 _ _ _ (⟨a0, (-1), true⟩ : S54) [.bool a0, .int .i64 (-1), .bool true] from (k54_mkM _ _ _ (⟨a0, (-1), true⟩ : S54) )) (Reps.none _ _)))); intro v690 w2 ho3 hb hg_ hnew_; clear hg_ hnew_; (first | rw [← Ny689.out] at ho3 | (simp only [Int.reduceToNat] at ho3; rw [← Ny689.out] at ho3)); have HO691 := A0_ (Kd.R_lower ho3 (below_size (qm_ HB.out))); replace HB := hs_ hb; clear hb ho3))
 go_ret
 exact ⟨_, by first | rfl | (simp [errW_none, errW_some] <;> rfl) | (simp [*, errW_none, errW_some] <;> rfl), by (with_reducible repeat (first | apply Kd.R_alloc | apply Kd.R_drewN | apply Kd.R_drew)); exact HO691.out, qm_ HB.out⟩
def cuts_table_5.f (a0_0 : Int) (a0_1 : Int) (a0_2 : Int) (a0_3 : Int) : Option (Int × Int) := some (mx 0 (wrap64 (-a0_0)), wrap64 (-a0_3))
theorem cuts_table_5.calls (a0_0 : Int) (a0_1 : Int) (a0_2 : Int) (a0_3 : Int) (r1 : Int) (r2 : Int) (w : World) (h : cuts_table_5.f a0_0 a0_1 a0_2 a0_3 = some (r1, r2)) :
  Calls Try.prog 95 #[.agg #[.int .i64 a0_0, .int .i64 a0_1, .int .i64 a0_2, .int .i64 a0_3]] w fun e w' => e = .returned (.tuple #[.int .i64 r1, .int .i64 r2]) ∧ Below w.heap.size w w' := by
 have hu96 := Try.underlying96
 have HB := A0_ (Below.refl w.heap.size w)
 have H := h
 clear h
 unfold cuts_table_5.f at H
 obtain ⟨ji2, hji2⟩ : ∃ j_ : Int, (mx 0 (wrap64 (-a0_0))) = j_ := ⟨_, rfl⟩
 replace H : (some (ji2, wrap64 (-a0_3))) = some (r1, r2) := by first | (rw [hji2] at H; exact H) | (simp only [hji2] at H ⊢; exact H)
 (try (have hji2l : 0 ≤ ji2 := by (rw [← hji2]; unfold mx; (repeat' split) <;> omega)))
 (try (have hji2m : 0 ≤ ji2 := by omega))
 have hji2_ : (if 0 < (wrap64 (-a0_0)) then (wrap64 (-a0_0)) else 0) = ji2 := hji2
 simp only [Option.some.injEq, Prod.mk.injEq] at H
 obtain ⟨rfl, rfl⟩ := H
 go_enter Try.func95, Try.ntmps95
 go_wp2_with (first | ((with_reducible refine gate_dst (N := 1) rfl ?_); refine box_event ?hg (N := 1) ?hd (cs := #[.int .i64 a0_0, .int .i64 a0_1, .int .i64 a0_2, .int .i64 a0_3]) (t := 96) ?hr ?_; (case hd => rfl); (case hg => rfl); (case hr => first | (go_simp; done) | (go_simp; rfl)); intro gb692 hg w3 hbox hb; have BK692 := A0_ (hbox); have GW692 := A0_ ((by rw [hg]; exact (below_size (qm_ HB.out)) : w.heap.size ≤ gb692)); have GE692 := GW692; replace HB := hs_ hb; clear hb hbox hg; have hcz4 := bc4_ BK692.out; have hfz4 := bf4_ BK692.out))
 repeat (go_quiet (first | ((with_reducible refine gate_dst (N := 1) rfl ?_); refine box_event ?hg (N := 1) ?hd (cs := #[.int .i64 a0_0, .int .i64 a0_1, .int .i64 a0_2, .int .i64 a0_3]) (t := 96) ?hr ?_; (case hd => rfl); (case hg => rfl); (case hr => first | (go_simp; done) | (go_simp; rfl)); intro gb692 hg w3 hbox hb; have BK692 := A0_ (hbox); have GW692 := A0_ ((by rw [hg]; exact (below_size (qm_ HB.out)) : w.heap.size ≤ gb692)); have GE692 := GW692; replace HB := hs_ hb; clear hb hbox hg; have hcz4 := bc4_ BK692.out; have hfz4 := bf4_ BK692.out)); try go_wp2_with (first | ((with_reducible refine gate_dst (N := 1) rfl ?_); refine box_event ?hg (N := 1) ?hd (cs := #[.int .i64 a0_0, .int .i64 a0_1, .int .i64 a0_2, .int .i64 a0_3]) (t := 96) ?hr ?_; (case hd => rfl); (case hg => rfl); (case hr => first | (go_simp; done) | (go_simp; rfl)); intro gb692 hg w3 hbox hb; have BK692 := A0_ (hbox); have GW692 := A0_ ((by rw [hg]; exact (below_size (qm_ HB.out)) : w.heap.size ≤ gb692)); have GE692 := GW692; replace HB := hs_ hb; clear hb hbox hg; have hcz4 := bc4_ BK692.out; have hfz4 := bf4_ BK692.out)))
 go_ret2
 exact ⟨by first | rfl | (simp [errW_none, errW_some] <;> rfl) | (simp only [← hji2]; first | rfl | (simp [errW_none, errW_some] <;> rfl)) | (simp [*, errW_none, errW_some] <;> rfl), qz_⟩
def cuts_table_6.f (a0_0 : Int) (a0_1 : Int) (a0_2 : Int) (a0_3 : Int) : Option (Int × Int) := some (mx 0 (wrap64 (-a0_2)), a0_3)
theorem cuts_table_6.calls (a0_0 : Int) (a0_1 : Int) (a0_2 : Int) (a0_3 : Int) (r1 : Int) (r2 : Int) (w : World) (h : cuts_table_6.f a0_0 a0_1 a0_2 a0_3 = some (r1, r2)) :
  Calls Try.prog 96 #[.agg #[.int .i64 a0_0, .int .i64 a0_1, .int .i64 a0_2, .int .i64 a0_3]] w fun e w' => e = .returned (.tuple #[.int .i64 r1, .int .i64 r2]) ∧ Below w.heap.size w w' := by
 have hu96 := Try.underlying96
 have HB := A0_ (Below.refl w.heap.size w)
 have H := h
 clear h
 unfold cuts_table_6.f at H
 obtain ⟨ji2, hji2⟩ : ∃ j_ : Int, (mx 0 (wrap64 (-a0_2))) = j_ := ⟨_, rfl⟩
 replace H : (some (ji2, a0_3)) = some (r1, r2) := by first | (rw [hji2] at H; exact H) | (simp only [hji2] at H ⊢; exact H)
 (try (have hji2l : 0 ≤ ji2 := by (rw [← hji2]; unfold mx; (repeat' split) <;> omega)))
 (try (have hji2m : 0 ≤ ji2 := by omega))
 have hji2_ : (if 0 < (wrap64 (-a0_2)) then (wrap64 (-a0_2)) else 0) = ji2 := hji2
 simp only [Option.some.injEq, Prod.mk.injEq] at H
 obtain ⟨rfl, rfl⟩ := H
 go_enter Try.func96, Try.ntmps96
 go_wp2_with (first | ((with_reducible refine gate_dst (N := 1) rfl ?_); refine box_event ?hg (N := 1) ?hd (cs := #[.int .i64 a0_0, .int .i64 a0_1, .int .i64 a0_2, .int .i64 a0_3]) (t := 96) ?hr ?_; (case hd => rfl); (case hg => rfl); (case hr => first | (go_simp; done) | (go_simp; rfl)); intro gb693 hg w3 hbox hb; have BK693 := A0_ (hbox); have GW693 := A0_ ((by rw [hg]; exact (below_size (qm_ HB.out)) : w.heap.size ≤ gb693)); have GE693 := GW693; replace HB := hs_ hb; clear hb hbox hg; have hcz4 := bc4_ BK693.out; have hfz4 := bf4_ BK693.out))
 repeat (go_quiet (first | ((with_reducible refine gate_dst (N := 1) rfl ?_); refine box_event ?hg (N := 1) ?hd (cs := #[.int .i64 a0_0, .int .i64 a0_1, .int .i64 a0_2, .int .i64 a0_3]) (t := 96) ?hr ?_; (case hd => rfl); (case hg => rfl); (case hr => first | (go_simp; done) | (go_simp; rfl)); intro gb693 hg w3 hbox hb; have BK693 := A0_ (hbox); have GW693 := A0_ ((by rw [hg]; exact (below_size (qm_ HB.out)) : w.heap.size ≤ gb693)); have GE693 := GW693; replace HB := hs_ hb; clear hb hbox hg; have hcz4 := bc4_ BK693.out; have hfz4 := bf4_ BK693.out)); try go_wp2_with (first | ((with_reducible refine gate_dst (N := 1) rfl ?_); refine box_event ?hg (N := 1) ?hd (cs := #[.int .i64 a0_0, .int .i64 a0_1, .int .i64 a0_2, .int .i64 a0_3]) (t := 96) ?hr ?_; (case hd => rfl); (case hg => rfl); (case hr => first | (go_simp; done) | (go_simp; rfl)); intro gb693 hg w3 hbox hb; have BK693 := A0_ (hbox); have GW693 := A0_ ((by rw [hg]; exact (below_size (qm_ HB.out)) : w.heap.size ≤ gb693)); have GE693 := GW693; replace HB := hs_ hb; clear hb hbox hg; have hcz4 := bc4_ BK693.out; have hfz4 := bf4_ BK693.out)))
 go_ret2
 exact ⟨by first | rfl | (simp [errW_none, errW_some] <;> rfl) | (simp only [← hji2]; first | rfl | (simp [errW_none, errW_some] <;> rfl)) | (simp [*, errW_none, errW_some] <;> rfl), qz_⟩
end Go.Proofs.Ytgaabjjenlbmhaa.PA
end

section
namespace Go.Proofs.Ytgaabjjenlbmhaa.PA
open Go.RowKit Go.Proofs.YtgaabjjenlbmhaaW.PrintWords Go.Proofs.YtgaabjjenlbmhaaW.PrintLast Go.Proofs.YtgaabjjenlbmhaaW.PrintMore
attribute [local go_sem] max2_int min2_int max_two min_two max_three min_three max_four min_four   -- for this text's walks alone
set_option linter.unusedVariables false
set_option linter.unusedSimpArgs false
theorem run_store_func (P : Program) (w : World) (a : Addr) (m : Mode) (f : Fn) (x y) : (store a (.func f x y) m).run P w = stored P w a (.func f x y) m := run_store P w a _ m rfl
theorem run_store_nilFunc (P : Program) (w : World) (a : Addr) (m : Mode) : (store a .nilFunc m).run P w = stored P w a .nilFunc m := run_store P w a _ m rfl
attribute [local go_sem] run_store_func run_store_nilFunc
theorem ne94 : ∀ q, q ∈ 54 :: k54.E → q ≠ 94 := by
 intro q hq
 cases hq with
 | head => decide
 | tail _ h => cases h
/-- the table of the functions' cuts: their rays -/
def crays (fn : Int) : List S54 := if fn = 1 ∨ fn = 3 then [⟨false, 0, true⟩] else if fn = 10 ∨ fn = 15 ∨ fn = 11 then [⟨false, 1, false⟩, ⟨false, (-1), true⟩] else if fn = 12 ∨ fn = 13 then [⟨true, 1, false⟩, ⟨true, (-1), true⟩] else if fn = 14 then [⟨false, 1, true⟩] else []
def cis (fn : Int) : Bool := decide (1 ≤ fn ∧ fn ≤ 15)
def cpar (fn : Int) : Int := if fn = 4 ∨ fn = 6 ∨ fn = 7 ∨ fn = 9 ∨ fn = 10 ∨ fn = 15 ∨ fn = 12 ∨ fn = 13 then 1 else if fn = 5 ∨ fn = 8 then 2 else 0
/-- which function tells the signs -/
def cno (fn : Int) : Nat := if fn = 1 then 92 else if fn = 3 then 93 else if fn = 11 then 95 else if fn = 12 ∨ fn = 13 then 91 else if fn = 14 then 96 else 90
def csig (fn : Int) : Value := if cis fn then .func (Fn.func (cno fn)) #[] #[] else .nilFunc
def cuts_table.post (a0 : Int) (w : World) (e : Ending) (w' : World) : Prop := ∃ v0_ : Value, e = .returned (.tuple #[.agg #[v0_, .int .u8 (cpar a0), csig a0], .bool (cis a0)]) ∧ Kd.R k54 54 w' w.heap.size (fun _ => True) v0_ (crays a0) ∧ Below w.heap.size w w'
theorem cuts_table.at1 (a0 : Int) (h : a0 = 1) (w : World) : Calls Try.prog 68 #[.int .u8 a0] w fun e w' => cuts_table.post a0 w e w' := by
 have hu54 := Try.underlying54
 have HB := A0_ (Below.refl w.heap.size w)
 subst h
 go_enter Try.func68, Try.ntmps68
 go_wp2_with (first | ((with_reducible refine gate_dst (N := 2) rfl ?_); refine box_event ?hg (N := 2) ?hd (cs := #[.slice none 0 0, .int .u8 0, .nilFunc]) (t := 94) ?hr ?_; (case hd => rfl); (case hg => rfl); (case hr => first | (go_simp; done) | (go_simp; rfl)); intro gb2 hg w2 hbox hb;  have n0_ := A0_ (below_step (qm_ HB.out) hb); have n1_ := A0_ hbox; have n2_ := A0_ ((by rw [hg]; exact (below_size (qm_ HB.out))) : w.heap.size ≤ gb2); clear HB; have HB := n0_; have BK2 := n1_; have GE2 := n2_; clear n0_ n1_ n2_ hb hbox hg) | ((with_reducible refine gate_dst (N := 8) rfl ?_); refine Kd.R_lit k54 _ 54 ?hg (N := 8) ?hd (xs := ([(⟨false, 0, true⟩ : S54)] : List S54)) (inner := [.bool false, .int .i64 0, .bool true]) (ok := fun _ => True) (okp := fun _ => True) ?hr ?hp (fun _ hk => hk) trivial (Below.refl _ _) (Nat.le_refl _) (by simp) ?_; (case hd => rfl); (case hg => rfl); (case hr => first | (go_simp; done) | (go_simp; rfl)); (case hp => exact (Reps.c3 (show Kd.M k54 _ _ _ (⟨false, 0, true⟩ : S54) [.bool false, .int .i64 0, .bool true] from (k54_mkM _ _ _ (⟨false, 0, true⟩ : S54) )) (Reps.none _ _))); intro v_ w8 ho3 hb hg_ hnew_; obtain ⟨ad_, cc_, rfl⟩ := (show ∃ (ad : Addr) (c : Nat), v_ = .slice (some ad) 1 c from Kd.R_slice1 ho3 (by simp)); clear hg_ hnew_; have nb_ := A0_ (blk_below BK2.out hb); clear BK2; have BK2 := nb_; clear nb_; have n0_ := A0_ (Kd.R_lower ho3 (below_size (qm_ HB.out))); have n1_ := A0_ (below_step (qm_ HB.out) hb); clear HB; have HO8 := n0_; have HB := n1_; clear n0_ n1_ hb ho3; have hcza_0 : w8.cell? ⟨gb2, 0, none⟩ = some (.slice none 0 0) := (blk_cell BK2.out 0).trans rfl; have hfza_0 := blk_frozen BK2.out 0; have hcza_1 : w8.cell? ⟨gb2, 1, none⟩ = some (.int .u8 0) := (blk_cell BK2.out 1).trans rfl; have hfza_1 := blk_frozen BK2.out 1; have hcza_2 : w8.cell? ⟨gb2, 2, none⟩ = some (.nilFunc) := (blk_cell BK2.out 2).trans rfl; have hfza_2 := blk_frozen BK2.out 2;))
 refine bodyPost_ret (v := .tuple #[.agg #[.slice (some ad_) 1 cc_, .int .u8 0, .func (Fn.func 92) #[] #[]], .bool true]) ?_ rfl ⟨.slice (some ad_) 1 cc_, ?_, ?_, ?_⟩
 ·have BKf := blk_set (blk_set (blk_set BK2.out 0 (.slice (some ad_) 1 cc_)) 1 (.int .u8 0)) 2 (.func (Fn.func 92) #[] #[])
  generalize ((w8.setCell ⟨gb2, 0, none⟩ (.slice (some ad_) 1 cc_)).setCell ⟨gb2, 1, none⟩ (.int .u8 0)).setCell ⟨gb2, 2, none⟩ (.func (Fn.func 92) #[] #[]) = W at BKf ⊢
  have hc0 : W.cell? ⟨gb2, 0, none⟩ = some (.slice (some ad_) 1 cc_) := (blk_cell BKf 0).trans rfl
  have hc1 : W.cell? ⟨gb2, 1, none⟩ = some (.int .u8 0) := (blk_cell BKf 1).trans rfl
  have hc2 : W.cell? ⟨gb2, 2, none⟩ = some (.func (Fn.func 92) #[] #[]) := (blk_cell BKf 2).trans rfl
  simp [results, Try.results68, go_sem, hc0, hc1, hc2]
 ·rfl
 ·exact Kd.R_set (Kd.R_set (Kd.R_set HO8.out BK2.out ne94 0 _) (blk_set BK2.out 0 _) ne94 1 _) (blk_set (blk_set BK2.out 0 _) 1 _) ne94 2 _
 ·exact below_set (below_set (below_set HB.out GE2.out) GE2.out) GE2.out
theorem cuts_table.at2 (a0 : Int) (h : a0 = 2) (w : World) : Calls Try.prog 68 #[.int .u8 a0] w fun e w' => cuts_table.post a0 w e w' := by
 have hu54 := Try.underlying54
 have HB := A0_ (Below.refl w.heap.size w)
 subst h
 go_enter Try.func68, Try.ntmps68
 go_wp2_with (first | ((with_reducible refine gate_dst (N := 2) rfl ?_); refine box_event ?hg (N := 2) ?hd (cs := #[.slice none 0 0, .int .u8 0, .nilFunc]) (t := 94) ?hr ?_; (case hd => rfl); (case hg => rfl); (case hr => first | (go_simp; done) | (go_simp; rfl)); intro gb2 hg w2 hbox hb;  have n0_ := A0_ (below_step (qm_ HB.out) hb); have n1_ := A0_ hbox; have n2_ := A0_ ((by rw [hg]; exact (below_size (qm_ HB.out))) : w.heap.size ≤ gb2); clear HB; have HB := n0_; have BK2 := n1_; have GE2 := n2_; clear n0_ n1_ n2_ hb hbox hg) | ((with_reducible refine gate_dst (N := 8) rfl ?_); refine Kd.R_lit k54 _ 54 ?hg (N := 8) ?hd (xs := ([(⟨false, 0, true⟩ : S54)] : List S54)) (inner := [.bool false, .int .i64 0, .bool true]) (ok := fun _ => True) (okp := fun _ => True) ?hr ?hp (fun _ hk => hk) trivial (Below.refl _ _) (Nat.le_refl _) (by simp) ?_; (case hd => rfl); (case hg => rfl); (case hr => first | (go_simp; done) | (go_simp; rfl)); (case hp => exact (Reps.c3 (show Kd.M k54 _ _ _ (⟨false, 0, true⟩ : S54) [.bool false, .int .i64 0, .bool true] from (k54_mkM _ _ _ (⟨false, 0, true⟩ : S54) )) (Reps.none _ _))); intro v_ w8 ho3 hb hg_ hnew_; obtain ⟨ad_, cc_, rfl⟩ := (show ∃ (ad : Addr) (c : Nat), v_ = .slice (some ad) 1 c from Kd.R_slice1 ho3 (by simp)); clear hg_ hnew_; have nb_ := A0_ (blk_below BK2.out hb); clear BK2; have BK2 := nb_; clear nb_; have n0_ := A0_ (Kd.R_lower ho3 (below_size (qm_ HB.out))); have n1_ := A0_ (below_step (qm_ HB.out) hb); clear HB; have HO8 := n0_; have HB := n1_; clear n0_ n1_ hb ho3; have hcza_0 : w8.cell? ⟨gb2, 0, none⟩ = some (.slice none 0 0) := (blk_cell BK2.out 0).trans rfl; have hfza_0 := blk_frozen BK2.out 0; have hcza_1 : w8.cell? ⟨gb2, 1, none⟩ = some (.int .u8 0) := (blk_cell BK2.out 1).trans rfl; have hfza_1 := blk_frozen BK2.out 1; have hcza_2 : w8.cell? ⟨gb2, 2, none⟩ = some (.nilFunc) := (blk_cell BK2.out 2).trans rfl; have hfza_2 := blk_frozen BK2.out 2;))
 refine bodyPost_ret (v := .tuple #[.agg #[.slice none 0 0, .int .u8 0, .func (Fn.func 90) #[] #[]], .bool true]) ?_ rfl ⟨.slice none 0 0, ?_, ?_, ?_⟩
 ·have BKf := blk_set (blk_set (blk_set BK2.out 0 (.slice none 0 0)) 1 (.int .u8 0)) 2 (.func (Fn.func 90) #[] #[])
  generalize ((w8.setCell ⟨gb2, 0, none⟩ (.slice none 0 0)).setCell ⟨gb2, 1, none⟩ (.int .u8 0)).setCell ⟨gb2, 2, none⟩ (.func (Fn.func 90) #[] #[]) = W at BKf ⊢
  have hc0 : W.cell? ⟨gb2, 0, none⟩ = some (.slice none 0 0) := (blk_cell BKf 0).trans rfl
  have hc1 : W.cell? ⟨gb2, 1, none⟩ = some (.int .u8 0) := (blk_cell BKf 1).trans rfl
  have hc2 : W.cell? ⟨gb2, 2, none⟩ = some (.func (Fn.func 90) #[] #[]) := (blk_cell BKf 2).trans rfl
  simp [results, Try.results68, go_sem, hc0, hc1, hc2]
 ·rfl
 ·exact Kd.R_nil _ _ _ _ _
 ·exact below_set (below_set (below_set HB.out GE2.out) GE2.out) GE2.out
theorem cuts_table.at3 (a0 : Int) (h : a0 = 3) (w : World) : Calls Try.prog 68 #[.int .u8 a0] w fun e w' => cuts_table.post a0 w e w' := by
 have hu54 := Try.underlying54
 have HB := A0_ (Below.refl w.heap.size w)
 subst h
 go_enter Try.func68, Try.ntmps68
 go_wp2_with (first | ((with_reducible refine gate_dst (N := 2) rfl ?_); refine box_event ?hg (N := 2) ?hd (cs := #[.slice none 0 0, .int .u8 0, .nilFunc]) (t := 94) ?hr ?_; (case hd => rfl); (case hg => rfl); (case hr => first | (go_simp; done) | (go_simp; rfl)); intro gb2 hg w2 hbox hb;  have n0_ := A0_ (below_step (qm_ HB.out) hb); have n1_ := A0_ hbox; have n2_ := A0_ ((by rw [hg]; exact (below_size (qm_ HB.out))) : w.heap.size ≤ gb2); clear HB; have HB := n0_; have BK2 := n1_; have GE2 := n2_; clear n0_ n1_ n2_ hb hbox hg) | ((with_reducible refine gate_dst (N := 8) rfl ?_); refine Kd.R_lit k54 _ 54 ?hg (N := 8) ?hd (xs := ([(⟨false, 0, true⟩ : S54)] : List S54)) (inner := [.bool false, .int .i64 0, .bool true]) (ok := fun _ => True) (okp := fun _ => True) ?hr ?hp (fun _ hk => hk) trivial (Below.refl _ _) (Nat.le_refl _) (by simp) ?_; (case hd => rfl); (case hg => rfl); (case hr => first | (go_simp; done) | (go_simp; rfl)); (case hp => exact (Reps.c3 (show Kd.M k54 _ _ _ (⟨false, 0, true⟩ : S54) [.bool false, .int .i64 0, .bool true] from (k54_mkM _ _ _ (⟨false, 0, true⟩ : S54) )) (Reps.none _ _))); intro v_ w8 ho3 hb hg_ hnew_; obtain ⟨ad_, cc_, rfl⟩ := (show ∃ (ad : Addr) (c : Nat), v_ = .slice (some ad) 1 c from Kd.R_slice1 ho3 (by simp)); clear hg_ hnew_; have nb_ := A0_ (blk_below BK2.out hb); clear BK2; have BK2 := nb_; clear nb_; have n0_ := A0_ (Kd.R_lower ho3 (below_size (qm_ HB.out))); have n1_ := A0_ (below_step (qm_ HB.out) hb); clear HB; have HO8 := n0_; have HB := n1_; clear n0_ n1_ hb ho3; have hcza_0 : w8.cell? ⟨gb2, 0, none⟩ = some (.slice none 0 0) := (blk_cell BK2.out 0).trans rfl; have hfza_0 := blk_frozen BK2.out 0; have hcza_1 : w8.cell? ⟨gb2, 1, none⟩ = some (.int .u8 0) := (blk_cell BK2.out 1).trans rfl; have hfza_1 := blk_frozen BK2.out 1; have hcza_2 : w8.cell? ⟨gb2, 2, none⟩ = some (.nilFunc) := (blk_cell BK2.out 2).trans rfl; have hfza_2 := blk_frozen BK2.out 2;))
 refine bodyPost_ret (v := .tuple #[.agg #[.slice (some ad_) 1 cc_, .int .u8 0, .func (Fn.func 93) #[] #[]], .bool true]) ?_ rfl ⟨.slice (some ad_) 1 cc_, ?_, ?_, ?_⟩
 ·have BKf := blk_set (blk_set (blk_set BK2.out 0 (.slice (some ad_) 1 cc_)) 1 (.int .u8 0)) 2 (.func (Fn.func 93) #[] #[])
  generalize ((w8.setCell ⟨gb2, 0, none⟩ (.slice (some ad_) 1 cc_)).setCell ⟨gb2, 1, none⟩ (.int .u8 0)).setCell ⟨gb2, 2, none⟩ (.func (Fn.func 93) #[] #[]) = W at BKf ⊢
  have hc0 : W.cell? ⟨gb2, 0, none⟩ = some (.slice (some ad_) 1 cc_) := (blk_cell BKf 0).trans rfl
  have hc1 : W.cell? ⟨gb2, 1, none⟩ = some (.int .u8 0) := (blk_cell BKf 1).trans rfl
  have hc2 : W.cell? ⟨gb2, 2, none⟩ = some (.func (Fn.func 93) #[] #[]) := (blk_cell BKf 2).trans rfl
  simp [results, Try.results68, go_sem, hc0, hc1, hc2]
 ·rfl
 ·exact Kd.R_set (Kd.R_set (Kd.R_set HO8.out BK2.out ne94 0 _) (blk_set BK2.out 0 _) ne94 1 _) (blk_set (blk_set BK2.out 0 _) 1 _) ne94 2 _
 ·exact below_set (below_set (below_set HB.out GE2.out) GE2.out) GE2.out
theorem cuts_table.at4 (a0 : Int) (h : a0 = 4) (w : World) : Calls Try.prog 68 #[.int .u8 a0] w fun e w' => cuts_table.post a0 w e w' := by
 have hu54 := Try.underlying54
 have HB := A0_ (Below.refl w.heap.size w)
 subst h
 go_enter Try.func68, Try.ntmps68
 go_wp2_with (first | ((with_reducible refine gate_dst (N := 2) rfl ?_); refine box_event ?hg (N := 2) ?hd (cs := #[.slice none 0 0, .int .u8 0, .nilFunc]) (t := 94) ?hr ?_; (case hd => rfl); (case hg => rfl); (case hr => first | (go_simp; done) | (go_simp; rfl)); intro gb2 hg w2 hbox hb;  have n0_ := A0_ (below_step (qm_ HB.out) hb); have n1_ := A0_ hbox; have n2_ := A0_ ((by rw [hg]; exact (below_size (qm_ HB.out))) : w.heap.size ≤ gb2); clear HB; have HB := n0_; have BK2 := n1_; have GE2 := n2_; clear n0_ n1_ n2_ hb hbox hg) | ((with_reducible refine gate_dst (N := 8) rfl ?_); refine Kd.R_lit k54 _ 54 ?hg (N := 8) ?hd (xs := ([(⟨false, 0, true⟩ : S54)] : List S54)) (inner := [.bool false, .int .i64 0, .bool true]) (ok := fun _ => True) (okp := fun _ => True) ?hr ?hp (fun _ hk => hk) trivial (Below.refl _ _) (Nat.le_refl _) (by simp) ?_; (case hd => rfl); (case hg => rfl); (case hr => first | (go_simp; done) | (go_simp; rfl)); (case hp => exact (Reps.c3 (show Kd.M k54 _ _ _ (⟨false, 0, true⟩ : S54) [.bool false, .int .i64 0, .bool true] from (k54_mkM _ _ _ (⟨false, 0, true⟩ : S54) )) (Reps.none _ _))); intro v_ w8 ho3 hb hg_ hnew_; obtain ⟨ad_, cc_, rfl⟩ := (show ∃ (ad : Addr) (c : Nat), v_ = .slice (some ad) 1 c from Kd.R_slice1 ho3 (by simp)); clear hg_ hnew_; have nb_ := A0_ (blk_below BK2.out hb); clear BK2; have BK2 := nb_; clear nb_; have n0_ := A0_ (Kd.R_lower ho3 (below_size (qm_ HB.out))); have n1_ := A0_ (below_step (qm_ HB.out) hb); clear HB; have HO8 := n0_; have HB := n1_; clear n0_ n1_ hb ho3; have hcza_0 : w8.cell? ⟨gb2, 0, none⟩ = some (.slice none 0 0) := (blk_cell BK2.out 0).trans rfl; have hfza_0 := blk_frozen BK2.out 0; have hcza_1 : w8.cell? ⟨gb2, 1, none⟩ = some (.int .u8 0) := (blk_cell BK2.out 1).trans rfl; have hfza_1 := blk_frozen BK2.out 1; have hcza_2 : w8.cell? ⟨gb2, 2, none⟩ = some (.nilFunc) := (blk_cell BK2.out 2).trans rfl; have hfza_2 := blk_frozen BK2.out 2;))
 refine bodyPost_ret (v := .tuple #[.agg #[.slice none 0 0, .int .u8 1, .func (Fn.func 90) #[] #[]], .bool true]) ?_ rfl ⟨.slice none 0 0, ?_, ?_, ?_⟩
 ·have BKf := blk_set (blk_set (blk_set BK2.out 0 (.slice none 0 0)) 1 (.int .u8 1)) 2 (.func (Fn.func 90) #[] #[])
  generalize ((w8.setCell ⟨gb2, 0, none⟩ (.slice none 0 0)).setCell ⟨gb2, 1, none⟩ (.int .u8 1)).setCell ⟨gb2, 2, none⟩ (.func (Fn.func 90) #[] #[]) = W at BKf ⊢
  have hc0 : W.cell? ⟨gb2, 0, none⟩ = some (.slice none 0 0) := (blk_cell BKf 0).trans rfl
  have hc1 : W.cell? ⟨gb2, 1, none⟩ = some (.int .u8 1) := (blk_cell BKf 1).trans rfl
  have hc2 : W.cell? ⟨gb2, 2, none⟩ = some (.func (Fn.func 90) #[] #[]) := (blk_cell BKf 2).trans rfl
  simp [results, Try.results68, go_sem, hc0, hc1, hc2]
 ·rfl
 ·exact Kd.R_nil _ _ _ _ _
 ·exact below_set (below_set (below_set HB.out GE2.out) GE2.out) GE2.out
theorem cuts_table.at5 (a0 : Int) (h : a0 = 5) (w : World) : Calls Try.prog 68 #[.int .u8 a0] w fun e w' => cuts_table.post a0 w e w' := by
 have hu54 := Try.underlying54
 have HB := A0_ (Below.refl w.heap.size w)
 subst h
 go_enter Try.func68, Try.ntmps68
 go_wp2_with (first | ((with_reducible refine gate_dst (N := 2) rfl ?_); refine box_event ?hg (N := 2) ?hd (cs := #[.slice none 0 0, .int .u8 0, .nilFunc]) (t := 94) ?hr ?_; (case hd => rfl); (case hg => rfl); (case hr => first | (go_simp; done) | (go_simp; rfl)); intro gb2 hg w2 hbox hb;  have n0_ := A0_ (below_step (qm_ HB.out) hb); have n1_ := A0_ hbox; have n2_ := A0_ ((by rw [hg]; exact (below_size (qm_ HB.out))) : w.heap.size ≤ gb2); clear HB; have HB := n0_; have BK2 := n1_; have GE2 := n2_; clear n0_ n1_ n2_ hb hbox hg) | ((with_reducible refine gate_dst (N := 8) rfl ?_); refine Kd.R_lit k54 _ 54 ?hg (N := 8) ?hd (xs := ([(⟨false, 0, true⟩ : S54)] : List S54)) (inner := [.bool false, .int .i64 0, .bool true]) (ok := fun _ => True) (okp := fun _ => True) ?hr ?hp (fun _ hk => hk) trivial (Below.refl _ _) (Nat.le_refl _) (by simp) ?_; (case hd => rfl); (case hg => rfl); (case hr => first | (go_simp; done) | (go_simp; rfl)); (case hp => exact (Reps.c3 (show Kd.M k54 _ _ _ (⟨false, 0, true⟩ : S54) [.bool false, .int .i64 0, .bool true] from (k54_mkM _ _ _ (⟨false, 0, true⟩ : S54) )) (Reps.none _ _))); intro v_ w8 ho3 hb hg_ hnew_; obtain ⟨ad_, cc_, rfl⟩ := (show ∃ (ad : Addr) (c : Nat), v_ = .slice (some ad) 1 c from Kd.R_slice1 ho3 (by simp)); clear hg_ hnew_; have nb_ := A0_ (blk_below BK2.out hb); clear BK2; have BK2 := nb_; clear nb_; have n0_ := A0_ (Kd.R_lower ho3 (below_size (qm_ HB.out))); have n1_ := A0_ (below_step (qm_ HB.out) hb); clear HB; have HO8 := n0_; have HB := n1_; clear n0_ n1_ hb ho3; have hcza_0 : w8.cell? ⟨gb2, 0, none⟩ = some (.slice none 0 0) := (blk_cell BK2.out 0).trans rfl; have hfza_0 := blk_frozen BK2.out 0; have hcza_1 : w8.cell? ⟨gb2, 1, none⟩ = some (.int .u8 0) := (blk_cell BK2.out 1).trans rfl; have hfza_1 := blk_frozen BK2.out 1; have hcza_2 : w8.cell? ⟨gb2, 2, none⟩ = some (.nilFunc) := (blk_cell BK2.out 2).trans rfl; have hfza_2 := blk_frozen BK2.out 2;))
 refine bodyPost_ret (v := .tuple #[.agg #[.slice none 0 0, .int .u8 2, .func (Fn.func 90) #[] #[]], .bool true]) ?_ rfl ⟨.slice none 0 0, ?_, ?_, ?_⟩
 ·have BKf := blk_set (blk_set (blk_set BK2.out 0 (.slice none 0 0)) 1 (.int .u8 2)) 2 (.func (Fn.func 90) #[] #[])
  generalize ((w8.setCell ⟨gb2, 0, none⟩ (.slice none 0 0)).setCell ⟨gb2, 1, none⟩ (.int .u8 2)).setCell ⟨gb2, 2, none⟩ (.func (Fn.func 90) #[] #[]) = W at BKf ⊢
  have hc0 : W.cell? ⟨gb2, 0, none⟩ = some (.slice none 0 0) := (blk_cell BKf 0).trans rfl
  have hc1 : W.cell? ⟨gb2, 1, none⟩ = some (.int .u8 2) := (blk_cell BKf 1).trans rfl
  have hc2 : W.cell? ⟨gb2, 2, none⟩ = some (.func (Fn.func 90) #[] #[]) := (blk_cell BKf 2).trans rfl
  simp [results, Try.results68, go_sem, hc0, hc1, hc2]
 ·rfl
 ·exact Kd.R_nil _ _ _ _ _
 ·exact below_set (below_set (below_set HB.out GE2.out) GE2.out) GE2.out
theorem cuts_table.at6 (a0 : Int) (h : a0 = 6) (w : World) : Calls Try.prog 68 #[.int .u8 a0] w fun e w' => cuts_table.post a0 w e w' := by
 have hu54 := Try.underlying54
 have HB := A0_ (Below.refl w.heap.size w)
 subst h
 go_enter Try.func68, Try.ntmps68
 go_wp2_with (first | ((with_reducible refine gate_dst (N := 2) rfl ?_); refine box_event ?hg (N := 2) ?hd (cs := #[.slice none 0 0, .int .u8 0, .nilFunc]) (t := 94) ?hr ?_; (case hd => rfl); (case hg => rfl); (case hr => first | (go_simp; done) | (go_simp; rfl)); intro gb2 hg w2 hbox hb;  have n0_ := A0_ (below_step (qm_ HB.out) hb); have n1_ := A0_ hbox; have n2_ := A0_ ((by rw [hg]; exact (below_size (qm_ HB.out))) : w.heap.size ≤ gb2); clear HB; have HB := n0_; have BK2 := n1_; have GE2 := n2_; clear n0_ n1_ n2_ hb hbox hg) | ((with_reducible refine gate_dst (N := 8) rfl ?_); refine Kd.R_lit k54 _ 54 ?hg (N := 8) ?hd (xs := ([(⟨false, 0, true⟩ : S54)] : List S54)) (inner := [.bool false, .int .i64 0, .bool true]) (ok := fun _ => True) (okp := fun _ => True) ?hr ?hp (fun _ hk => hk) trivial (Below.refl _ _) (Nat.le_refl _) (by simp) ?_; (case hd => rfl); (case hg => rfl); (case hr => first | (go_simp; done) | (go_simp; rfl)); (case hp => exact (Reps.c3 (show Kd.M k54 _ _ _ (⟨false, 0, true⟩ : S54) [.bool false, .int .i64 0, .bool true] from (k54_mkM _ _ _ (⟨false, 0, true⟩ : S54) )) (Reps.none _ _))); intro v_ w8 ho3 hb hg_ hnew_; obtain ⟨ad_, cc_, rfl⟩ := (show ∃ (ad : Addr) (c : Nat), v_ = .slice (some ad) 1 c from Kd.R_slice1 ho3 (by simp)); clear hg_ hnew_; have nb_ := A0_ (blk_below BK2.out hb); clear BK2; have BK2 := nb_; clear nb_; have n0_ := A0_ (Kd.R_lower ho3 (below_size (qm_ HB.out))); have n1_ := A0_ (below_step (qm_ HB.out) hb); clear HB; have HO8 := n0_; have HB := n1_; clear n0_ n1_ hb ho3; have hcza_0 : w8.cell? ⟨gb2, 0, none⟩ = some (.slice none 0 0) := (blk_cell BK2.out 0).trans rfl; have hfza_0 := blk_frozen BK2.out 0; have hcza_1 : w8.cell? ⟨gb2, 1, none⟩ = some (.int .u8 0) := (blk_cell BK2.out 1).trans rfl; have hfza_1 := blk_frozen BK2.out 1; have hcza_2 : w8.cell? ⟨gb2, 2, none⟩ = some (.nilFunc) := (blk_cell BK2.out 2).trans rfl; have hfza_2 := blk_frozen BK2.out 2;))
 refine bodyPost_ret (v := .tuple #[.agg #[.slice none 0 0, .int .u8 1, .func (Fn.func 90) #[] #[]], .bool true]) ?_ rfl ⟨.slice none 0 0, ?_, ?_, ?_⟩
 ·have BKf := blk_set (blk_set (blk_set BK2.out 0 (.slice none 0 0)) 1 (.int .u8 1)) 2 (.func (Fn.func 90) #[] #[])
  generalize ((w8.setCell ⟨gb2, 0, none⟩ (.slice none 0 0)).setCell ⟨gb2, 1, none⟩ (.int .u8 1)).setCell ⟨gb2, 2, none⟩ (.func (Fn.func 90) #[] #[]) = W at BKf ⊢
  have hc0 : W.cell? ⟨gb2, 0, none⟩ = some (.slice none 0 0) := (blk_cell BKf 0).trans rfl
  have hc1 : W.cell? ⟨gb2, 1, none⟩ = some (.int .u8 1) := (blk_cell BKf 1).trans rfl
  have hc2 : W.cell? ⟨gb2, 2, none⟩ = some (.func (Fn.func 90) #[] #[]) := (blk_cell BKf 2).trans rfl
  simp [results, Try.results68, go_sem, hc0, hc1, hc2]
 ·rfl
 ·exact Kd.R_nil _ _ _ _ _
 ·exact below_set (below_set (below_set HB.out GE2.out) GE2.out) GE2.out
theorem cuts_table.at7 (a0 : Int) (h : a0 = 7) (w : World) : Calls Try.prog 68 #[.int .u8 a0] w fun e w' => cuts_table.post a0 w e w' := by
 have hu54 := Try.underlying54
 have HB := A0_ (Below.refl w.heap.size w)
 subst h
 go_enter Try.func68, Try.ntmps68
 go_wp2_with (first | ((with_reducible refine gate_dst (N := 2) rfl ?_); refine box_event ?hg (N := 2) ?hd (cs := #[.slice none 0 0, .int .u8 0, .nilFunc]) (t := 94) ?hr ?_; (case hd => rfl); (case hg => rfl); (case hr => first | (go_simp; done) | (go_simp; rfl)); intro gb2 hg w2 hbox hb;  have n0_ := A0_ (below_step (qm_ HB.out) hb); have n1_ := A0_ hbox; have n2_ := A0_ ((by rw [hg]; exact (below_size (qm_ HB.out))) : w.heap.size ≤ gb2); clear HB; have HB := n0_; have BK2 := n1_; have GE2 := n2_; clear n0_ n1_ n2_ hb hbox hg) | ((with_reducible refine gate_dst (N := 8) rfl ?_); refine Kd.R_lit k54 _ 54 ?hg (N := 8) ?hd (xs := ([(⟨false, 0, true⟩ : S54)] : List S54)) (inner := [.bool false, .int .i64 0, .bool true]) (ok := fun _ => True) (okp := fun _ => True) ?hr ?hp (fun _ hk => hk) trivial (Below.refl _ _) (Nat.le_refl _) (by simp) ?_; (case hd => rfl); (case hg => rfl); (case hr => first | (go_simp; done) | (go_simp; rfl)); (case hp => exact (Reps.c3 (show Kd.M k54 _ _ _ (⟨false, 0, true⟩ : S54) [.bool false, .int .i64 0, .bool true] from (k54_mkM _ _ _ (⟨false, 0, true⟩ : S54) )) (Reps.none _ _))); intro v_ w8 ho3 hb hg_ hnew_; obtain ⟨ad_, cc_, rfl⟩ := (show ∃ (ad : Addr) (c : Nat), v_ = .slice (some ad) 1 c from Kd.R_slice1 ho3 (by simp)); clear hg_ hnew_; have nb_ := A0_ (blk_below BK2.out hb); clear BK2; have BK2 := nb_; clear nb_; have n0_ := A0_ (Kd.R_lower ho3 (below_size (qm_ HB.out))); have n1_ := A0_ (below_step (qm_ HB.out) hb); clear HB; have HO8 := n0_; have HB := n1_; clear n0_ n1_ hb ho3; have hcza_0 : w8.cell? ⟨gb2, 0, none⟩ = some (.slice none 0 0) := (blk_cell BK2.out 0).trans rfl; have hfza_0 := blk_frozen BK2.out 0; have hcza_1 : w8.cell? ⟨gb2, 1, none⟩ = some (.int .u8 0) := (blk_cell BK2.out 1).trans rfl; have hfza_1 := blk_frozen BK2.out 1; have hcza_2 : w8.cell? ⟨gb2, 2, none⟩ = some (.nilFunc) := (blk_cell BK2.out 2).trans rfl; have hfza_2 := blk_frozen BK2.out 2;))
 refine bodyPost_ret (v := .tuple #[.agg #[.slice none 0 0, .int .u8 1, .func (Fn.func 90) #[] #[]], .bool true]) ?_ rfl ⟨.slice none 0 0, ?_, ?_, ?_⟩
 ·have BKf := blk_set (blk_set (blk_set BK2.out 0 (.slice none 0 0)) 1 (.int .u8 1)) 2 (.func (Fn.func 90) #[] #[])
  generalize ((w8.setCell ⟨gb2, 0, none⟩ (.slice none 0 0)).setCell ⟨gb2, 1, none⟩ (.int .u8 1)).setCell ⟨gb2, 2, none⟩ (.func (Fn.func 90) #[] #[]) = W at BKf ⊢
  have hc0 : W.cell? ⟨gb2, 0, none⟩ = some (.slice none 0 0) := (blk_cell BKf 0).trans rfl
  have hc1 : W.cell? ⟨gb2, 1, none⟩ = some (.int .u8 1) := (blk_cell BKf 1).trans rfl
  have hc2 : W.cell? ⟨gb2, 2, none⟩ = some (.func (Fn.func 90) #[] #[]) := (blk_cell BKf 2).trans rfl
  simp [results, Try.results68, go_sem, hc0, hc1, hc2]
 ·rfl
 ·exact Kd.R_nil _ _ _ _ _
 ·exact below_set (below_set (below_set HB.out GE2.out) GE2.out) GE2.out
theorem cuts_table.at8 (a0 : Int) (h : a0 = 8) (w : World) : Calls Try.prog 68 #[.int .u8 a0] w fun e w' => cuts_table.post a0 w e w' := by
 have hu54 := Try.underlying54
 have HB := A0_ (Below.refl w.heap.size w)
 subst h
 go_enter Try.func68, Try.ntmps68
 go_wp2_with (first | ((with_reducible refine gate_dst (N := 2) rfl ?_); refine box_event ?hg (N := 2) ?hd (cs := #[.slice none 0 0, .int .u8 0, .nilFunc]) (t := 94) ?hr ?_; (case hd => rfl); (case hg => rfl); (case hr => first | (go_simp; done) | (go_simp; rfl)); intro gb2 hg w2 hbox hb;  have n0_ := A0_ (below_step (qm_ HB.out) hb); have n1_ := A0_ hbox; have n2_ := A0_ ((by rw [hg]; exact (below_size (qm_ HB.out))) : w.heap.size ≤ gb2); clear HB; have HB := n0_; have BK2 := n1_; have GE2 := n2_; clear n0_ n1_ n2_ hb hbox hg) | ((with_reducible refine gate_dst (N := 8) rfl ?_); refine Kd.R_lit k54 _ 54 ?hg (N := 8) ?hd (xs := ([(⟨false, 0, true⟩ : S54)] : List S54)) (inner := [.bool false, .int .i64 0, .bool true]) (ok := fun _ => True) (okp := fun _ => True) ?hr ?hp (fun _ hk => hk) trivial (Below.refl _ _) (Nat.le_refl _) (by simp) ?_; (case hd => rfl); (case hg => rfl); (case hr => first | (go_simp; done) | (go_simp; rfl)); (case hp => exact (Reps.c3 (show Kd.M k54 _ _ _ (⟨false, 0, true⟩ : S54) [.bool false, .int .i64 0, .bool true] from (k54_mkM _ _ _ (⟨false, 0, true⟩ : S54) )) (Reps.none _ _))); intro v_ w8 ho3 hb hg_ hnew_; obtain ⟨ad_, cc_, rfl⟩ := (show ∃ (ad : Addr) (c : Nat), v_ = .slice (some ad) 1 c from Kd.R_slice1 ho3 (by simp)); clear hg_ hnew_; have nb_ := A0_ (blk_below BK2.out hb); clear BK2; have BK2 := nb_; clear nb_; have n0_ := A0_ (Kd.R_lower ho3 (below_size (qm_ HB.out))); have n1_ := A0_ (below_step (qm_ HB.out) hb); clear HB; have HO8 := n0_; have HB := n1_; clear n0_ n1_ hb ho3; have hcza_0 : w8.cell? ⟨gb2, 0, none⟩ = some (.slice none 0 0) := (blk_cell BK2.out 0).trans rfl; have hfza_0 := blk_frozen BK2.out 0; have hcza_1 : w8.cell? ⟨gb2, 1, none⟩ = some (.int .u8 0) := (blk_cell BK2.out 1).trans rfl; have hfza_1 := blk_frozen BK2.out 1; have hcza_2 : w8.cell? ⟨gb2, 2, none⟩ = some (.nilFunc) := (blk_cell BK2.out 2).trans rfl; have hfza_2 := blk_frozen BK2.out 2;))
 refine bodyPost_ret (v := .tuple #[.agg #[.slice none 0 0, .int .u8 2, .func (Fn.func 90) #[] #[]], .bool true]) ?_ rfl ⟨.slice none 0 0, ?_, ?_, ?_⟩
 ·have BKf := blk_set (blk_set (blk_set BK2.out 0 (.slice none 0 0)) 1 (.int .u8 2)) 2 (.func (Fn.func 90) #[] #[])
  generalize ((w8.setCell ⟨gb2, 0, none⟩ (.slice none 0 0)).setCell ⟨gb2, 1, none⟩ (.int .u8 2)).setCell ⟨gb2, 2, none⟩ (.func (Fn.func 90) #[] #[]) = W at BKf ⊢
  have hc0 : W.cell? ⟨gb2, 0, none⟩ = some (.slice none 0 0) := (blk_cell BKf 0).trans rfl
  have hc1 : W.cell? ⟨gb2, 1, none⟩ = some (.int .u8 2) := (blk_cell BKf 1).trans rfl
  have hc2 : W.cell? ⟨gb2, 2, none⟩ = some (.func (Fn.func 90) #[] #[]) := (blk_cell BKf 2).trans rfl
  simp [results, Try.results68, go_sem, hc0, hc1, hc2]
 ·rfl
 ·exact Kd.R_nil _ _ _ _ _
 ·exact below_set (below_set (below_set HB.out GE2.out) GE2.out) GE2.out
theorem cuts_table.at9 (a0 : Int) (h : a0 = 9) (w : World) : Calls Try.prog 68 #[.int .u8 a0] w fun e w' => cuts_table.post a0 w e w' := by
 have hu54 := Try.underlying54
 have HB := A0_ (Below.refl w.heap.size w)
 subst h
 go_enter Try.func68, Try.ntmps68
 go_wp2_with (first | ((with_reducible refine gate_dst (N := 2) rfl ?_); refine box_event ?hg (N := 2) ?hd (cs := #[.slice none 0 0, .int .u8 0, .nilFunc]) (t := 94) ?hr ?_; (case hd => rfl); (case hg => rfl); (case hr => first | (go_simp; done) | (go_simp; rfl)); intro gb2 hg w2 hbox hb;  have n0_ := A0_ (below_step (qm_ HB.out) hb); have n1_ := A0_ hbox; have n2_ := A0_ ((by rw [hg]; exact (below_size (qm_ HB.out))) : w.heap.size ≤ gb2); clear HB; have HB := n0_; have BK2 := n1_; have GE2 := n2_; clear n0_ n1_ n2_ hb hbox hg) | ((with_reducible refine gate_dst (N := 8) rfl ?_); refine Kd.R_lit k54 _ 54 ?hg (N := 8) ?hd (xs := ([(⟨false, 0, true⟩ : S54)] : List S54)) (inner := [.bool false, .int .i64 0, .bool true]) (ok := fun _ => True) (okp := fun _ => True) ?hr ?hp (fun _ hk => hk) trivial (Below.refl _ _) (Nat.le_refl _) (by simp) ?_; (case hd => rfl); (case hg => rfl); (case hr => first | (go_simp; done) | (go_simp; rfl)); (case hp => exact (Reps.c3 (show Kd.M k54 _ _ _ (⟨false, 0, true⟩ : S54) [.bool false, .int .i64 0, .bool true] from (k54_mkM _ _ _ (⟨false, 0, true⟩ : S54) )) (Reps.none _ _))); intro v_ w8 ho3 hb hg_ hnew_; obtain ⟨ad_, cc_, rfl⟩ := (show ∃ (ad : Addr) (c : Nat), v_ = .slice (some ad) 1 c from Kd.R_slice1 ho3 (by simp)); clear hg_ hnew_; have nb_ := A0_ (blk_below BK2.out hb); clear BK2; have BK2 := nb_; clear nb_; have n0_ := A0_ (Kd.R_lower ho3 (below_size (qm_ HB.out))); have n1_ := A0_ (below_step (qm_ HB.out) hb); clear HB; have HO8 := n0_; have HB := n1_; clear n0_ n1_ hb ho3; have hcza_0 : w8.cell? ⟨gb2, 0, none⟩ = some (.slice none 0 0) := (blk_cell BK2.out 0).trans rfl; have hfza_0 := blk_frozen BK2.out 0; have hcza_1 : w8.cell? ⟨gb2, 1, none⟩ = some (.int .u8 0) := (blk_cell BK2.out 1).trans rfl; have hfza_1 := blk_frozen BK2.out 1; have hcza_2 : w8.cell? ⟨gb2, 2, none⟩ = some (.nilFunc) := (blk_cell BK2.out 2).trans rfl; have hfza_2 := blk_frozen BK2.out 2;))
 refine bodyPost_ret (v := .tuple #[.agg #[.slice none 0 0, .int .u8 1, .func (Fn.func 90) #[] #[]], .bool true]) ?_ rfl ⟨.slice none 0 0, ?_, ?_, ?_⟩
 ·have BKf := blk_set (blk_set (blk_set BK2.out 0 (.slice none 0 0)) 1 (.int .u8 1)) 2 (.func (Fn.func 90) #[] #[])
  generalize ((w8.setCell ⟨gb2, 0, none⟩ (.slice none 0 0)).setCell ⟨gb2, 1, none⟩ (.int .u8 1)).setCell ⟨gb2, 2, none⟩ (.func (Fn.func 90) #[] #[]) = W at BKf ⊢
  have hc0 : W.cell? ⟨gb2, 0, none⟩ = some (.slice none 0 0) := (blk_cell BKf 0).trans rfl
  have hc1 : W.cell? ⟨gb2, 1, none⟩ = some (.int .u8 1) := (blk_cell BKf 1).trans rfl
  have hc2 : W.cell? ⟨gb2, 2, none⟩ = some (.func (Fn.func 90) #[] #[]) := (blk_cell BKf 2).trans rfl
  simp [results, Try.results68, go_sem, hc0, hc1, hc2]
 ·rfl
 ·exact Kd.R_nil _ _ _ _ _
 ·exact below_set (below_set (below_set HB.out GE2.out) GE2.out) GE2.out
theorem cuts_table.at10 (a0 : Int) (h : a0 = 10) (w : World) : Calls Try.prog 68 #[.int .u8 a0] w fun e w' => cuts_table.post a0 w e w' := by
 have hu54 := Try.underlying54
 have HB := A0_ (Below.refl w.heap.size w)
 subst h
 go_enter Try.func68, Try.ntmps68
 go_wp2_with (first | ((with_reducible refine gate_dst (N := 2) rfl ?_); refine box_event ?hg (N := 2) ?hd (cs := #[.slice none 0 0, .int .u8 0, .nilFunc]) (t := 94) ?hr ?_; (case hd => rfl); (case hg => rfl); (case hr => first | (go_simp; done) | (go_simp; rfl)); intro gb2 hg w2 hbox hb;  have n0_ := A0_ (below_step (qm_ HB.out) hb); have n1_ := A0_ hbox; have n2_ := A0_ ((by rw [hg]; exact (below_size (qm_ HB.out))) : w.heap.size ≤ gb2); clear HB; have HB := n0_; have BK2 := n1_; have GE2 := n2_; clear n0_ n1_ n2_ hb hbox hg) | ((with_reducible refine gate_dst (N := 8) rfl ?_); refine Kd.R_lit k54 _ 54 ?hg (N := 8) ?hd (xs := ([(⟨false, 0, true⟩ : S54)] : List S54)) (inner := [.bool false, .int .i64 0, .bool true]) (ok := fun _ => True) (okp := fun _ => True) ?hr ?hp (fun _ hk => hk) trivial (Below.refl _ _) (Nat.le_refl _) (by simp) ?_; (case hd => rfl); (case hg => rfl); (case hr => first | (go_simp; done) | (go_simp; rfl)); (case hp => exact (Reps.c3 (show Kd.M k54 _ _ _ (⟨false, 0, true⟩ : S54) [.bool false, .int .i64 0, .bool true] from (k54_mkM _ _ _ (⟨false, 0, true⟩ : S54) )) (Reps.none _ _))); intro v_ w8 ho3 hb hg_ hnew_; obtain ⟨ad_, cc_, rfl⟩ := (show ∃ (ad : Addr) (c : Nat), v_ = .slice (some ad) 1 c from Kd.R_slice1 ho3 (by simp)); clear hg_ hnew_; have nb_ := A0_ (blk_below BK2.out hb); clear BK2; have BK2 := nb_; clear nb_; have n0_ := A0_ (Kd.R_lower ho3 (below_size (qm_ HB.out))); have n1_ := A0_ (below_step (qm_ HB.out) hb); clear HB; have HO8 := n0_; have HB := n1_; clear n0_ n1_ hb ho3; have hcza_0 : w8.cell? ⟨gb2, 0, none⟩ = some (.slice none 0 0) := (blk_cell BK2.out 0).trans rfl; have hfza_0 := blk_frozen BK2.out 0; have hcza_1 : w8.cell? ⟨gb2, 1, none⟩ = some (.int .u8 0) := (blk_cell BK2.out 1).trans rfl; have hfza_1 := blk_frozen BK2.out 1; have hcza_2 : w8.cell? ⟨gb2, 2, none⟩ = some (.nilFunc) := (blk_cell BK2.out 2).trans rfl; have hfza_2 := blk_frozen BK2.out 2;) | (go_at_call 94; (with_reducible refine (cuts_both.calls false _ _ rfl).mono ?_); rintro e wb ⟨v_, rfl, ho3, hb⟩; obtain ⟨ad2_, cc2_, rfl⟩ := (show ∃ (ad : Addr) (c : Nat), v_ = .slice (some ad) 2 c from Kd.R_slice1 ho3 (by simp)); have nb_ := A0_ (blk_below BK2.out hb); clear BK2; have BK2 := nb_; clear nb_; have n0_ := A0_ (Kd.R_lower ho3 (below_size (qm_ HB.out))); have n1_ := A0_ (below_step (qm_ HB.out) hb); clear HB; have HOb := n0_; have HB := n1_; clear n0_ n1_ hb ho3 hcza_0 hfza_0 hcza_1 hfza_1 hcza_2 hfza_2; have hczb_0 : wb.cell? ⟨gb2, 0, none⟩ = some (.slice none 0 0) := (blk_cell BK2.out 0).trans rfl; have hfzb_0 := blk_frozen BK2.out 0; have hczb_1 : wb.cell? ⟨gb2, 1, none⟩ = some (.int .u8 0) := (blk_cell BK2.out 1).trans rfl; have hfzb_1 := blk_frozen BK2.out 1; have hczb_2 : wb.cell? ⟨gb2, 2, none⟩ = some (.nilFunc) := (blk_cell BK2.out 2).trans rfl; have hfzb_2 := blk_frozen BK2.out 2;))
 refine bodyPost_ret (v := .tuple #[.agg #[.slice (some ad2_) 2 cc2_, .int .u8 1, .func (Fn.func 90) #[] #[]], .bool true]) ?_ rfl ⟨.slice (some ad2_) 2 cc2_, ?_, ?_, ?_⟩
 ·have BKf := blk_set (blk_set (blk_set BK2.out 0 (.slice (some ad2_) 2 cc2_)) 1 (.int .u8 1)) 2 (.func (Fn.func 90) #[] #[])
  generalize ((wb.setCell ⟨gb2, 0, none⟩ (.slice (some ad2_) 2 cc2_)).setCell ⟨gb2, 1, none⟩ (.int .u8 1)).setCell ⟨gb2, 2, none⟩ (.func (Fn.func 90) #[] #[]) = W at BKf ⊢
  have hc0 : W.cell? ⟨gb2, 0, none⟩ = some (.slice (some ad2_) 2 cc2_) := (blk_cell BKf 0).trans rfl
  have hc1 : W.cell? ⟨gb2, 1, none⟩ = some (.int .u8 1) := (blk_cell BKf 1).trans rfl
  have hc2 : W.cell? ⟨gb2, 2, none⟩ = some (.func (Fn.func 90) #[] #[]) := (blk_cell BKf 2).trans rfl
  simp [results, Try.results68, go_sem, hc0, hc1, hc2]
 ·rfl
 ·exact Kd.R_set (Kd.R_set (Kd.R_set HOb.out BK2.out ne94 0 _) (blk_set BK2.out 0 _) ne94 1 _) (blk_set (blk_set BK2.out 0 _) 1 _) ne94 2 _
 ·exact below_set (below_set (below_set HB.out GE2.out) GE2.out) GE2.out
theorem cuts_table.at11 (a0 : Int) (h : a0 = 11) (w : World) : Calls Try.prog 68 #[.int .u8 a0] w fun e w' => cuts_table.post a0 w e w' := by
 have hu54 := Try.underlying54
 have HB := A0_ (Below.refl w.heap.size w)
 subst h
 go_enter Try.func68, Try.ntmps68
 go_wp2_with (first | ((with_reducible refine gate_dst (N := 2) rfl ?_); refine box_event ?hg (N := 2) ?hd (cs := #[.slice none 0 0, .int .u8 0, .nilFunc]) (t := 94) ?hr ?_; (case hd => rfl); (case hg => rfl); (case hr => first | (go_simp; done) | (go_simp; rfl)); intro gb2 hg w2 hbox hb;  have n0_ := A0_ (below_step (qm_ HB.out) hb); have n1_ := A0_ hbox; have n2_ := A0_ ((by rw [hg]; exact (below_size (qm_ HB.out))) : w.heap.size ≤ gb2); clear HB; have HB := n0_; have BK2 := n1_; have GE2 := n2_; clear n0_ n1_ n2_ hb hbox hg) | ((with_reducible refine gate_dst (N := 8) rfl ?_); refine Kd.R_lit k54 _ 54 ?hg (N := 8) ?hd (xs := ([(⟨false, 0, true⟩ : S54)] : List S54)) (inner := [.bool false, .int .i64 0, .bool true]) (ok := fun _ => True) (okp := fun _ => True) ?hr ?hp (fun _ hk => hk) trivial (Below.refl _ _) (Nat.le_refl _) (by simp) ?_; (case hd => rfl); (case hg => rfl); (case hr => first | (go_simp; done) | (go_simp; rfl)); (case hp => exact (Reps.c3 (show Kd.M k54 _ _ _ (⟨false, 0, true⟩ : S54) [.bool false, .int .i64 0, .bool true] from (k54_mkM _ _ _ (⟨false, 0, true⟩ : S54) )) (Reps.none _ _))); intro v_ w8 ho3 hb hg_ hnew_; obtain ⟨ad_, cc_, rfl⟩ := (show ∃ (ad : Addr) (c : Nat), v_ = .slice (some ad) 1 c from Kd.R_slice1 ho3 (by simp)); clear hg_ hnew_; have nb_ := A0_ (blk_below BK2.out hb); clear BK2; have BK2 := nb_; clear nb_; have n0_ := A0_ (Kd.R_lower ho3 (below_size (qm_ HB.out))); have n1_ := A0_ (below_step (qm_ HB.out) hb); clear HB; have HO8 := n0_; have HB := n1_; clear n0_ n1_ hb ho3; have hcza_0 : w8.cell? ⟨gb2, 0, none⟩ = some (.slice none 0 0) := (blk_cell BK2.out 0).trans rfl; have hfza_0 := blk_frozen BK2.out 0; have hcza_1 : w8.cell? ⟨gb2, 1, none⟩ = some (.int .u8 0) := (blk_cell BK2.out 1).trans rfl; have hfza_1 := blk_frozen BK2.out 1; have hcza_2 : w8.cell? ⟨gb2, 2, none⟩ = some (.nilFunc) := (blk_cell BK2.out 2).trans rfl; have hfza_2 := blk_frozen BK2.out 2;) | (go_at_call 94; (with_reducible refine (cuts_both.calls false _ _ rfl).mono ?_); rintro e wb ⟨v_, rfl, ho3, hb⟩; obtain ⟨ad2_, cc2_, rfl⟩ := (show ∃ (ad : Addr) (c : Nat), v_ = .slice (some ad) 2 c from Kd.R_slice1 ho3 (by simp)); have nb_ := A0_ (blk_below BK2.out hb); clear BK2; have BK2 := nb_; clear nb_; have n0_ := A0_ (Kd.R_lower ho3 (below_size (qm_ HB.out))); have n1_ := A0_ (below_step (qm_ HB.out) hb); clear HB; have HOb := n0_; have HB := n1_; clear n0_ n1_ hb ho3 hcza_0 hfza_0 hcza_1 hfza_1 hcza_2 hfza_2; have hczb_0 : wb.cell? ⟨gb2, 0, none⟩ = some (.slice none 0 0) := (blk_cell BK2.out 0).trans rfl; have hfzb_0 := blk_frozen BK2.out 0; have hczb_1 : wb.cell? ⟨gb2, 1, none⟩ = some (.int .u8 0) := (blk_cell BK2.out 1).trans rfl; have hfzb_1 := blk_frozen BK2.out 1; have hczb_2 : wb.cell? ⟨gb2, 2, none⟩ = some (.nilFunc) := (blk_cell BK2.out 2).trans rfl; have hfzb_2 := blk_frozen BK2.out 2;))
 refine bodyPost_ret (v := .tuple #[.agg #[.slice (some ad2_) 2 cc2_, .int .u8 0, .func (Fn.func 95) #[] #[]], .bool true]) ?_ rfl ⟨.slice (some ad2_) 2 cc2_, ?_, ?_, ?_⟩
 ·have BKf := blk_set (blk_set (blk_set BK2.out 0 (.slice (some ad2_) 2 cc2_)) 1 (.int .u8 0)) 2 (.func (Fn.func 95) #[] #[])
  generalize ((wb.setCell ⟨gb2, 0, none⟩ (.slice (some ad2_) 2 cc2_)).setCell ⟨gb2, 1, none⟩ (.int .u8 0)).setCell ⟨gb2, 2, none⟩ (.func (Fn.func 95) #[] #[]) = W at BKf ⊢
  have hc0 : W.cell? ⟨gb2, 0, none⟩ = some (.slice (some ad2_) 2 cc2_) := (blk_cell BKf 0).trans rfl
  have hc1 : W.cell? ⟨gb2, 1, none⟩ = some (.int .u8 0) := (blk_cell BKf 1).trans rfl
  have hc2 : W.cell? ⟨gb2, 2, none⟩ = some (.func (Fn.func 95) #[] #[]) := (blk_cell BKf 2).trans rfl
  simp [results, Try.results68, go_sem, hc0, hc1, hc2]
 ·rfl
 ·exact Kd.R_set (Kd.R_set (Kd.R_set HOb.out BK2.out ne94 0 _) (blk_set BK2.out 0 _) ne94 1 _) (blk_set (blk_set BK2.out 0 _) 1 _) ne94 2 _
 ·exact below_set (below_set (below_set HB.out GE2.out) GE2.out) GE2.out
theorem cuts_table.at12 (a0 : Int) (h : a0 = 12) (w : World) : Calls Try.prog 68 #[.int .u8 a0] w fun e w' => cuts_table.post a0 w e w' := by
 have hu54 := Try.underlying54
 have HB := A0_ (Below.refl w.heap.size w)
 subst h
 go_enter Try.func68, Try.ntmps68
 go_wp2_with (first | ((with_reducible refine gate_dst (N := 2) rfl ?_); refine box_event ?hg (N := 2) ?hd (cs := #[.slice none 0 0, .int .u8 0, .nilFunc]) (t := 94) ?hr ?_; (case hd => rfl); (case hg => rfl); (case hr => first | (go_simp; done) | (go_simp; rfl)); intro gb2 hg w2 hbox hb;  have n0_ := A0_ (below_step (qm_ HB.out) hb); have n1_ := A0_ hbox; have n2_ := A0_ ((by rw [hg]; exact (below_size (qm_ HB.out))) : w.heap.size ≤ gb2); clear HB; have HB := n0_; have BK2 := n1_; have GE2 := n2_; clear n0_ n1_ n2_ hb hbox hg) | ((with_reducible refine gate_dst (N := 8) rfl ?_); refine Kd.R_lit k54 _ 54 ?hg (N := 8) ?hd (xs := ([(⟨false, 0, true⟩ : S54)] : List S54)) (inner := [.bool false, .int .i64 0, .bool true]) (ok := fun _ => True) (okp := fun _ => True) ?hr ?hp (fun _ hk => hk) trivial (Below.refl _ _) (Nat.le_refl _) (by simp) ?_; (case hd => rfl); (case hg => rfl); (case hr => first | (go_simp; done) | (go_simp; rfl)); (case hp => exact (Reps.c3 (show Kd.M k54 _ _ _ (⟨false, 0, true⟩ : S54) [.bool false, .int .i64 0, .bool true] from (k54_mkM _ _ _ (⟨false, 0, true⟩ : S54) )) (Reps.none _ _))); intro v_ w8 ho3 hb hg_ hnew_; obtain ⟨ad_, cc_, rfl⟩ := (show ∃ (ad : Addr) (c : Nat), v_ = .slice (some ad) 1 c from Kd.R_slice1 ho3 (by simp)); clear hg_ hnew_; have nb_ := A0_ (blk_below BK2.out hb); clear BK2; have BK2 := nb_; clear nb_; have n0_ := A0_ (Kd.R_lower ho3 (below_size (qm_ HB.out))); have n1_ := A0_ (below_step (qm_ HB.out) hb); clear HB; have HO8 := n0_; have HB := n1_; clear n0_ n1_ hb ho3; have hcza_0 : w8.cell? ⟨gb2, 0, none⟩ = some (.slice none 0 0) := (blk_cell BK2.out 0).trans rfl; have hfza_0 := blk_frozen BK2.out 0; have hcza_1 : w8.cell? ⟨gb2, 1, none⟩ = some (.int .u8 0) := (blk_cell BK2.out 1).trans rfl; have hfza_1 := blk_frozen BK2.out 1; have hcza_2 : w8.cell? ⟨gb2, 2, none⟩ = some (.nilFunc) := (blk_cell BK2.out 2).trans rfl; have hfza_2 := blk_frozen BK2.out 2;) | (go_at_call 94; (with_reducible refine (cuts_both.calls true _ _ rfl).mono ?_); rintro e wb ⟨v_, rfl, ho3, hb⟩; obtain ⟨ad2_, cc2_, rfl⟩ := (show ∃ (ad : Addr) (c : Nat), v_ = .slice (some ad) 2 c from Kd.R_slice1 ho3 (by simp)); have nb_ := A0_ (blk_below BK2.out hb); clear BK2; have BK2 := nb_; clear nb_; have n0_ := A0_ (Kd.R_lower ho3 (below_size (qm_ HB.out))); have n1_ := A0_ (below_step (qm_ HB.out) hb); clear HB; have HOb := n0_; have HB := n1_; clear n0_ n1_ hb ho3 hcza_0 hfza_0 hcza_1 hfza_1 hcza_2 hfza_2; have hczb_0 : wb.cell? ⟨gb2, 0, none⟩ = some (.slice none 0 0) := (blk_cell BK2.out 0).trans rfl; have hfzb_0 := blk_frozen BK2.out 0; have hczb_1 : wb.cell? ⟨gb2, 1, none⟩ = some (.int .u8 0) := (blk_cell BK2.out 1).trans rfl; have hfzb_1 := blk_frozen BK2.out 1; have hczb_2 : wb.cell? ⟨gb2, 2, none⟩ = some (.nilFunc) := (blk_cell BK2.out 2).trans rfl; have hfzb_2 := blk_frozen BK2.out 2;))
 refine bodyPost_ret (v := .tuple #[.agg #[.slice (some ad2_) 2 cc2_, .int .u8 1, .func (Fn.func 91) #[] #[]], .bool true]) ?_ rfl ⟨.slice (some ad2_) 2 cc2_, ?_, ?_, ?_⟩
 ·have BKf := blk_set (blk_set (blk_set BK2.out 0 (.slice (some ad2_) 2 cc2_)) 1 (.int .u8 1)) 2 (.func (Fn.func 91) #[] #[])
  generalize ((wb.setCell ⟨gb2, 0, none⟩ (.slice (some ad2_) 2 cc2_)).setCell ⟨gb2, 1, none⟩ (.int .u8 1)).setCell ⟨gb2, 2, none⟩ (.func (Fn.func 91) #[] #[]) = W at BKf ⊢
  have hc0 : W.cell? ⟨gb2, 0, none⟩ = some (.slice (some ad2_) 2 cc2_) := (blk_cell BKf 0).trans rfl
  have hc1 : W.cell? ⟨gb2, 1, none⟩ = some (.int .u8 1) := (blk_cell BKf 1).trans rfl
  have hc2 : W.cell? ⟨gb2, 2, none⟩ = some (.func (Fn.func 91) #[] #[]) := (blk_cell BKf 2).trans rfl
  simp [results, Try.results68, go_sem, hc0, hc1, hc2]
 ·rfl
 ·exact Kd.R_set (Kd.R_set (Kd.R_set HOb.out BK2.out ne94 0 _) (blk_set BK2.out 0 _) ne94 1 _) (blk_set (blk_set BK2.out 0 _) 1 _) ne94 2 _
 ·exact below_set (below_set (below_set HB.out GE2.out) GE2.out) GE2.out
theorem cuts_table.at13 (a0 : Int) (h : a0 = 13) (w : World) : Calls Try.prog 68 #[.int .u8 a0] w fun e w' => cuts_table.post a0 w e w' := by
 have hu54 := Try.underlying54
 have HB := A0_ (Below.refl w.heap.size w)
 subst h
 go_enter Try.func68, Try.ntmps68
 go_wp2_with (first | ((with_reducible refine gate_dst (N := 2) rfl ?_); refine box_event ?hg (N := 2) ?hd (cs := #[.slice none 0 0, .int .u8 0, .nilFunc]) (t := 94) ?hr ?_; (case hd => rfl); (case hg => rfl); (case hr => first | (go_simp; done) | (go_simp; rfl)); intro gb2 hg w2 hbox hb;  have n0_ := A0_ (below_step (qm_ HB.out) hb); have n1_ := A0_ hbox; have n2_ := A0_ ((by rw [hg]; exact (below_size (qm_ HB.out))) : w.heap.size ≤ gb2); clear HB; have HB := n0_; have BK2 := n1_; have GE2 := n2_; clear n0_ n1_ n2_ hb hbox hg) | ((with_reducible refine gate_dst (N := 8) rfl ?_); refine Kd.R_lit k54 _ 54 ?hg (N := 8) ?hd (xs := ([(⟨false, 0, true⟩ : S54)] : List S54)) (inner := [.bool false, .int .i64 0, .bool true]) (ok := fun _ => True) (okp := fun _ => True) ?hr ?hp (fun _ hk => hk) trivial (Below.refl _ _) (Nat.le_refl _) (by simp) ?_; (case hd => rfl); (case hg => rfl); (case hr => first | (go_simp; done) | (go_simp; rfl)); (case hp => exact (Reps.c3 (show Kd.M k54 _ _ _ (⟨false, 0, true⟩ : S54) [.bool false, .int .i64 0, .bool true] from (k54_mkM _ _ _ (⟨false, 0, true⟩ : S54) )) (Reps.none _ _))); intro v_ w8 ho3 hb hg_ hnew_; obtain ⟨ad_, cc_, rfl⟩ := (show ∃ (ad : Addr) (c : Nat), v_ = .slice (some ad) 1 c from Kd.R_slice1 ho3 (by simp)); clear hg_ hnew_; have nb_ := A0_ (blk_below BK2.out hb); clear BK2; have BK2 := nb_; clear nb_; have n0_ := A0_ (Kd.R_lower ho3 (below_size (qm_ HB.out))); have n1_ := A0_ (below_step (qm_ HB.out) hb); clear HB; have HO8 := n0_; have HB := n1_; clear n0_ n1_ hb ho3; have hcza_0 : w8.cell? ⟨gb2, 0, none⟩ = some (.slice none 0 0) := (blk_cell BK2.out 0).trans rfl; have hfza_0 := blk_frozen BK2.out 0; have hcza_1 : w8.cell? ⟨gb2, 1, none⟩ = some (.int .u8 0) := (blk_cell BK2.out 1).trans rfl; have hfza_1 := blk_frozen BK2.out 1; have hcza_2 : w8.cell? ⟨gb2, 2, none⟩ = some (.nilFunc) := (blk_cell BK2.out 2).trans rfl; have hfza_2 := blk_frozen BK2.out 2;) | (go_at_call 94; (with_reducible refine (cuts_both.calls true _ _ rfl).mono ?_); rintro e wb ⟨v_, rfl, ho3, hb⟩; obtain ⟨ad2_, cc2_, rfl⟩ := (show ∃ (ad : Addr) (c : Nat), v_ = .slice (some ad) 2 c from Kd.R_slice1 ho3 (by simp)); have nb_ := A0_ (blk_below BK2.out hb); clear BK2; have BK2 := nb_; clear nb_; have n0_ := A0_ (Kd.R_lower ho3 (below_size (qm_ HB.out))); have n1_ := A0_ (below_step (qm_ HB.out) hb); clear HB; have HOb := n0_; have HB := n1_; clear n0_ n1_ hb ho3 hcza_0 hfza_0 hcza_1 hfza_1 hcza_2 hfza_2; have hczb_0 : wb.cell? ⟨gb2, 0, none⟩ = some (.slice none 0 0) := (blk_cell BK2.out 0).trans rfl; have hfzb_0 := blk_frozen BK2.out 0; have hczb_1 : wb.cell? ⟨gb2, 1, none⟩ = some (.int .u8 0) := (blk_cell BK2.out 1).trans rfl; have hfzb_1 := blk_frozen BK2.out 1; have hczb_2 : wb.cell? ⟨gb2, 2, none⟩ = some (.nilFunc) := (blk_cell BK2.out 2).trans rfl; have hfzb_2 := blk_frozen BK2.out 2;))
 refine bodyPost_ret (v := .tuple #[.agg #[.slice (some ad2_) 2 cc2_, .int .u8 1, .func (Fn.func 91) #[] #[]], .bool true]) ?_ rfl ⟨.slice (some ad2_) 2 cc2_, ?_, ?_, ?_⟩
 ·have BKf := blk_set (blk_set (blk_set BK2.out 0 (.slice (some ad2_) 2 cc2_)) 1 (.int .u8 1)) 2 (.func (Fn.func 91) #[] #[])
  generalize ((wb.setCell ⟨gb2, 0, none⟩ (.slice (some ad2_) 2 cc2_)).setCell ⟨gb2, 1, none⟩ (.int .u8 1)).setCell ⟨gb2, 2, none⟩ (.func (Fn.func 91) #[] #[]) = W at BKf ⊢
  have hc0 : W.cell? ⟨gb2, 0, none⟩ = some (.slice (some ad2_) 2 cc2_) := (blk_cell BKf 0).trans rfl
  have hc1 : W.cell? ⟨gb2, 1, none⟩ = some (.int .u8 1) := (blk_cell BKf 1).trans rfl
  have hc2 : W.cell? ⟨gb2, 2, none⟩ = some (.func (Fn.func 91) #[] #[]) := (blk_cell BKf 2).trans rfl
  simp [results, Try.results68, go_sem, hc0, hc1, hc2]
 ·rfl
 ·exact Kd.R_set (Kd.R_set (Kd.R_set HOb.out BK2.out ne94 0 _) (blk_set BK2.out 0 _) ne94 1 _) (blk_set (blk_set BK2.out 0 _) 1 _) ne94 2 _
 ·exact below_set (below_set (below_set HB.out GE2.out) GE2.out) GE2.out
theorem cuts_table.at14 (a0 : Int) (h : a0 = 14) (w : World) : Calls Try.prog 68 #[.int .u8 a0] w fun e w' => cuts_table.post a0 w e w' := by
 have hu54 := Try.underlying54
 have HB := A0_ (Below.refl w.heap.size w)
 subst h
 go_enter Try.func68, Try.ntmps68
 go_wp2_with (first | ((with_reducible refine gate_dst (N := 2) rfl ?_); refine box_event ?hg (N := 2) ?hd (cs := #[.slice none 0 0, .int .u8 0, .nilFunc]) (t := 94) ?hr ?_; (case hd => rfl); (case hg => rfl); (case hr => first | (go_simp; done) | (go_simp; rfl)); intro gb2 hg w2 hbox hb;  have n0_ := A0_ (below_step (qm_ HB.out) hb); have n1_ := A0_ hbox; have n2_ := A0_ ((by rw [hg]; exact (below_size (qm_ HB.out))) : w.heap.size ≤ gb2); clear HB; have HB := n0_; have BK2 := n1_; have GE2 := n2_; clear n0_ n1_ n2_ hb hbox hg) | ((with_reducible refine gate_dst (N := 8) rfl ?_); refine Kd.R_lit k54 _ 54 ?hg (N := 8) ?hd (xs := ([(⟨false, 0, true⟩ : S54)] : List S54)) (inner := [.bool false, .int .i64 0, .bool true]) (ok := fun _ => True) (okp := fun _ => True) ?hr ?hp (fun _ hk => hk) trivial (Below.refl _ _) (Nat.le_refl _) (by simp) ?_; (case hd => rfl); (case hg => rfl); (case hr => first | (go_simp; done) | (go_simp; rfl)); (case hp => exact (Reps.c3 (show Kd.M k54 _ _ _ (⟨false, 0, true⟩ : S54) [.bool false, .int .i64 0, .bool true] from (k54_mkM _ _ _ (⟨false, 0, true⟩ : S54) )) (Reps.none _ _))); intro v_ w8 ho3 hb hg_ hnew_; obtain ⟨ad_, cc_, rfl⟩ := (show ∃ (ad : Addr) (c : Nat), v_ = .slice (some ad) 1 c from Kd.R_slice1 ho3 (by simp)); clear hg_ hnew_; have nb_ := A0_ (blk_below BK2.out hb); clear BK2; have BK2 := nb_; clear nb_; have n0_ := A0_ (Kd.R_lower ho3 (below_size (qm_ HB.out))); have n1_ := A0_ (below_step (qm_ HB.out) hb); clear HB; have HO8 := n0_; have HB := n1_; clear n0_ n1_ hb ho3; have hcza_0 : w8.cell? ⟨gb2, 0, none⟩ = some (.slice none 0 0) := (blk_cell BK2.out 0).trans rfl; have hfza_0 := blk_frozen BK2.out 0; have hcza_1 : w8.cell? ⟨gb2, 1, none⟩ = some (.int .u8 0) := (blk_cell BK2.out 1).trans rfl; have hfza_1 := blk_frozen BK2.out 1; have hcza_2 : w8.cell? ⟨gb2, 2, none⟩ = some (.nilFunc) := (blk_cell BK2.out 2).trans rfl; have hfza_2 := blk_frozen BK2.out 2;) | ((with_reducible refine gate_dst (N := 53) rfl ?_); refine Kd.R_lit k54 _ 54 ?hg (N := 53) ?hd (xs := ([(⟨false, 1, true⟩ : S54)] : List S54)) (inner := [.bool false, .int .i64 1, .bool true]) (ok := fun _ => True) (okp := fun _ => True) ?hr ?hp (fun _ hk => hk) trivial (Below.refl _ _) (Nat.le_refl _) (by simp) ?_; (case hd => rfl); (case hg => rfl); (case hr => first | (go_simp; done) | (go_simp; rfl)); (case hp => exact (Reps.c3 (show Kd.M k54 _ _ _ (⟨false, 1, true⟩ : S54) [.bool false, .int .i64 1, .bool true] from (k54_mkM _ _ _ (⟨false, 1, true⟩ : S54) )) (Reps.none _ _))); intro v_ w53 ho3 hb hg_ hnew_; obtain ⟨ad_, cc_, rfl⟩ := (show ∃ (ad : Addr) (c : Nat), v_ = .slice (some ad) 1 c from Kd.R_slice1 ho3 (by simp)); clear hg_ hnew_; have nb_ := A0_ (blk_below BK2.out hb); clear BK2; have BK2 := nb_; clear nb_; have n0_ := A0_ (Kd.R_lower ho3 (below_size (qm_ HB.out))); have n1_ := A0_ (below_step (qm_ HB.out) hb); clear HB; have HO53 := n0_; have HB := n1_; clear n0_ n1_ hb ho3 hcza_0 hfza_0 hcza_1 hfza_1 hcza_2 hfza_2; have hczb_0 : w53.cell? ⟨gb2, 0, none⟩ = some (.slice none 0 0) := (blk_cell BK2.out 0).trans rfl; have hfzb_0 := blk_frozen BK2.out 0; have hczb_1 : w53.cell? ⟨gb2, 1, none⟩ = some (.int .u8 0) := (blk_cell BK2.out 1).trans rfl; have hfzb_1 := blk_frozen BK2.out 1; have hczb_2 : w53.cell? ⟨gb2, 2, none⟩ = some (.nilFunc) := (blk_cell BK2.out 2).trans rfl; have hfzb_2 := blk_frozen BK2.out 2;))
 refine bodyPost_ret (v := .tuple #[.agg #[.slice (some ad_) 1 cc_, .int .u8 0, .func (Fn.func 96) #[] #[]], .bool true]) ?_ rfl ⟨.slice (some ad_) 1 cc_, ?_, ?_, ?_⟩
 ·have BKf := blk_set (blk_set (blk_set BK2.out 0 (.slice (some ad_) 1 cc_)) 1 (.int .u8 0)) 2 (.func (Fn.func 96) #[] #[])
  generalize ((w53.setCell ⟨gb2, 0, none⟩ (.slice (some ad_) 1 cc_)).setCell ⟨gb2, 1, none⟩ (.int .u8 0)).setCell ⟨gb2, 2, none⟩ (.func (Fn.func 96) #[] #[]) = W at BKf ⊢
  have hc0 : W.cell? ⟨gb2, 0, none⟩ = some (.slice (some ad_) 1 cc_) := (blk_cell BKf 0).trans rfl
  have hc1 : W.cell? ⟨gb2, 1, none⟩ = some (.int .u8 0) := (blk_cell BKf 1).trans rfl
  have hc2 : W.cell? ⟨gb2, 2, none⟩ = some (.func (Fn.func 96) #[] #[]) := (blk_cell BKf 2).trans rfl
  simp [results, Try.results68, go_sem, hc0, hc1, hc2]
 ·rfl
 ·exact Kd.R_set (Kd.R_set (Kd.R_set HO53.out BK2.out ne94 0 _) (blk_set BK2.out 0 _) ne94 1 _) (blk_set (blk_set BK2.out 0 _) 1 _) ne94 2 _
 ·exact below_set (below_set (below_set HB.out GE2.out) GE2.out) GE2.out
theorem cuts_table.at15 (a0 : Int) (h : a0 = 15) (w : World) : Calls Try.prog 68 #[.int .u8 a0] w fun e w' => cuts_table.post a0 w e w' := by
 have hu54 := Try.underlying54
 have HB := A0_ (Below.refl w.heap.size w)
 subst h
 go_enter Try.func68, Try.ntmps68
 go_wp2_with (first | ((with_reducible refine gate_dst (N := 2) rfl ?_); refine box_event ?hg (N := 2) ?hd (cs := #[.slice none 0 0, .int .u8 0, .nilFunc]) (t := 94) ?hr ?_; (case hd => rfl); (case hg => rfl); (case hr => first | (go_simp; done) | (go_simp; rfl)); intro gb2 hg w2 hbox hb;  have n0_ := A0_ (below_step (qm_ HB.out) hb); have n1_ := A0_ hbox; have n2_ := A0_ ((by rw [hg]; exact (below_size (qm_ HB.out))) : w.heap.size ≤ gb2); clear HB; have HB := n0_; have BK2 := n1_; have GE2 := n2_; clear n0_ n1_ n2_ hb hbox hg) | ((with_reducible refine gate_dst (N := 8) rfl ?_); refine Kd.R_lit k54 _ 54 ?hg (N := 8) ?hd (xs := ([(⟨false, 0, true⟩ : S54)] : List S54)) (inner := [.bool false, .int .i64 0, .bool true]) (ok := fun _ => True) (okp := fun _ => True) ?hr ?hp (fun _ hk => hk) trivial (Below.refl _ _) (Nat.le_refl _) (by simp) ?_; (case hd => rfl); (case hg => rfl); (case hr => first | (go_simp; done) | (go_simp; rfl)); (case hp => exact (Reps.c3 (show Kd.M k54 _ _ _ (⟨false, 0, true⟩ : S54) [.bool false, .int .i64 0, .bool true] from (k54_mkM _ _ _ (⟨false, 0, true⟩ : S54) )) (Reps.none _ _))); intro v_ w8 ho3 hb hg_ hnew_; obtain ⟨ad_, cc_, rfl⟩ := (show ∃ (ad : Addr) (c : Nat), v_ = .slice (some ad) 1 c from Kd.R_slice1 ho3 (by simp)); clear hg_ hnew_; have nb_ := A0_ (blk_below BK2.out hb); clear BK2; have BK2 := nb_; clear nb_; have n0_ := A0_ (Kd.R_lower ho3 (below_size (qm_ HB.out))); have n1_ := A0_ (below_step (qm_ HB.out) hb); clear HB; have HO8 := n0_; have HB := n1_; clear n0_ n1_ hb ho3; have hcza_0 : w8.cell? ⟨gb2, 0, none⟩ = some (.slice none 0 0) := (blk_cell BK2.out 0).trans rfl; have hfza_0 := blk_frozen BK2.out 0; have hcza_1 : w8.cell? ⟨gb2, 1, none⟩ = some (.int .u8 0) := (blk_cell BK2.out 1).trans rfl; have hfza_1 := blk_frozen BK2.out 1; have hcza_2 : w8.cell? ⟨gb2, 2, none⟩ = some (.nilFunc) := (blk_cell BK2.out 2).trans rfl; have hfza_2 := blk_frozen BK2.out 2;) | (go_at_call 94; (with_reducible refine (cuts_both.calls false _ _ rfl).mono ?_); rintro e wb ⟨v_, rfl, ho3, hb⟩; obtain ⟨ad2_, cc2_, rfl⟩ := (show ∃ (ad : Addr) (c : Nat), v_ = .slice (some ad) 2 c from Kd.R_slice1 ho3 (by simp)); have nb_ := A0_ (blk_below BK2.out hb); clear BK2; have BK2 := nb_; clear nb_; have n0_ := A0_ (Kd.R_lower ho3 (below_size (qm_ HB.out))); have n1_ := A0_ (below_step (qm_ HB.out) hb); clear HB; have HOb := n0_; have HB := n1_; clear n0_ n1_ hb ho3 hcza_0 hfza_0 hcza_1 hfza_1 hcza_2 hfza_2; have hczb_0 : wb.cell? ⟨gb2, 0, none⟩ = some (.slice none 0 0) := (blk_cell BK2.out 0).trans rfl; have hfzb_0 := blk_frozen BK2.out 0; have hczb_1 : wb.cell? ⟨gb2, 1, none⟩ = some (.int .u8 0) := (blk_cell BK2.out 1).trans rfl; have hfzb_1 := blk_frozen BK2.out 1; have hczb_2 : wb.cell? ⟨gb2, 2, none⟩ = some (.nilFunc) := (blk_cell BK2.out 2).trans rfl; have hfzb_2 := blk_frozen BK2.out 2;))
 refine bodyPost_ret (v := .tuple #[.agg #[.slice (some ad2_) 2 cc2_, .int .u8 1, .func (Fn.func 90) #[] #[]], .bool true]) ?_ rfl ⟨.slice (some ad2_) 2 cc2_, ?_, ?_, ?_⟩
 ·have BKf := blk_set (blk_set (blk_set BK2.out 0 (.slice (some ad2_) 2 cc2_)) 1 (.int .u8 1)) 2 (.func (Fn.func 90) #[] #[])
  generalize ((wb.setCell ⟨gb2, 0, none⟩ (.slice (some ad2_) 2 cc2_)).setCell ⟨gb2, 1, none⟩ (.int .u8 1)).setCell ⟨gb2, 2, none⟩ (.func (Fn.func 90) #[] #[]) = W at BKf ⊢
  have hc0 : W.cell? ⟨gb2, 0, none⟩ = some (.slice (some ad2_) 2 cc2_) := (blk_cell BKf 0).trans rfl
  have hc1 : W.cell? ⟨gb2, 1, none⟩ = some (.int .u8 1) := (blk_cell BKf 1).trans rfl
  have hc2 : W.cell? ⟨gb2, 2, none⟩ = some (.func (Fn.func 90) #[] #[]) := (blk_cell BKf 2).trans rfl
  simp [results, Try.results68, go_sem, hc0, hc1, hc2]
 ·rfl
 ·exact Kd.R_set (Kd.R_set (Kd.R_set HOb.out BK2.out ne94 0 _) (blk_set BK2.out 0 _) ne94 1 _) (blk_set (blk_set BK2.out 0 _) 1 _) ne94 2 _
 ·exact below_set (below_set (below_set HB.out GE2.out) GE2.out) GE2.out
theorem cuts_table.at0 (a0 : Int) (h1 : (a0 == 1) = false) (h2 : (a0 == 2) = false) (h3 : (a0 == 3) = false) (h4 : (a0 == 4) = false) (h5 : (a0 == 5) = false) (h6 : (a0 == 6) = false) (h7 : (a0 == 7) = false) (h8 : (a0 == 8) = false) (h9 : (a0 == 9) = false) (h10 : (a0 == 10) = false) (h11 : (a0 == 11) = false) (h12 : (a0 == 12) = false) (h13 : (a0 == 13) = false) (h14 : (a0 == 14) = false) (h15 : (a0 == 15) = false) (hv : cpar a0 = 0 ∧ csig a0 = .nilFunc ∧ cis a0 = false ∧ crays a0 = []) (w : World) : Calls Try.prog 68 #[.int .u8 a0] w fun e w' => cuts_table.post a0 w e w' := by
 have hu54 := Try.underlying54
 have HB := A0_ (Below.refl w.heap.size w)
 skip
 go_enter Try.func68, Try.ntmps68
 go_wp2_with (first | ((with_reducible refine gate_dst (N := 2) rfl ?_); refine box_event ?hg (N := 2) ?hd (cs := #[.slice none 0 0, .int .u8 0, .nilFunc]) (t := 94) ?hr ?_; (case hd => rfl); (case hg => rfl); (case hr => first | (go_simp; done) | (go_simp; rfl)); intro gb2 hg w2 hbox hb;  have n0_ := A0_ (below_step (qm_ HB.out) hb); have n1_ := A0_ hbox; have n2_ := A0_ ((by rw [hg]; exact (below_size (qm_ HB.out))) : w.heap.size ≤ gb2); clear HB; have HB := n0_; have BK2 := n1_; have GE2 := n2_; clear n0_ n1_ n2_ hb hbox hg) | ((with_reducible refine gate_dst (N := 8) rfl ?_); refine Kd.R_lit k54 _ 54 ?hg (N := 8) ?hd (xs := ([(⟨false, 0, true⟩ : S54)] : List S54)) (inner := [.bool false, .int .i64 0, .bool true]) (ok := fun _ => True) (okp := fun _ => True) ?hr ?hp (fun _ hk => hk) trivial (Below.refl _ _) (Nat.le_refl _) (by simp) ?_; (case hd => rfl); (case hg => rfl); (case hr => first | (go_simp; done) | (go_simp; rfl)); (case hp => exact (Reps.c3 (show Kd.M k54 _ _ _ (⟨false, 0, true⟩ : S54) [.bool false, .int .i64 0, .bool true] from (k54_mkM _ _ _ (⟨false, 0, true⟩ : S54) )) (Reps.none _ _))); intro v_ w8 ho3 hb hg_ hnew_; obtain ⟨ad_, cc_, rfl⟩ := (show ∃ (ad : Addr) (c : Nat), v_ = .slice (some ad) 1 c from Kd.R_slice1 ho3 (by simp)); clear hg_ hnew_; have nb_ := A0_ (blk_below BK2.out hb); clear BK2; have BK2 := nb_; clear nb_; have n0_ := A0_ (Kd.R_lower ho3 (below_size (qm_ HB.out))); have n1_ := A0_ (below_step (qm_ HB.out) hb); clear HB; have HO8 := n0_; have HB := n1_; clear n0_ n1_ hb ho3; have hcza_0 : w8.cell? ⟨gb2, 0, none⟩ = some (.slice none 0 0) := (blk_cell BK2.out 0).trans rfl; have hfza_0 := blk_frozen BK2.out 0; have hcza_1 : w8.cell? ⟨gb2, 1, none⟩ = some (.int .u8 0) := (blk_cell BK2.out 1).trans rfl; have hfza_1 := blk_frozen BK2.out 1; have hcza_2 : w8.cell? ⟨gb2, 2, none⟩ = some (.nilFunc) := (blk_cell BK2.out 2).trans rfl; have hfza_2 := blk_frozen BK2.out 2;))
 refine bodyPost_ret (v := .tuple #[.agg #[.slice none 0 0, .int .u8 0, .nilFunc], .bool false]) ?_ rfl ⟨.slice none 0 0, ?_, ?_, ?_⟩
 ·have BKf := blk_set (blk_set (blk_set BK2.out 0 (.slice none 0 0)) 1 (.int .u8 0)) 2 (.nilFunc)
  generalize ((w8.setCell ⟨gb2, 0, none⟩ (.slice none 0 0)).setCell ⟨gb2, 1, none⟩ (.int .u8 0)).setCell ⟨gb2, 2, none⟩ (.nilFunc) = W at BKf ⊢
  have hc0 : W.cell? ⟨gb2, 0, none⟩ = some (.slice none 0 0) := (blk_cell BKf 0).trans rfl
  have hc1 : W.cell? ⟨gb2, 1, none⟩ = some (.int .u8 0) := (blk_cell BKf 1).trans rfl
  have hc2 : W.cell? ⟨gb2, 2, none⟩ = some (.nilFunc) := (blk_cell BKf 2).trans rfl
  simp [results, Try.results68, go_sem, hc0, hc1, hc2]
 ·rw [hv.1, hv.2.1, hv.2.2.1]
 ·rw [hv.2.2.2]; exact Kd.R_nil _ _ _ _ _
 ·exact below_set (below_set (below_set HB.out GE2.out) GE2.out) GE2.out
theorem cuts_table.calls (a0 : Int) (w : World) : Calls Try.prog 68 #[.int .u8 a0] w fun e w' => cuts_table.post a0 w e w' := by
 by_cases h1 : a0 = 1
 ·exact cuts_table.at1 a0 h1 w
 by_cases h2 : a0 = 2
 ·exact cuts_table.at2 a0 h2 w
 by_cases h3 : a0 = 3
 ·exact cuts_table.at3 a0 h3 w
 by_cases h4 : a0 = 4
 ·exact cuts_table.at4 a0 h4 w
 by_cases h5 : a0 = 5
 ·exact cuts_table.at5 a0 h5 w
 by_cases h6 : a0 = 6
 ·exact cuts_table.at6 a0 h6 w
 by_cases h7 : a0 = 7
 ·exact cuts_table.at7 a0 h7 w
 by_cases h8 : a0 = 8
 ·exact cuts_table.at8 a0 h8 w
 by_cases h9 : a0 = 9
 ·exact cuts_table.at9 a0 h9 w
 by_cases h10 : a0 = 10
 ·exact cuts_table.at10 a0 h10 w
 by_cases h11 : a0 = 11
 ·exact cuts_table.at11 a0 h11 w
 by_cases h12 : a0 = 12
 ·exact cuts_table.at12 a0 h12 w
 by_cases h13 : a0 = 13
 ·exact cuts_table.at13 a0 h13 w
 by_cases h14 : a0 = 14
 ·exact cuts_table.at14 a0 h14 w
 by_cases h15 : a0 = 15
 ·exact cuts_table.at15 a0 h15 w
 have hc : cis a0 = false := by unfold cis; exact decide_eq_false (by omega)
 exact cuts_table.at0 a0 (beq_eq_false_iff_ne.mpr h1) (beq_eq_false_iff_ne.mpr h2) (beq_eq_false_iff_ne.mpr h3) (beq_eq_false_iff_ne.mpr h4) (beq_eq_false_iff_ne.mpr h5) (beq_eq_false_iff_ne.mpr h6) (beq_eq_false_iff_ne.mpr h7) (beq_eq_false_iff_ne.mpr h8) (beq_eq_false_iff_ne.mpr h9) (beq_eq_false_iff_ne.mpr h10) (beq_eq_false_iff_ne.mpr h11) (beq_eq_false_iff_ne.mpr h12) (beq_eq_false_iff_ne.mpr h13) (beq_eq_false_iff_ne.mpr h14) (beq_eq_false_iff_ne.mpr h15) ⟨by unfold cpar; simp [*], by unfold csig; rw [hc]; rfl, hc, by unfold crays; simp [*]⟩ w
theorem cuts_table.yes (a0 : Int) (h : cis a0 = true) (w : World) : Calls Try.prog 68 #[.int .u8 a0] w fun e w' => ∃ (A : Option Addr) (c : Nat), e = .returned (.tuple #[.agg #[.slice A (crays a0).length c, .int .u8 (cpar a0), .func (Fn.func (cno a0)) #[] #[]], .bool true]) ∧ Kd.R k54 54 w' w.heap.size (fun _ => True) (.slice A (crays a0).length c) (crays a0) ∧ Below w.heap.size w w' := by
 refine (cuts_table.calls a0 w).mono ?_
 rintro e w' ⟨v, rfl, hr, hb⟩
 obtain ⟨A, c, rfl⟩ := Kd.R_slice hr
 exact ⟨A, c, by unfold csig; rw [h]; rfl, hr, hb⟩
theorem cuts_table.no (a0 : Int) (h : cis a0 = false) (w : World) : Calls Try.prog 68 #[.int .u8 a0] w fun e w' => ∃ (A : Option Addr) (c : Nat), e = .returned (.tuple #[.agg #[.slice A (crays a0).length c, .int .u8 (cpar a0), .nilFunc], .bool false]) ∧ Below w.heap.size w w' := by
 refine (cuts_table.calls a0 w).mono ?_
 rintro e w' ⟨v, rfl, hr, hb⟩
 obtain ⟨A, c, rfl⟩ := Kd.R_slice hr
 exact ⟨A, c, by unfold csig; rw [h]; rfl, hb⟩
end Go.Proofs.Ytgaabjjenlbmhaa.PA
end
