/- Steps of Go functions that the law SpecialProducts uses, told as plain Lean functions, each with the proof that its call comes to what it tells; words on memory; plain facts. No condition beyond those that each text names. -/
import Derived.Test.YtlgapmhjaaajfaaProg
import Derived.WalkMore
import Derived.Laws.BitsAllLaws
import Derived.OpenShut
import Derived.Test.YtlgapmhjaaajfaaSSpecialProducts0
import Derived.Test.YtlgapmhjaaajfaaSSpecialProducts1
import Derived.Test.YtlgapmhjaaajfaaSSpecialProducts2
import Derived.Test.YtlgapmhjaaajfaaSSpecialProducts3
import Derived.Test.YtlgapmhjaaajfaaSSpecialProducts4
import Derived.Test.YtlgapmhjaaajfaaSSpecialProducts5
import Derived.Test.YtlgapmhjaaajfaaSSpecialProducts6
import Derived.Test.YtlgapmhjaaajfaaSSpecialProducts7
import Derived.Test.YtlgapmhjaaajfaaSSpecialProducts8
import Derived.Test.YtlgapmhjaaajfaaSSpecialProducts9
import Derived.Test.YtlgapmhjaaajfaaSSpecialProducts10
set_option maxHeartbeats 2000000
set_option maxRecDepth 100000
section
namespace Go.Proofs.Ytlgapmhjaaajfaa.PA
open Go.RowKit Go.Proofs.YtlgapmhjaaajfaaW.PrintWords Go.Proofs.YtlgapmhjaaajfaaW.PrintLast Go.Proofs.YtlgapmhjaaajfaaW.PrintMore
attribute [local go_sem] max2_int min2_int max_two min_two max_three min_three max_four min_four   -- for this text's walks alone
set_option linter.unusedVariables false
set_option linter.unusedSimpArgs false
mutual
def cutplaneref11_Mul.j0 : Nat → Int → Int → Int → Int → Bool → Int → Int → Int → Int → Option (Int × Int × Int × Int × Bool)
 | 0, _, _, _, _, _, _, _, _, _ => none
 | k + 1, x0, x1, x10, x11, x25, x737000, x737001, x738000, x738001 => if x25 = true then (some (0, 0, 0, 0, false)) else (if x10 = 4 then (cutplaneref11_Mul.j1 k x0 x1 x10 x11 true x737000 x737001 x738000 x738001) else (cutplaneref11_Mul.j1 k x0 x1 x10 x11 (x11 == 4) x737000 x737001 x738000 x738001))
def cutplaneref11_Mul.j1 : Nat → Int → Int → Int → Int → Bool → Int → Int → Int → Int → Option (Int × Int × Int × Int × Bool)
 | 0, _, _, _, _, _, _, _, _, _ => none
 | k + 1, x0, x1, x10, x11, x32, x737000, x737001, x738000, x738001 => if x32 = true then ((cutplaneref11_nothing.f x0 0).bind fun bt743 => (some (bt743.1, bt743.2.1, bt743.2.2.1, bt743.2.2.2, true))) else (if x10 = 1 then (cutplaneref11_Mul.j2 k x0 x1 true x737000 x737001 x738000 x738001) else (cutplaneref11_Mul.j2 k x0 x1 (x11 == 1) x737000 x737001 x738000 x738001))
def cutplaneref11_Mul.j2 : Nat → Int → Int → Bool → Int → Int → Int → Int → Option (Int × Int × Int × Int × Bool)
 | 0, _, _, _, _, _, _, _ => none
 | k + 1, x0, x1, x40, x737000, x737001, x738000, x738001 => if x40 = true then ((cutplaneref11_nothing.f x0 1).bind fun bt747 => (some (bt747.1, bt747.2.1, bt747.2.2.1, bt747.2.2.2, true))) else ((cutplaneref11_Box.f k x0 x737000 x737001).bind fun bt751 => ((cutplaneref11_Box.f k x0 x738000 x738001).bind fun bt753 => ((cutplaneref11_product.f k x0 x1 bt751.1 bt751.2 bt753.1 bt753.2).bind fun bt755 => ((cutplaneref03_Inf.f x0 false).bind fun t757 => ((cutplaneref11_turned.f k x0 bt755.1 bt755.2 t757).bind fun bt758 => (some (bt758.1, bt758.2, 0, 0, true)))))))
end
def cutplaneref11_Mul.f (k : Nat) (a0 : Int) (a1 : Int) (a2_0 : Int) (a2_1 : Int) (a3_0 : Int) (a3_1 : Int) : Option (Int × Int × Int × Int × Bool) := (cutplaneref10_Class.f k a0 a2_0 a2_1).bind fun t739 => ((cutplaneref10_Class.f k a0 a3_0 a3_1).bind fun t740 => ((cutplaneref10_Finite.f k a0 a2_0 a2_1).bind fun t741 => (if t741 = true then ((cutplaneref10_Finite.f k a0 a3_0 a3_1).bind fun t742 => (cutplaneref11_Mul.j0 k a0 a1 t739 t740 t742 a2_0 a2_1 a3_0 a3_1)) else (cutplaneref11_Mul.j0 k a0 a1 t739 t740 false a2_0 a2_1 a3_0 a3_1))))
def cutplaneref11_Mul.T1 : Bool × List (List Nat × List Nat) := (true, [([], []), ([], []), ([0, 1], [0, 1]), ([], []), ([], []), ([3, 4, 2], [3, 4]), ([2, 5, 0, 1, 2], [2]), ([5, 6, 0, 1, 2, 3, 4, 5, 6], [5])])
def cutplaneref11_Mul.B1 : List Nat := [0, 0, 3, 0, 0, 31, 63, 127]
theorem cutplaneref11_Mul.tab1 : rtab .any (opsOf Try.f9 1) = cutplaneref11_Mul.T1 := by kernel_rfl
theorem cutplaneref11_Mul.bits1 : waitsOk cutplaneref11_Mul.T1.2 cutplaneref11_Mul.B1 = true := by kernel_rfl
def cutplaneref11_Mul.T8 : Bool × List (List Nat × List Nat) := (true, [([], []), ([], []), ([], []), ([], []), ([], []), ([3, 4], [3, 4]), ([], []), ([], []), ([6, 7, 5], [6, 7]), ([1, 2, 5, 8, 8], [1, 2, 5, 8]), ([], []), ([10, 9], [10]), ([0, 9, 11, 11], [0, 9, 11]), ([12], [12]), ([13, 12, 0, 1, 2, 3, 4, 5, 6, 7, 8, 9, 10, 11, 12, 13], [13]), ([14, 0, 1, 2, 3, 4, 5, 6, 7, 8, 9, 10, 11, 12, 13, 14], [])])
def cutplaneref11_Mul.B8 : List Nat := [0, 0, 0, 0, 0, 24, 0, 0, 248, 510, 0, 2046, 4095, 8191, 16383, 32767]
theorem cutplaneref11_Mul.tab8 : rtab .any (opsOf Try.f9 8) = cutplaneref11_Mul.T8 := by kernel_rfl
theorem cutplaneref11_Mul.bits8 : waitsOk cutplaneref11_Mul.T8.2 cutplaneref11_Mul.B8 = true := by kernel_rfl
theorem cutplaneref11_Mul.calls (k : Nat) (a0 : Int) (a1 : Int) (a2_0 : Int) (a2_1 : Int) (a3_0 : Int) (a3_1 : Int) (r1 : Int) (r2 : Int) (r3 : Int) (r4 : Int) (r5 : Bool) (w : World) (h : cutplaneref11_Mul.f k a0 a1 a2_0 a2_1 a3_0 a3_1 = some (r1, r2, r3, r4, r5)) :
  Calls Try.prog 9 #[.int .u8 a0, .int .u8 a1, .agg #[.int .u64 a2_0, .int .u64 a2_1], .agg #[.int .u64 a3_0, .int .u64 a3_1]] w fun e w' => e = .returned (.tuple #[.agg #[.int .u64 r1, .int .u64 r2, .int .u8 r3, .int .u8 r4], .bool r5]) ∧ Below w.heap.size w w' := by
 have hu26 := Try.underlying26
 have hu29 := Try.underlying29
 have HB := A0_ (Below.refl w.heap.size w)
 have H := h
 clear h
 unfold cutplaneref11_Mul.f at H
 obtain ⟨t739, A5, H⟩ := bs_ H
 try dsimp -simprocs only at H
 obtain ⟨t740, A6, H⟩ := bs_ H
 try dsimp -simprocs only at H
 have HC7 := A0_ H
 clear H
 go_enter Try.func9, Try.ntmps9
 try go_wp2_with (first | ((with_reducible refine gate_dst (N := 6) rfl ?_); refine box_event ?hg (N := 6) ?hd (cs := #[.int .u64 a2_0, .int .u64 a2_1]) (t := 26) ?hr ?_; (case hd => rfl); (case hg => rfl); (case hr => first | (go_simp; done) | (go_simp; rfl)); intro gb736 hg w8 hbox hb; have BK736 := A0_ (hbox); have GW736 := A0_ ((by rw [hg]; exact (below_size (qm_ HB.out)) : w.heap.size ≤ gb736)); have GE736 := GW736; replace HB := hs_ hb; clear hb hbox hg) | ((with_reducible refine gate_dst (N := 7) rfl ?_); refine box_event ?hg (N := 7) ?hd (cs := #[.int .u64 a3_0, .int .u64 a3_1]) (t := 26) ?hr ?_; (case hd => rfl); (case hg => rfl); (case hr => first | (go_simp; done) | (go_simp; rfl)); intro gb737 hg w9 hbox hb; have BK737 := A0_ (hbox); have GW737 := A0_ ((by rw [hg]; exact (below_size qz_) : w.heap.size ≤ gb737)); have GE737 := GW737; replace HB := hs_ hb; have NB736_737 := nl_ hg BK736; have NB737_736 := ng_ hg BK736; replace BK736 := bb_ BK736 hb; clear hb hbox hg) | ((with_reducible refine gate_dst (N := 8) rfl ?_); refine box_event ?hg (N := 8) ?hd (cs := #[.int .u64 0, .int .u64 0, .int .u8 0, .int .u8 0]) (t := 29) ?hr ?_; (case hd => rfl); (case hg => rfl); (case hr => first | (go_simp; done) | (go_simp; rfl)); intro gb738 hg w10 hbox hb; have BK738 := A0_ (hbox); have GW738 := A0_ ((by rw [hg]; exact (below_size qz_) : w.heap.size ≤ gb738)); have GE738 := GW738; replace HB := hs_ hb; have NB736_738 := nl_ hg BK736; have NB738_736 := ng_ hg BK736; replace BK736 := bb_ BK736 hb; have NB737_738 := nl_ hg BK737; have NB738_737 := ng_ hg BK737; replace BK737 := bb_ BK737 hb; clear hb hbox hg))
 replace BK736 := A0_ (blk_drew BK736.out)
 replace BK737 := A0_ (blk_drew BK737.out)
 replace BK738 := A0_ (blk_drew BK738.out)
 replace HB := A0_ (below_drew1 HB.out)
 refine start_ (n := 8) (S := fun w' => w'.cell? ⟨gb736, 0, none⟩ = some (.int .u64 a2_0) ∧ w'.cell? ⟨gb736, 1, none⟩ = some (.int .u64 a2_1) ∧ w'.cell? ⟨gb737, 0, none⟩ = some (.int .u64 a3_0) ∧ w'.cell? ⟨gb737, 1, none⟩ = some (.int .u64 a3_1)) (ds := []) #[false, false, false, false, false, false, false, false] (by kernel_rfl) rfl rfl ⟨bC_ BK736.out 0, bC_ BK736.out 1, bC_ BK737.out 0, bC_ BK737.out 1⟩ (fun hHeld => ?_); refine with_tabW cutplaneref11_Mul.tab1 cutplaneref11_Mul.bits1 (fun HT_ HW_ => ?_)
 generalize w10.drew = w11 at BK736 BK737 BK738 HB hHeld ⊢
 refine pure_ (i := 0) (N := some 12) (v := ?_) (a' := ?_) #[true, false, false, false, false, false, false, false] rfl rfl (any_of HT_.out (by kernel_rfl)) (fun _ _ _ h => h) (Or.inl ⟨by rfl, ?_⟩) ?_ ?_
 rotate_left
 ·intro w'
  go_simp
  with_reducible rfl
 rotate_left
 ·simp only [Act.put, sp_, i64_w, i32_w]
  rfl
 refine pure_ (i := 3) (N := some 15) (v := ?_) (a' := ?_) #[true, false, false, true, false, false, false, false] rfl rfl (any_of HT_.out (by kernel_rfl)) (fun _ _ _ h => h) (Or.inl ⟨by rfl, ?_⟩) ?_ ?_
 rotate_left
 ·intro w'
  go_simp
  with_reducible rfl
 rotate_left
 ·simp only [Act.put, sp_, i64_w, i32_w]
  rfl
 refine take_ (i := 1) (N := some 13) (v := ?_) (a' := ?_) #[true, true, false, true, false, false, false, false] rfl rfl (take_ofW HT_.out HW_.out (by kernel_rfl)) (fun _ _ _ h => h) (Or.inl ⟨by rfl, ?_⟩) hHeld ?_ ?_
 rotate_left
 ·rintro w' ⟨s0, s1, s2, s3⟩
  go_simp
  with_reducible rfl
 rotate_left
 ·simp only [Act.put, sp_, i64_w, i32_w]
  rfl
 refine take_ (i := 4) (N := some 16) (v := ?_) (a' := ?_) #[true, true, false, true, true, false, false, false] rfl rfl (take_ofW HT_.out HW_.out (by kernel_rfl)) (fun _ _ _ h => h) (Or.inl ⟨by rfl, ?_⟩) hHeld ?_ ?_
 rotate_left
 ·rintro w' ⟨s0, s1, s2, s3⟩
  go_simp
  with_reducible rfl
 rotate_left
 ·simp only [Act.put, sp_, i64_w, i32_w]
  rfl
 refine one_ (i := 2) (N := some 14) #[true, true, true, true, true, false, false, false] rfl rfl (one_of HT_.out (by kernel_rfl)) (by decide) (fun K hK => ?_)
 refine goes_ Try.func12 (by kernel_rfl) rfl #[.int .u8 a0, .agg #[.int .u64 a2_0, .int .u64 a2_1]] (by rfl) rfl rfl (am_ rfl) ?_
 with_reducible refine (cutplaneref10_Class.calls k a0 a2_0 a2_1 t739 _ A5.out).mono ?_
 rintro e w12 ⟨rfl, hb⟩
 refine ⟨_, rfl, ?_⟩
 replace BK736 := bb_ BK736 hb
 replace BK737 := bb_ BK737 hb
 replace BK738 := bb_ BK738 hb
 replace HB := hs_ hb
 (try clear hb)
 refine hK.out _ _ ⟨bC_ BK736.out 0, bC_ BK736.out 1, bC_ BK737.out 0, bC_ BK737.out 1⟩ (fun hHeld => ?_)
 clear hK K
 refine norm_ (a' := ?_) ?_ ?_
 rotate_left
 ·show Act.put _ (some 14) _ = _
  simp only [Act.put, sp_, i64_w, i32_w]
  rfl
 refine one_ (i := 5) (N := some 17) #[true, true, true, true, true, true, false, false] rfl rfl (one_of HT_.out (by kernel_rfl)) (by decide) (fun K hK => ?_)
 refine goes_ Try.func12 (by kernel_rfl) rfl #[.int .u8 a0, .agg #[.int .u64 a3_0, .int .u64 a3_1]] (by rfl) rfl rfl (am_ rfl) ?_
 with_reducible refine (cutplaneref10_Class.calls k a0 a3_0 a3_1 t740 _ A6.out).mono ?_
 rintro e w13 ⟨rfl, hb⟩
 refine ⟨_, rfl, ?_⟩
 replace BK736 := bb_ BK736 hb
 replace BK737 := bb_ BK737 hb
 replace BK738 := bb_ BK738 hb
 replace HB := hs_ hb
 (try clear hb)
 refine hK.out _ _ ⟨bC_ BK736.out 0, bC_ BK736.out 1, bC_ BK737.out 0, bC_ BK737.out 1⟩ (fun hHeld => ?_)
 clear hK K
 refine norm_ (a' := ?_) ?_ ?_
 rotate_left
 ·show Act.put _ (some 17) _ = _
  simp only [Act.put, sp_, i64_w, i32_w]
  rfl
 refine pure_ (i := 6) (N := some 10) (v := ?_) (a' := ?_) #[true, true, true, true, true, true, true, false] rfl rfl (any_of HT_.out (by kernel_rfl)) (fun _ _ _ h => h) (Or.inl ⟨by rfl, ?_⟩) ?_ ?_
 rotate_left
 ·intro w'
  go_simp
  with_reducible rfl
 rotate_left
 ·simp only [Act.put, sp_, i64_w, i32_w]
  rfl
 refine pure_ (i := 7) (N := some 11) (v := ?_) (a' := ?_) #[true, true, true, true, true, true, true, true] rfl rfl (any_of HT_.out (by kernel_rfl)) (fun _ _ _ h => h) (Or.inl ⟨by rfl, ?_⟩) ?_ ?_
 rotate_left
 ·intro w'
  go_simp
  with_reducible rfl
 rotate_left
 ·simp only [Act.put, sp_, i64_w, i32_w]
  rfl
 refine done_ (done_of HT_.out (by kernel_rfl)) ?_
 go_upto_region 2 with (fail)
 go_cut [25] (fun v25 wc => ∃ (kq : Nat) (x25_6 : Bool), v25 = .bool x25_6 ∧ Aside0 (cutplaneref11_Mul.j0 kq a0 a1 t739 t740 x25_6 a2_0 a2_1 a3_0 a3_1 = some (r1, r2, r3, r4, r5)) ∧ Aside0 (kq ≤ k) ∧ Aside0 (wc.heap[gb736]? = some (.cells #[.int .u64 a2_0, .int .u64 a2_1] 26 (0, 0))) ∧ Aside0 (wc.heap[gb737]? = some (.cells #[.int .u64 a3_0, .int .u64 a3_1] 26 (0, 0))) ∧ Aside0 (wc.heap[gb738]? = some (.cells #[.int .u64 0, .int .u64 0, .int .u8 0, .int .u8 0] 29 (0, 0))) ∧ Aside0 (Below w.heap.size w wc))
 case first =>
  have H := HC7.out
  clear HC7
  obtain ⟨t741, A14, H⟩ := bs_ H
  try dsimp -simprocs only at H
  by_cases c15 : t741 = true
  ·subst c15
   rw [if_pos rfl] at H
   obtain ⟨t742, A16, H⟩ := bs_ H
   try dsimp -simprocs only at H
   have H' := A0_ H
   clear H
   have hnb17 := NB736_737.out
   have hnc17 := NB737_736.out
   have hnb18 := NB736_738.out
   have hnc18 := NB738_736.out
   have hcz19 := bc2_ BK736.out
   have hfz19 := bf2_ BK736.out
   go_wp2_with (first | ((with_reducible refine gate_callee (f := 15) rfl ?_); refine goesL_ (some 20) rfl rfl Try.func15 (by kernel_rfl) rfl #[.int .u8 a0, .agg #[.int .u64 a2_0, .int .u64 a2_1]] rfl (am_ rfl) ?_; (with_reducible refine (cutplaneref10_Finite.calls k a0 a2_0 a2_1 true _ A14.out).mono ?_); rintro e w20 ⟨rfl, hb⟩; refine ⟨_, rfl, ?_⟩; replace BK736 := bb_ BK736 hb; replace BK737 := bb_ BK737 hb; replace BK738 := bb_ BK738 hb; replace HB := hs_ hb; (try clear hb); have hnb21 := NB737_738.out; have hnc21 := NB738_737.out; have hcz22 := bc2_ BK737.out; have hfz22 := bf2_ BK737.out) | (go_at_call 15; (with_reducible refine (cutplaneref10_Finite.calls k a0 a3_0 a3_1 t742 _ A16.out).mono ?_); rintro e w23 ⟨rfl, hb⟩; replace BK736 := bb_ BK736 hb; replace BK737 := bb_ BK737 hb; replace BK738 := bb_ BK738 hb; replace HB := hs_ hb; (try clear hb)))
   go_meet
   case rel => exact ⟨_, (t742), (by first | rfl | (simp; done) | (simp [*]; done)), H', ⟨by first | omega | exact Nat.le_refl _⟩, ⟨bm_ BK736.out⟩, ⟨bm_ BK737.out⟩, ⟨bm_ BK738.out⟩, ⟨qz_⟩⟩
  ·replace c15 := Bool.eq_false_iff.mpr c15
   subst c15
   rw [if_neg (show ¬ (false = true) by decide)] at H
   have H' := A0_ H
   clear H
   have hnb24 := NB736_737.out
   have hnc24 := NB737_736.out
   have hnb25 := NB736_738.out
   have hnc25 := NB738_736.out
   have hcz26 := bc2_ BK736.out
   have hfz26 := bf2_ BK736.out
   go_wp2_with (first | ((with_reducible refine gate_callee (f := 15) rfl ?_); refine goesL_ (some 20) rfl rfl Try.func15 (by kernel_rfl) rfl #[.int .u8 a0, .agg #[.int .u64 a2_0, .int .u64 a2_1]] rfl (am_ rfl) ?_; (with_reducible refine (cutplaneref10_Finite.calls k a0 a2_0 a2_1 false _ A14.out).mono ?_); rintro e w27 ⟨rfl, hb⟩; refine ⟨_, rfl, ?_⟩; replace BK736 := bb_ BK736 hb; replace BK737 := bb_ BK737 hb; replace BK738 := bb_ BK738 hb; replace HB := hs_ hb; (try clear hb)))
   go_meet
   case rel => exact ⟨_, (false), (by first | rfl | (simp; done) | (simp [*]; done)), H', ⟨by first | omega | exact Nat.le_refl _⟩, ⟨bm_ BK736.out⟩, ⟨bm_ BK737.out⟩, ⟨bm_ BK738.out⟩, ⟨qz_⟩⟩
 case rest =>
  clear HC7
  try clear c1
  try clear c2
  try clear p2
  try clear c9
  try clear c12
  try clear c15
  try clear c17
  try clear c18
  try clear c21
  try clear c24
  try clear c25
  try clear hcz19
  try clear hcz22
  try clear hcz26
  try clear hfz19
  try clear hfz22
  try clear hfz26
  obtain ⟨kq, x25_6, rfl, HA, HJ6, BK736, BK737, BK738, HB⟩ := hcut
  cases kq with
  | zero => exact absurd HA.out (by simp [cutplaneref11_Mul.j0])
  | succ kj6 =>
   have H := HA.out
   clear HA
   simp only [cutplaneref11_Mul.j0] at H
   by_cases c28 : x25_6 = true
   ·subst c28
    rw [if_pos rfl] at H
    simp only [Option.some.injEq, Prod.mk.injEq] at H
    obtain ⟨rfl, rfl, rfl, rfl, rfl⟩ := H
    have hnb29 := NB738_736.out
    have hnc29 := NB736_738.out
    have hnb30 := NB738_737.out
    have hnc30 := NB737_738.out
    have hcz31 := bc4_ BK738.out
    have hfz31 := bf4_ BK738.out
    go_wp2
    refine bodyPost_ret (results_ct rfl _ _ gb738 29 #[.int .u64 0, .int .u64 0, .int .u8 0, .int .u8 0] (0, 0) _ rfl (by (with_reducible repeat first | apply bN_ | apply bD_ | apply bA_); refine blk_put (cs := #[.int .u64 0, .int .u64 0, .int .u8 0, .int .u8 0]) ?_ 3 _ rfl; refine blk_put (cs := #[.int .u64 0, .int .u64 0, .int .u8 0, .int .u8 0]) ?_ 2 _ rfl; refine blk_put (cs := #[.int .u64 0, .int .u64 0, .int .u8 0, .int .u8 0]) ?_ 1 _ rfl; refine blk_put (cs := #[.int .u64 0, .int .u64 0, .int .u8 0, .int .u8 0]) ?_ 0 _ rfl; exact bm_ BK738.out) Try.underlying29 rfl (by kernel_rfl)) rfl ?_
    exact ⟨by first | rfl | (simp [errW_none, errW_some] <;> rfl) | (simp [*, errW_none, errW_some] <;> rfl), qz_⟩
   ·replace c28 := Bool.eq_false_iff.mpr c28
    subst c28
    rw [if_neg (show ¬ (false = true) by decide)] at H
    have HC32 := A0_ H
    clear H
    go_upto_region 4 with (fail)
    go_cut [32] (fun v32 wc => ∃ (kq : Nat) (x32_31 : Bool), v32 = .bool x32_31 ∧ Aside0 (cutplaneref11_Mul.j1 kq a0 a1 t739 t740 x32_31 a2_0 a2_1 a3_0 a3_1 = some (r1, r2, r3, r4, r5)) ∧ Aside0 (kq ≤ kj6) ∧ Aside0 (wc.heap[gb736]? = some (.cells #[.int .u64 a2_0, .int .u64 a2_1] 26 (0, 0))) ∧ Aside0 (wc.heap[gb737]? = some (.cells #[.int .u64 a3_0, .int .u64 a3_1] 26 (0, 0))) ∧ Aside0 (wc.heap[gb738]? = some (.cells #[.int .u64 0, .int .u64 0, .int .u8 0, .int .u8 0] 29 (0, 0))) ∧ Aside0 (Below w.heap.size w wc))
    case first =>
     have H := HC32.out
     clear HC32
     by_cases c33 : t739 = 4
     ·rw [if_pos c33] at H
      have c33b0 : (t739 == 4) = true := beq_iff_eq.mpr c33
      have c33b1 : (t739 != 4) = false := bne_eq_false_iff_eq.mpr c33
      clear c33
      (first | rw [c33b0] | (simp only [i64_w, i32_w]; rw [c33b0]) | skip)
      have H' := A0_ H
      clear H
      go_wp2
      go_meet
      case rel => exact ⟨_, (true), (by first | rfl | (simp; done) | (simp [*]; done)), H', ⟨by have := HJ6.out; first | omega | exact Nat.le_refl _⟩, ⟨bm_ BK736.out⟩, ⟨bm_ BK737.out⟩, ⟨bm_ BK738.out⟩, ⟨qz_⟩⟩
     ·rw [if_neg c33] at H
      have c33b0 : (t739 == 4) = false := beq_eq_false_iff_ne.mpr c33
      have c33b1 : (t739 != 4) = true := bne_iff_ne.mpr c33
      (first | rw [c33b0] | (simp only [i64_w, i32_w]; rw [c33b0]) | skip)
      have H' := A0_ H
      clear H
      go_wp2
      go_meet
      case rel => exact ⟨_, ((t740 == 4)), (by first | rfl | (simp; done) | (simp [*]; done)), H', ⟨by have := HJ6.out; first | omega | exact Nat.le_refl _⟩, ⟨bm_ BK736.out⟩, ⟨bm_ BK737.out⟩, ⟨bm_ BK738.out⟩, ⟨qz_⟩⟩
    case rest =>
     clear HC32
     try clear c1
     try clear c2
     try clear p2
     try clear c3
     try clear c9
     try clear c12
     try clear c15
     try clear c17
     try clear c18
     try clear c21
     try clear c24
     try clear c25
     try clear c28
     try clear c29
     try clear c30
     try clear c33
     try clear c33b0
     try clear c33b1
     try clear hcz19
     try clear hcz22
     try clear hcz26
     try clear hcz31
     try clear hfz19
     try clear hfz22
     try clear hfz26
     try clear hfz31
     try clear p2
     obtain ⟨kq, x32_31, rfl, HA, HJ31, BK736, BK737, BK738, HB⟩ := hcut
     cases kq with
     | zero => exact absurd HA.out (by simp [cutplaneref11_Mul.j1])
     | succ kj31 =>
      have H := HA.out
      clear HA
      simp only [cutplaneref11_Mul.j1] at H
      by_cases c34 : x32_31 = true
      ·subst c34
       rw [if_pos rfl] at H
       obtain ⟨⟨t743, t744, t745, t746⟩, A35, H⟩ := bs_ H
       try dsimp -simprocs only at H
       simp only [Option.some.injEq, Prod.mk.injEq] at H
       obtain ⟨rfl, rfl, rfl, rfl, rfl⟩ := H
       go_wp2_with (first | ((with_reducible refine gate_callee (f := 23) rfl ?_); refine goesL_ (some 34) rfl rfl Try.func23 (by kernel_rfl) rfl #[.int .u8 a0, .int .u8 0] rfl (am_ rfl) ?_; (with_reducible refine (cutplaneref11_nothing.calls a0 0 t743 t744 t745 t746 _ A35.out).mono ?_); rintro e w36 ⟨rfl, hb⟩; refine ⟨_, rfl, ?_⟩; replace BK736 := bb_ BK736 hb; replace BK737 := bb_ BK737 hb; replace BK738 := bb_ BK738 hb; replace HB := hs_ hb; (try clear hb); have hnb37 := NB738_736.out; have hnc37 := NB736_738.out; have hnb38 := NB738_737.out; have hnc38 := NB737_738.out; have hcz39 := bc4_ BK738.out; have hfz39 := bf4_ BK738.out))
       refine bodyPost_ret (results_ct rfl _ _ gb738 29 #[.int .u64 t743, .int .u64 t744, .int .u8 t745, .int .u8 t746] (0, 0) _ rfl (by (with_reducible repeat first | apply bN_ | apply bD_ | apply bA_); refine blk_put (cs := #[.int .u64 t743, .int .u64 t744, .int .u8 t745, .int .u8 0]) ?_ 3 _ rfl; refine blk_put (cs := #[.int .u64 t743, .int .u64 t744, .int .u8 0, .int .u8 0]) ?_ 2 _ rfl; refine blk_put (cs := #[.int .u64 t743, .int .u64 0, .int .u8 0, .int .u8 0]) ?_ 1 _ rfl; refine blk_put (cs := #[.int .u64 0, .int .u64 0, .int .u8 0, .int .u8 0]) ?_ 0 _ rfl; exact bm_ BK738.out) Try.underlying29 rfl (by kernel_rfl)) rfl ?_
       exact ⟨by first | rfl | (simp [errW_none, errW_some] <;> rfl) | (simp [*, errW_none, errW_some] <;> rfl), qz_⟩
      ·replace c34 := Bool.eq_false_iff.mpr c34
       subst c34
       rw [if_neg (show ¬ (false = true) by decide)] at H
       have HC40 := A0_ H
       clear H
       go_upto_region 6 with (fail)
       go_cut [40] (fun v40 wc => ∃ (kq : Nat) (x40_39 : Bool), v40 = .bool x40_39 ∧ Aside0 (cutplaneref11_Mul.j2 kq a0 a1 x40_39 a2_0 a2_1 a3_0 a3_1 = some (r1, r2, r3, r4, r5)) ∧ Aside0 (kq ≤ kj31) ∧ Aside0 (wc.heap[gb736]? = some (.cells #[.int .u64 a2_0, .int .u64 a2_1] 26 (0, 0))) ∧ Aside0 (wc.heap[gb737]? = some (.cells #[.int .u64 a3_0, .int .u64 a3_1] 26 (0, 0))) ∧ Aside0 (wc.heap[gb738]? = some (.cells #[.int .u64 0, .int .u64 0, .int .u8 0, .int .u8 0] 29 (0, 0))) ∧ Aside0 (Below w.heap.size w wc))
       case first =>
        have H := HC40.out
        clear HC40
        by_cases c41 : t739 = 1
        ·rw [if_pos c41] at H
         have c41b0 : (t739 == 1) = true := beq_iff_eq.mpr c41
         have c41b1 : (t739 != 1) = false := bne_eq_false_iff_eq.mpr c41
         clear c41
         (first | rw [c41b0] | (simp only [i64_w, i32_w]; rw [c41b0]) | skip)
         have H' := A0_ H
         clear H
         go_wp2
         go_meet
         case rel => exact ⟨_, (true), (by first | rfl | (simp; done) | (simp [*]; done)), H', ⟨by have := HJ6.out; have := HJ31.out; first | omega | exact Nat.le_refl _⟩, ⟨bm_ BK736.out⟩, ⟨bm_ BK737.out⟩, ⟨bm_ BK738.out⟩, ⟨qz_⟩⟩
        ·rw [if_neg c41] at H
         have c41b0 : (t739 == 1) = false := beq_eq_false_iff_ne.mpr c41
         have c41b1 : (t739 != 1) = true := bne_iff_ne.mpr c41
         (first | rw [c41b0] | (simp only [i64_w, i32_w]; rw [c41b0]) | skip)
         have H' := A0_ H
         clear H
         go_wp2
         go_meet
         case rel => exact ⟨_, ((t740 == 1)), (by first | rfl | (simp; done) | (simp [*]; done)), H', ⟨by have := HJ6.out; have := HJ31.out; first | omega | exact Nat.le_refl _⟩, ⟨bm_ BK736.out⟩, ⟨bm_ BK737.out⟩, ⟨bm_ BK738.out⟩, ⟨qz_⟩⟩
       case rest =>
        clear HC40
        try clear c1
        try clear c2
        try clear p2
        try clear c3
        try clear c4
        try clear c9
        try clear c12
        try clear c15
        try clear c17
        try clear c18
        try clear c21
        try clear c23
        try clear c24
        try clear c25
        try clear c28
        try clear c29
        try clear c30
        try clear c33
        try clear c33b0
        try clear c33b1
        try clear c34
        try clear c37
        try clear c38
        try clear c41
        try clear c41b0
        try clear c41b1
        try clear hcz19
        try clear hcz22
        try clear hcz26
        try clear hcz31
        try clear hcz39
        try clear hfz19
        try clear hfz22
        try clear hfz26
        try clear hfz31
        try clear hfz39
        try clear p2
        obtain ⟨kq, x40_39, rfl, HA, HJ39, BK736, BK737, BK738, HB⟩ := hcut
        cases kq with
        | zero => exact absurd HA.out (by simp [cutplaneref11_Mul.j2])
        | succ kj39 =>
         have H := HA.out
         clear HA
         simp only [cutplaneref11_Mul.j2] at H
         by_cases c42 : x40_39 = true
         ·subst c42
          rw [if_pos rfl] at H
          obtain ⟨⟨t747, t748, t749, t750⟩, A43, H⟩ := bs_ H
          try dsimp -simprocs only at H
          simp only [Option.some.injEq, Prod.mk.injEq] at H
          obtain ⟨rfl, rfl, rfl, rfl, rfl⟩ := H
          go_wp2_with (first | ((with_reducible refine gate_callee (f := 23) rfl ?_); refine goesL_ (some 42) rfl rfl Try.func23 (by kernel_rfl) rfl #[.int .u8 a0, .int .u8 1] rfl (am_ rfl) ?_; (with_reducible refine (cutplaneref11_nothing.calls a0 1 t747 t748 t749 t750 _ A43.out).mono ?_); rintro e w44 ⟨rfl, hb⟩; refine ⟨_, rfl, ?_⟩; replace BK736 := bb_ BK736 hb; replace BK737 := bb_ BK737 hb; replace BK738 := bb_ BK738 hb; replace HB := hs_ hb; (try clear hb); have hnb45 := NB738_736.out; have hnc45 := NB736_738.out; have hnb46 := NB738_737.out; have hnc46 := NB737_738.out; have hcz47 := bc4_ BK738.out; have hfz47 := bf4_ BK738.out))
          refine bodyPost_ret (results_ct rfl _ _ gb738 29 #[.int .u64 t747, .int .u64 t748, .int .u8 t749, .int .u8 t750] (0, 0) _ rfl (by (with_reducible repeat first | apply bN_ | apply bD_ | apply bA_); refine blk_put (cs := #[.int .u64 t747, .int .u64 t748, .int .u8 t749, .int .u8 0]) ?_ 3 _ rfl; refine blk_put (cs := #[.int .u64 t747, .int .u64 t748, .int .u8 0, .int .u8 0]) ?_ 2 _ rfl; refine blk_put (cs := #[.int .u64 t747, .int .u64 0, .int .u8 0, .int .u8 0]) ?_ 1 _ rfl; refine blk_put (cs := #[.int .u64 0, .int .u64 0, .int .u8 0, .int .u8 0]) ?_ 0 _ rfl; exact bm_ BK738.out) Try.underlying29 rfl (by kernel_rfl)) rfl ?_
          exact ⟨by first | rfl | (simp [errW_none, errW_some] <;> rfl) | (simp [*, errW_none, errW_some] <;> rfl), qz_⟩
         ·replace c42 := Bool.eq_false_iff.mpr c42
          subst c42
          rw [if_neg (show ¬ (false = true) by decide)] at H
          obtain ⟨⟨t751, t752⟩, A48, H⟩ := bs_ H
          try dsimp -simprocs only at H
          obtain ⟨⟨t753, t754⟩, A49, H⟩ := bs_ H
          try dsimp -simprocs only at H
          obtain ⟨⟨t755, t756⟩, A50, H⟩ := bs_ H
          try dsimp -simprocs only at H
          obtain ⟨t757, A51, H⟩ := bs_ H
          try dsimp -simprocs only at H
          obtain ⟨⟨t758, t759⟩, A52, H⟩ := bs_ H
          try dsimp -simprocs only at H
          simp only [Option.some.injEq, Prod.mk.injEq] at H
          obtain ⟨rfl, rfl, rfl, rfl, rfl⟩ := H
          try go_wp2
          replace BK736 := A0_ (blk_drew BK736.out)
          replace BK737 := A0_ (blk_drew BK737.out)
          replace BK738 := A0_ (blk_drew BK738.out)
          replace HB := A0_ (below_drew1 HB.out)
          refine start_ (n := 16) (S := fun w' => w'.cell? ⟨gb736, 0, none⟩ = some (.int .u64 a2_0) ∧ w'.cell? ⟨gb736, 1, none⟩ = some (.int .u64 a2_1) ∧ w'.cell? ⟨gb737, 0, none⟩ = some (.int .u64 a3_0) ∧ w'.cell? ⟨gb737, 1, none⟩ = some (.int .u64 a3_1)) (ds := []) #[false, false, false, false, false, false, false, false, false, false, false, false, false, false, false, false] (by kernel_rfl) rfl rfl ⟨bC_ BK736.out 0, bC_ BK736.out 1, bC_ BK737.out 0, bC_ BK737.out 1⟩ (fun hHeld => ?_); refine with_tabW cutplaneref11_Mul.tab8 cutplaneref11_Mul.bits8 (fun HT_ HW_ => ?_)
          generalize wc.drew = w53 at BK736 BK737 BK738 HB hHeld ⊢
          refine pure_ (i := 0) (N := some 43) (v := ?_) (a' := ?_) #[true, false, false, false, false, false, false, false, false, false, false, false, false, false, false, false] rfl rfl (any_of HT_.out (by kernel_rfl)) (fun _ _ _ h => h) (Or.inl ⟨by rfl, ?_⟩) ?_ ?_
          rotate_left
          ·intro w'
           go_simp
           with_reducible rfl
          rotate_left
          ·simp only [Act.put, sp_, i64_w, i32_w]
           rfl
          refine pure_ (i := 1) (N := some 44) (v := ?_) (a' := ?_) #[true, true, false, false, false, false, false, false, false, false, false, false, false, false, false, false] rfl rfl (any_of HT_.out (by kernel_rfl)) (fun _ _ _ h => h) (Or.inl ⟨by rfl, ?_⟩) ?_ ?_
          rotate_left
          ·intro w'
           go_simp
           with_reducible rfl
          rotate_left
          ·simp only [Act.put, sp_, i64_w, i32_w]
           rfl
          refine pure_ (i := 2) (N := some 45) (v := ?_) (a' := ?_) #[true, true, true, false, false, false, false, false, false, false, false, false, false, false, false, false] rfl rfl (any_of HT_.out (by kernel_rfl)) (fun _ _ _ h => h) (Or.inl ⟨by rfl, ?_⟩) ?_ ?_
          rotate_left
          ·intro w'
           go_simp
           with_reducible rfl
          rotate_left
          ·simp only [Act.put, sp_, i64_w, i32_w]
           rfl
          refine pure_ (i := 3) (N := some 46) (v := ?_) (a' := ?_) #[true, true, true, true, false, false, false, false, false, false, false, false, false, false, false, false] rfl rfl (any_of HT_.out (by kernel_rfl)) (fun _ _ _ h => h) (Or.inl ⟨by rfl, ?_⟩) ?_ ?_
          rotate_left
          ·intro w'
           go_simp
           with_reducible rfl
          rotate_left
          ·simp only [Act.put, sp_, i64_w, i32_w]
           rfl
          refine pure_ (i := 6) (N := some 49) (v := ?_) (a' := ?_) #[true, true, true, true, false, false, true, false, false, false, false, false, false, false, false, false] rfl rfl (any_of HT_.out (by kernel_rfl)) (fun _ _ _ h => h) (Or.inl ⟨by rfl, ?_⟩) ?_ ?_
          rotate_left
          ·intro w'
           go_simp
           with_reducible rfl
          rotate_left
          ·simp only [Act.put, sp_, i64_w, i32_w]
           rfl
          refine pure_ (i := 10) (N := some 53) (v := ?_) (a' := ?_) #[true, true, true, true, false, false, true, false, false, false, true, false, false, false, false, false] rfl rfl (any_of HT_.out (by kernel_rfl)) (fun _ _ _ h => h) (Or.inl ⟨by rfl, ?_⟩) ?_ ?_
          rotate_left
          ·intro w'
           go_simp
           with_reducible rfl
          rotate_left
          ·simp only [Act.put, sp_, i64_w, i32_w]
           rfl
          refine take_ (i := 4) (N := some 47) (v := ?_) (a' := ?_) #[true, true, true, true, true, false, true, false, false, false, true, false, false, false, false, false] rfl rfl (take_ofW HT_.out HW_.out (by kernel_rfl)) (fun _ _ _ h => h) (Or.inl ⟨by rfl, ?_⟩) hHeld ?_ ?_
          rotate_left
          ·rintro w' ⟨s0, s1, s2, s3⟩
           go_simp
           with_reducible rfl
          rotate_left
          ·simp only [Act.put, sp_, i64_w, i32_w]
           rfl
          refine take_ (i := 7) (N := some 50) (v := ?_) (a' := ?_) #[true, true, true, true, true, false, true, true, false, false, true, false, false, false, false, false] rfl rfl (take_ofW HT_.out HW_.out (by kernel_rfl)) (fun _ _ _ h => h) (Or.inl ⟨by rfl, ?_⟩) hHeld ?_ ?_
          rotate_left
          ·rintro w' ⟨s0, s1, s2, s3⟩
           go_simp
           with_reducible rfl
          rotate_left
          ·simp only [Act.put, sp_, i64_w, i32_w]
           rfl
          refine one_ (i := 5) (N := some 48) #[true, true, true, true, true, true, true, true, false, false, true, false, false, false, false, false] rfl rfl (one_of HT_.out (by kernel_rfl)) (by decide) (fun K hK => ?_)
          refine goes_ Try.func13 (by kernel_rfl) rfl #[.int .u8 a0, .agg #[.int .u64 a2_0, .int .u64 a2_1]] (by rfl) rfl rfl (am_ rfl) ?_
          with_reducible refine (cutplaneref11_Box.calls kj39 a0 a2_0 a2_1 t751 t752 _ A48.out).mono ?_
          rintro e w54 ⟨rfl, hb⟩
          refine ⟨_, rfl, ?_⟩
          replace BK736 := bb_ BK736 hb
          replace BK737 := bb_ BK737 hb
          replace BK738 := bb_ BK738 hb
          replace HB := hs_ hb
          (try clear hb)
          refine hK.out _ _ ⟨bC_ BK736.out 0, bC_ BK736.out 1, bC_ BK737.out 0, bC_ BK737.out 1⟩ (fun hHeld => ?_)
          clear hK K
          refine norm_ (a' := ?_) ?_ ?_
          rotate_left
          ·show Act.put _ (some 48) _ = _
           simp only [Act.put, sp_, i64_w, i32_w]
           rfl
          refine one_ (i := 8) (N := some 51) #[true, true, true, true, true, true, true, true, true, false, true, false, false, false, false, false] rfl rfl (one_of HT_.out (by kernel_rfl)) (by decide) (fun K hK => ?_)
          refine goes_ Try.func13 (by kernel_rfl) rfl #[.int .u8 a0, .agg #[.int .u64 a3_0, .int .u64 a3_1]] (by rfl) rfl rfl (am_ rfl) ?_
          with_reducible refine (cutplaneref11_Box.calls kj39 a0 a3_0 a3_1 t753 t754 _ A49.out).mono ?_
          rintro e w55 ⟨rfl, hb⟩
          refine ⟨_, rfl, ?_⟩
          replace BK736 := bb_ BK736 hb
          replace BK737 := bb_ BK737 hb
          replace BK738 := bb_ BK738 hb
          replace HB := hs_ hb
          (try clear hb)
          refine hK.out _ _ ⟨bC_ BK736.out 0, bC_ BK736.out 1, bC_ BK737.out 0, bC_ BK737.out 1⟩ (fun hHeld => ?_)
          clear hK K
          refine norm_ (a' := ?_) ?_ ?_
          rotate_left
          ·show Act.put _ (some 51) _ = _
           simp only [Act.put, sp_, i64_w, i32_w]
           rfl
          refine one_ (i := 9) (N := some 52) #[true, true, true, true, true, true, true, true, true, true, true, false, false, false, false, false] rfl rfl (one_of HT_.out (by kernel_rfl)) (by decide) (fun K hK => ?_)
          refine goes_ Try.func25 (by kernel_rfl) rfl #[.int .u8 a0, .int .u8 a1, .agg #[.int .u64 t751, .int .u64 t752], .agg #[.int .u64 t753, .int .u64 t754]] (by rfl) rfl rfl (am_ rfl) ?_
          with_reducible refine (cutplaneref11_product.calls kj39 a0 a1 t751 t752 t753 t754 t755 t756 _ A50.out).mono ?_
          rintro e w56 ⟨rfl, hb⟩
          refine ⟨_, rfl, ?_⟩
          replace BK736 := bb_ BK736 hb
          replace BK737 := bb_ BK737 hb
          replace BK738 := bb_ BK738 hb
          replace HB := hs_ hb
          (try clear hb)
          refine hK.out _ _ ⟨bC_ BK736.out 0, bC_ BK736.out 1, bC_ BK737.out 0, bC_ BK737.out 1⟩ (fun hHeld => ?_)
          clear hK K
          refine norm_ (a' := ?_) ?_ ?_
          rotate_left
          ·show Act.put _ (some 52) _ = _
           simp only [Act.put, sp_, i64_w, i32_w]
           rfl
          refine one_ (i := 11) (N := some 54) #[true, true, true, true, true, true, true, true, true, true, true, true, false, false, false, false] rfl rfl (one_of HT_.out (by kernel_rfl)) (by decide) (fun K hK => ?_)
          refine goes_ Try.func26 (by kernel_rfl) rfl #[.int .u8 a0, .bool false] (by rfl) rfl rfl (am_ rfl) ?_
          with_reducible refine (cutplaneref03_Inf.calls a0 false t757 _ A51.out).mono ?_
          rintro e w57 ⟨rfl, hb⟩
          refine ⟨_, rfl, ?_⟩
          replace BK736 := bb_ BK736 hb
          replace BK737 := bb_ BK737 hb
          replace BK738 := bb_ BK738 hb
          replace HB := hs_ hb
          (try clear hb)
          refine hK.out _ _ ⟨bC_ BK736.out 0, bC_ BK736.out 1, bC_ BK737.out 0, bC_ BK737.out 1⟩ (fun hHeld => ?_)
          clear hK K
          refine norm_ (a' := ?_) ?_ ?_
          rotate_left
          ·show Act.put _ (some 54) _ = _
           simp only [Act.put, sp_, i64_w, i32_w]
           rfl
          refine one_ (i := 12) (N := some 55) #[true, true, true, true, true, true, true, true, true, true, true, true, true, false, false, false] rfl rfl (one_of HT_.out (by kernel_rfl)) (by decide) (fun K hK => ?_)
          refine goes_ Try.func24 (by kernel_rfl) rfl #[.int .u8 a0, .agg #[.int .u64 t755, .int .u64 t756], .int .u64 t757] (by rfl) rfl rfl (am_ rfl) ?_
          with_reducible refine (cutplaneref11_turned.calls kj39 a0 t755 t756 t757 t758 t759 _ A52.out).mono ?_
          rintro e w58 ⟨rfl, hb⟩
          refine ⟨_, rfl, ?_⟩
          replace BK736 := bb_ BK736 hb
          replace BK737 := bb_ BK737 hb
          replace BK738 := bb_ BK738 hb
          replace HB := hs_ hb
          (try clear hb)
          refine hK.out _ _ ⟨bC_ BK736.out 0, bC_ BK736.out 1, bC_ BK737.out 0, bC_ BK737.out 1⟩ (fun hHeld => ?_)
          clear hK K
          refine norm_ (a' := ?_) ?_ ?_
          rotate_left
          ·show Act.put _ (some 55) _ = _
           simp only [Act.put, sp_, i64_w, i32_w]
           rfl
          refine pure_ (i := 13) (N := some 56) (v := ?_) (a' := ?_) #[true, true, true, true, true, true, true, true, true, true, true, true, true, true, false, false] rfl rfl (any_of HT_.out (by kernel_rfl)) (fun _ _ _ h => h) (Or.inl ⟨by rfl, ?_⟩) ?_ ?_
          rotate_left
          ·intro w'
           go_simp
           with_reducible rfl
          rotate_left
          ·simp only [Act.put, sp_, i64_w, i32_w]
           rfl
          refine one_ (i := 14) (N := none) #[true, true, true, true, true, true, true, true, true, true, true, true, true, true, true, false] rfl rfl (one_of HT_.out (by kernel_rfl)) (by decide) (fun K hK => ?_)
          have hs59 : w58.cell? ⟨gb738, 0, none⟩ = some (.int .u64 0) := (blk_cell BK738.out 0).trans rfl
          have hfs59 := blk_frozen BK738.out 0
          have hns59_0 := NB736_738.out
          have hns59_1 := NB737_738.out
          have hms59_0 := NB738_736.out
          have hms59_1 := NB738_737.out
          have hs60 : w58.cell? ⟨gb738, 1, none⟩ = some (.int .u64 0) := (blk_cell BK738.out 1).trans rfl
          have hfs60 := blk_frozen BK738.out 1
          have hns60_0 := NB736_738.out
          have hns60_1 := NB737_738.out
          have hms60_0 := NB738_736.out
          have hms60_1 := NB738_737.out
          have hs61 : w58.cell? ⟨gb738, 2, none⟩ = some (.int .u8 0) := (blk_cell BK738.out 2).trans rfl
          have hfs61 := blk_frozen BK738.out 2
          have hns61_0 := NB736_738.out
          have hns61_1 := NB737_738.out
          have hms61_0 := NB738_736.out
          have hms61_1 := NB738_737.out
          have hs62 : w58.cell? ⟨gb738, 3, none⟩ = some (.int .u8 0) := (blk_cell BK738.out 3).trans rfl
          have hfs62 := blk_frozen BK738.out 3
          have hns62_0 := NB736_738.out
          have hns62_1 := NB737_738.out
          have hms62_0 := NB738_736.out
          have hms62_1 := NB738_737.out
          refine skip_ (w1 := ?_) (by rfl) rfl ?_ ?_
          rotate_left
          ·go_simp
           rfl
          refine hK.out _ _ ⟨((cell_far (p := ⟨gb738, _, none⟩) NB736_738.out _).trans (((cell_far (p := ⟨gb738, _, none⟩) NB736_738.out _).trans (((cell_far (p := ⟨gb738, _, none⟩) NB736_738.out _).trans (((cell_far (p := ⟨gb738, _, none⟩) NB736_738.out _).trans (hHeld.1)))))))), ((cell_far (p := ⟨gb738, _, none⟩) NB736_738.out _).trans (((cell_far (p := ⟨gb738, _, none⟩) NB736_738.out _).trans (((cell_far (p := ⟨gb738, _, none⟩) NB736_738.out _).trans (((cell_far (p := ⟨gb738, _, none⟩) NB736_738.out _).trans (hHeld.2.1)))))))), ((cell_far (p := ⟨gb738, _, none⟩) NB737_738.out _).trans (((cell_far (p := ⟨gb738, _, none⟩) NB737_738.out _).trans (((cell_far (p := ⟨gb738, _, none⟩) NB737_738.out _).trans (((cell_far (p := ⟨gb738, _, none⟩) NB737_738.out _).trans (hHeld.2.2.1)))))))), ((cell_far (p := ⟨gb738, _, none⟩) NB737_738.out _).trans (((cell_far (p := ⟨gb738, _, none⟩) NB737_738.out _).trans (((cell_far (p := ⟨gb738, _, none⟩) NB737_738.out _).trans (((cell_far (p := ⟨gb738, _, none⟩) NB737_738.out _).trans (hHeld.2.2.2))))))))⟩ (fun hHeld => ?_)
          clear hK K
          refine pure_ (i := 15) (N := some 9) (v := ?_) (a' := ?_) #[true, true, true, true, true, true, true, true, true, true, true, true, true, true, true, true] rfl rfl (any_of HT_.out (by kernel_rfl)) (fun _ _ _ h => h) (Or.inl ⟨by rfl, ?_⟩) ?_ ?_
          rotate_left
          ·intro w'
           go_simp
           with_reducible rfl
          rotate_left
          ·simp only [Act.put, sp_, i64_w, i32_w]
           rfl
          refine done_ (done_of HT_.out (by kernel_rfl)) ?_
          try go_wp2
          refine bodyPost_ret (results_ct rfl _ _ gb738 29 #[.int .u64 t758, .int .u64 t759, .int .u8 0, .int .u8 0] (0, 0) _ rfl (by (with_reducible repeat first | apply bN_ | apply bD_ | apply bA_); refine blk_put (cs := #[.int .u64 t758, .int .u64 t759, .int .u8 0, .int .u8 0]) ?_ 3 _ rfl; refine blk_put (cs := #[.int .u64 t758, .int .u64 t759, .int .u8 0, .int .u8 0]) ?_ 2 _ rfl; refine blk_put (cs := #[.int .u64 t758, .int .u64 0, .int .u8 0, .int .u8 0]) ?_ 1 _ rfl; refine blk_put (cs := #[.int .u64 0, .int .u64 0, .int .u8 0, .int .u8 0]) ?_ 0 _ rfl; exact bm_ BK738.out) Try.underlying29 rfl (by kernel_rfl)) rfl ?_
          exact ⟨by first | rfl | (simp [errW_none, errW_some] <;> rfl) | (simp [*, errW_none, errW_some] <;> rfl), qz_⟩
end Go.Proofs.Ytlgapmhjaaajfaa.PA
end

section
namespace Go.Proofs.Ytlgapmhjaaajfaa.PA
open Go.RowKit Go.Proofs.YtlgapmhjaaajfaaW.PrintWords Go.Proofs.YtlgapmhjaaajfaaW.PrintLast Go.Proofs.YtlgapmhjaaajfaaW.PrintMore
attribute [local go_sem] max2_int min2_int max_two min_two max_three min_three max_four min_four   -- for this text's walks alone
set_option linter.unusedVariables false
set_option linter.unusedSimpArgs false
attribute [local go_sem high] eqA29
def cutplanelaw11_SpecialProducts.f (k : Nat) (a0 : Int) (a1 : Int) (a2_0 : Int) (a2_1 : Int) (a3_0 : Int) (a3_1 : Int) : Option (Bool) := (special_Mul.f k a0 a1 a2_0 a2_1 a3_0 a3_1).bind fun bt762 => ((cutplanelaw11_opens.f k a0 a1 (([(⟨a2_0, a2_1⟩ : S26), (⟨a3_0, a3_1⟩ : S26)] : List (S26)))).bind fun t772 => (if t772 = 0 then ((cutplaneref11_Mul.f k a0 a1 a2_0 a2_1 a3_0 a3_1).bind fun bt773 => (if ((bt762.1 == bt773.1 && (bt762.2.1 == bt773.2.1)) && (bt762.2.2.1 == bt773.2.2.1 && (bt762.2.2.2.1 == bt773.2.2.2.1))) = true then (if (bt762.2.2.2.2.1 == bt773.2.2.2.2) = true then (if bt762.2.2.2.2.2 = 0 then ((cutplanelaw11_known.f k).bind fun t779 => (some t779)) else (none)) else (none)) else (none))) else (if ((bt762.1 == 0 && (bt762.2.1 == 0)) && (bt762.2.2.1 == 0 && (bt762.2.2.2.1 == 0))) = true then (if bt762.2.2.2.2.1 = true then (none) else (if bt762.2.2.2.2.2 = t772 then ((cutplanelaw11_known.f k).bind fun t780 => (some t780)) else (none))) else (none))))
theorem cutplanelaw11_SpecialProducts.calls (k : Nat) (a0 : Int) (a1 : Int) (a2_0 : Int) (a2_1 : Int) (a3_0 : Int) (a3_1 : Int) (r : Bool) (w : World) (h : cutplanelaw11_SpecialProducts.f k a0 a1 a2_0 a2_1 a3_0 a3_1 = some r) :
  Calls Try.prog 3 #[.int .u8 a0, .int .u8 a1, .agg #[.int .u64 a2_0, .int .u64 a2_1], .agg #[.int .u64 a3_0, .int .u64 a3_1]] w fun e w' => e = .returned (.bool r) ∧ Below w.heap.size w w' := by
 have hu26 := Try.underlying26
 have hu29 := Try.underlying29
 have HB := A0_ (Below.refl w.heap.size w)
 have H := h
 clear h
 unfold cutplanelaw11_SpecialProducts.f at H
 obtain ⟨⟨t762, t763, t764, t765, t766, t767⟩, A5, H⟩ := bs_ H
 try dsimp -simprocs only at H
 obtain ⟨y769, hy769⟩ : ∃ y_ : List (S26), y_ = (([(⟨a2_0, a2_1⟩ : S26), (⟨a3_0, a3_1⟩ : S26)] : List (S26))) := ⟨_, rfl⟩
 replace H : ((cutplanelaw11_opens.f k a0 a1 y769).bind fun t772 => (if t772 = 0 then ((cutplaneref11_Mul.f k a0 a1 a2_0 a2_1 a3_0 a3_1).bind fun bt773 => (if ((t762 == bt773.1 && (t763 == bt773.2.1)) && (t764 == bt773.2.2.1 && (t765 == bt773.2.2.2.1))) = true then (if (t766 == bt773.2.2.2.2) = true then (if t767 = 0 then ((cutplanelaw11_known.f k).bind fun t779 => (some t779)) else (none)) else (none)) else (none))) else (if ((t762 == 0 && (t763 == 0)) && (t764 == 0 && (t765 == 0))) = true then (if t766 = true then (none) else (if t767 = t772 then ((cutplanelaw11_known.f k).bind fun t780 => (some t780)) else (none))) else (none)))) = some r := by first | (rw [hy769]; with_reducible exact H) | (have H2_ := (Option.bind_some _ _).symm.trans H; rw [hy769]; with_reducible exact H2_) | (have H2_ := (Option.bind_some _ _).symm.trans H; with_reducible exact H2_) | with_reducible exact H | (rw [hy769]; exact H) | exact H
 have Ny769 := A0_ hy769
 clear hy769
 obtain ⟨t772, A6, H⟩ := bs_ H
 try dsimp -simprocs only at H
 by_cases c7 : t772 = 0
 ·rw [if_pos c7] at H
  have c7b0 : (t772 == 0) = true := beq_iff_eq.mpr c7
  have c7b1 : (t772 != 0) = false := bne_eq_false_iff_eq.mpr c7
  clear c7
  obtain ⟨⟨t773, t774, t775, t776, t777⟩, A8, H⟩ := bs_ H
  try dsimp -simprocs only at H
  obtain ⟨c9, H⟩ := ic_ H
  have c9b0 : ((t762 == t773 && (t763 == t774)) && (t764 == t775 && (t765 == t776))) = true := c9
  clear c9
  obtain ⟨c10, H⟩ := ic_ H
  have c10b0 : (t766 == t777) = true := c10
  (try (have c10b1 : decide (t766 = t777) = true := by simpa using c10))
  (try (have c10b2 : (t766 == t777) = true := by simpa using c10))
  clear c10
  obtain ⟨c11, H⟩ := ic_ H
  have c11b0 : (t767 == 0) = true := beq_iff_eq.mpr c11
  have c11b1 : (t767 != 0) = false := bne_eq_false_iff_eq.mpr c11
  clear c11
  obtain ⟨t779, A12, H⟩ := bs_ H
  try dsimp -simprocs only at H
  obtain rfl := Option.some.inj H
  go_enter Try.func3, Try.ntmps3
  go_wp2_with (first | ((with_reducible refine gate_dst (N := 6) rfl ?_); refine box_event ?hg (N := 6) ?hd (cs := #[.int .u64 a2_0, .int .u64 a2_1]) (t := 26) ?hr ?_; (case hd => rfl); (case hg => rfl); (case hr => first | (go_simp; done) | (go_simp; rfl)); intro gb760 hg w13 hbox hb; have BK760 := A0_ (hbox); have GW760 := A0_ ((by rw [hg]; exact (below_size (qm_ HB.out)) : w.heap.size ≤ gb760)); have GE760 := GW760; replace HB := hs_ hb; clear hb hbox hg) | ((with_reducible refine gate_dst (N := 7) rfl ?_); refine box_event ?hg (N := 7) ?hd (cs := #[.int .u64 a3_0, .int .u64 a3_1]) (t := 26) ?hr ?_; (case hd => rfl); (case hg => rfl); (case hr => first | (go_simp; done) | (go_simp; rfl)); intro gb761 hg w14 hbox hb; have BK761 := A0_ (hbox); have GW761 := A0_ ((by rw [hg]; exact (below_size qz_) : w.heap.size ≤ gb761)); have GE761 := GW761; replace HB := hs_ hb; have NB760_761 := nl_ hg BK760; have NB761_760 := ng_ hg BK760; replace BK760 := bb_ BK760 hb; clear hb hbox hg; have hnb15 := NB760_761.out; have hnc15 := NB761_760.out; have hcz16 := bc2_ BK760.out; have hfz16 := bf2_ BK760.out; have hcz17 := bc2_ BK761.out; have hfz17 := bf2_ BK761.out) | ((with_reducible refine gate_callee (f := 6) rfl ?_); refine goesL_ (some 20) rfl rfl Try.func6 (by kernel_rfl) rfl #[.int .u8 a0, .int .u8 a1, .agg #[.int .u64 a2_0, .int .u64 a2_1], .agg #[.int .u64 a3_0, .int .u64 a3_1]] rfl (am_ rfl) ?_; (with_reducible refine (special_Mul.calls k a0 a1 a2_0 a2_1 a3_0 a3_1 t762 t763 t764 t765 t766 t767 _ A5.out).mono ?_); rintro e w18 ⟨rfl, hb⟩; refine ⟨_, rfl, ?_⟩; replace BK760 := bb_ BK760 hb; replace BK761 := bb_ BK761 hb; replace HB := hs_ hb; (try clear hb)) | ((with_reducible refine gate_dst (N := 9) rfl ?_); refine box_event ?hg (N := 9) ?hd (cs := #[.int .u64 0, .int .u64 0, .int .u8 0, .int .u8 0]) (t := 29) ?hr ?_; (case hd => rfl); (case hg => rfl); (case hr => first | (go_simp; done) | (go_simp; rfl)); intro gb768 hg w19 hbox hb; have BK768 := A0_ (hbox); have GW768 := A0_ ((by rw [hg]; exact (below_size qz_) : w.heap.size ≤ gb768)); have GE768 := GW768; replace HB := hs_ hb; have NB760_768 := nl_ hg BK760; have NB768_760 := ng_ hg BK760; replace BK760 := bb_ BK760 hb; have NB761_768 := nl_ hg BK761; have NB768_761 := ng_ hg BK761; replace BK761 := bb_ BK761 hb; clear hb hbox hg; have hnb20 := NB768_760.out; have hnc20 := NB760_768.out; have hnb21 := NB768_761.out; have hnc21 := NB761_768.out; have hcz22 := bc4_ BK768.out; have hfz22 := bf4_ BK768.out; have hcz23 := bc2_ BK760.out; have hfz23 := bf2_ BK760.out; have hcz24 := bc2_ BK761.out; have hfz24 := bf2_ BK761.out) | ((with_reducible refine gate_dst (N := 28) rfl ?_); refine Kd.R_lit k26 _ 26 ?hg (N := 28) ?hd (xs := ([(⟨a2_0, a2_1⟩ : S26), (⟨a3_0, a3_1⟩ : S26)] : List (S26))) (inner := [.int .u64 a2_0, .int .u64 a2_1, .int .u64 a3_0, .int .u64 a3_1]) (ok := fun _ => True) (okp := fun _ => True) ?hr ?hp (fun _ hk => hk) trivial (Below.refl _ _) (Nat.le_refl _) (by simp) ?_; (case hd => rfl); (case hg => rfl); (case hr => first | (go_simp; done) | (go_simp; rfl)); (case hp => exact (Reps.c2 (show Kd.M k26 _ _ _ (⟨a2_0, a2_1⟩ : S26) [.int .u64 a2_0, .int .u64 a2_1] from (k26_mkM _ _ _ (⟨a2_0, a2_1⟩ : S26) )) (Reps.c2 (show Kd.M k26 _ _ _ (⟨a3_0, a3_1⟩ : S26) [.int .u64 a3_0, .int .u64 a3_1] from (k26_mkM _ _ _ (⟨a3_0, a3_1⟩ : S26) )) (Reps.none _ _)))); intro v770 w25 ho26 hb hg_ hnew_; clear hg_ hnew_; (first | rw [← Ny769.out] at ho26 | (simp only [Int.reduceToNat] at ho26; rw [← Ny769.out] at ho26)); have HO771 := A0_ (Kd.R_lower (Kd.R_newB (Kd.R_newB ho26 (g := gb760) (o := .cells #[.int .u64 a2_0, .int .u64 a2_1] 26 (0, 0)) (by (with_reducible repeat first | apply bN_ | apply bD_ | apply bA_); refine blk_far ?_ NB760_768.out _; refine blk_far ?_ NB760_768.out _; refine blk_far ?_ NB760_768.out _; refine blk_far ?_ NB760_768.out _; exact bm_ BK760.out)) (g := gb761) (o := .cells #[.int .u64 a3_0, .int .u64 a3_1] 26 (0, 0)) (by (with_reducible repeat first | apply bN_ | apply bD_ | apply bA_); refine blk_far ?_ NB761_768.out _; refine blk_far ?_ NB761_768.out _; refine blk_far ?_ NB761_768.out _; refine blk_far ?_ NB761_768.out _; exact bm_ BK761.out)) (below_size qz_)); replace BK760 := A0_ (blk_below (g := gb760) (o := .cells #[.int .u64 a2_0, .int .u64 a2_1] 26 (0, 0)) (by (with_reducible repeat first | apply bN_ | apply bD_ | apply bA_); refine blk_far ?_ NB760_768.out _; refine blk_far ?_ NB760_768.out _; refine blk_far ?_ NB760_768.out _; refine blk_far ?_ NB760_768.out _; exact bm_ BK760.out) hb); replace BK761 := A0_ (blk_below (g := gb761) (o := .cells #[.int .u64 a3_0, .int .u64 a3_1] 26 (0, 0)) (by (with_reducible repeat first | apply bN_ | apply bD_ | apply bA_); refine blk_far ?_ NB761_768.out _; refine blk_far ?_ NB761_768.out _; refine blk_far ?_ NB761_768.out _; refine blk_far ?_ NB761_768.out _; exact bm_ BK761.out) hb); replace BK768 := A0_ (blk_below (g := gb768) (o := .cells #[.int .u64 t762, .int .u64 t763, .int .u8 t764, .int .u8 t765] 29 (0, 0)) (by (with_reducible repeat first | apply bN_ | apply bD_ | apply bA_); refine blk_put (cs := #[.int .u64 t762, .int .u64 t763, .int .u8 t764, .int .u8 0]) ?_ 3 _ rfl; refine blk_put (cs := #[.int .u64 t762, .int .u64 t763, .int .u8 0, .int .u8 0]) ?_ 2 _ rfl; refine blk_put (cs := #[.int .u64 t762, .int .u64 0, .int .u8 0, .int .u8 0]) ?_ 1 _ rfl; refine blk_put (cs := #[.int .u64 0, .int .u64 0, .int .u8 0, .int .u8 0]) ?_ 0 _ rfl; exact bm_ BK768.out) hb); replace HB := hs_ hb; clear hb ho26; obtain ⟨Ao27, co27, eo27⟩ := Kd.R_slice HO771.out; subst eo27) | ((with_reducible refine gate_callee (f := 7) rfl ?_); refine goesL_ (some 29) rfl rfl Try.func7 (by kernel_rfl) rfl #[.int .u8 a0, .int .u8 a1, .slice Ao27 y769.length co27] rfl (am_ rfl) ?_; (with_reducible refine (cutplanelaw11_opens.calls k a0 a1 _ _ y769 t772 _ ?side1 ?side2 A6.out).mono ?_); (case side1 => repeat (first | exact (Kd.R_reads' HO771.out).2.2 | (with_reducible refine Kd.C_alloc ?_ _) | (with_reducible refine Kd.C_drewN ?_ _) | (with_reducible refine Kd.C_drew ?_))); (case side2 => exact (Kd.R_reads' HO771.out).2.1); rintro e w' ⟨rfl, ⟨nd, rfl⟩⟩; refine ⟨_, rfl, ?_⟩; (try (rw [drewN_self w25]; generalize hq_ : World.drewN w25 _ = w25; have n0_ : Aside0 (Kd.R k26 26 w25 w.heap.size (fun k_ => k_ ≠ gb760 ∧ k_ ≠ gb761) (.slice Ao27 y769.length co27) y769) := ⟨by rw [← hq_]; exact (by (with_reducible repeat (first | apply Kd.R_alloc | apply Kd.R_drewN | apply Kd.R_drew)); exact Kd.R_mono HO771.out (fun _ hk => by first | exact ⟨hk.1.2, hk.2⟩ | (refine ⟨?_, ?_⟩ <;> first | exact hk.1 | exact hk.2 | exact hk.1.1 | exact hk.1.2 | exact hk.2.1 | exact hk.2.2 | exact hk.1.1.1 | exact hk.1.1.2 | exact hk.1.2.1 | exact hk.1.2.2 | exact hk.2.1.1 | exact hk.2.1.2 | exact hk.2.2.1 | exact hk.2.2.2 | exact hk.1.1.1.1 | exact hk.1.1.1.2 | exact hk.1.1.2.1 | exact hk.1.1.2.2 | exact hk.1.2.1.1 | exact hk.1.2.1.2 | exact hk.1.2.2.1 | exact hk.1.2.2.2 | exact hk.2.1.1.1 | exact hk.2.1.1.2 | exact hk.2.1.2.1 | exact hk.2.1.2.2 | exact hk.2.2.1.1 | exact hk.2.2.1.2 | exact hk.2.2.2.1 | exact hk.2.2.2.2 | exact hk.1.1.1.1.1 | exact hk.1.1.1.1.2 | exact hk.1.1.1.1.1.1 | exact hk.1.1.1.1.1.2 | exact hk.1.1.1.1.1.1.1 | exact hk.1.1.1.1.1.1.2 | exact hk.1.1.1.1.1.1.1.1 | exact hk.1.1.1.1.1.1.1.2 | exact hk.1.1.1.1.1.1.1.1.1 | exact hk.1.1.1.1.1.1.1.1.2 | exact hk.1.1.1.1.1.1.1.1.1.1 | exact hk.1.1.1.1.1.1.1.1.1.2 | exact hk.1.1.1.1.1.1.1.1.1.1.1 | exact hk.1.1.1.1.1.1.1.1.1.1.2 | exact hk.1.1.1.1.1.1.1.1.1.1.1.1 | exact hk.1.1.1.1.1.1.1.1.1.1.1.2)))⟩; have n1_ : Aside0 (w25.heap[gb760]? = some (.cells #[.int .u64 a2_0, .int .u64 a2_1] 26 (0, 0))) := ⟨by rw [← hq_]; exact (bm_ BK760.out)⟩; have n2_ : Aside0 (w25.heap[gb761]? = some (.cells #[.int .u64 a3_0, .int .u64 a3_1] 26 (0, 0))) := ⟨by rw [← hq_]; exact (bm_ BK761.out)⟩; have n3_ : Aside0 (w25.heap[gb768]? = some (.cells #[.int .u64 t762, .int .u64 t763, .int .u8 t764, .int .u8 t765] 29 (0, 0))) := ⟨by rw [← hq_]; exact (bm_ BK768.out)⟩; have n4_ : Aside0 (Below w.heap.size w w25) := ⟨by rw [← hq_]; exact qz_⟩; clear HO771 BK760 BK761 BK768 HB hq_; have HO771 := n0_; have BK760 := n1_; have BK761 := n2_; have BK768 := n3_; have HB := n4_; clear n0_ n1_ n2_ n3_ n4_)); have hcz28 := bc2_ BK760.out; have hfz28 := bf2_ BK760.out; have hcz29 := bc2_ BK761.out; have hfz29 := bf2_ BK761.out) | ((with_reducible refine gate_callee (f := 9) rfl ?_); refine goesL_ (some 52) rfl rfl Try.func9 (by kernel_rfl) rfl #[.int .u8 a0, .int .u8 a1, .agg #[.int .u64 a2_0, .int .u64 a2_1], .agg #[.int .u64 a3_0, .int .u64 a3_1]] rfl (am_ rfl) ?_; (with_reducible refine (cutplaneref11_Mul.calls k a0 a1 a2_0 a2_1 a3_0 a3_1 t773 t774 t775 t776 t777 _ A8.out).mono ?_); rintro e w30 ⟨rfl, hb⟩; refine ⟨_, rfl, ?_⟩; replace HO771 := A0_ (Kd.R_below (by exact rm_ HO771.out) hb); replace BK760 := bb_ BK760 hb; replace BK761 := bb_ BK761 hb; replace BK768 := bb_ BK768 hb; replace HB := hs_ hb; (try clear hb)) | ((with_reducible refine gate_dst (N := 13) rfl ?_); refine box_event ?hg (N := 13) ?hd (cs := #[.int .u64 0, .int .u64 0, .int .u8 0, .int .u8 0]) (t := 29) ?hr ?_; (case hd => rfl); (case hg => rfl); (case hr => first | (go_simp; done) | (go_simp; rfl)); intro gb778 hg w31 hbox hb; replace HO771 := A0_ (Kd.R_below (by exact rm_ HO771.out) hb); have BK778 := A0_ (hbox); have GW778 := A0_ ((by rw [hg]; exact (below_size qz_) : w.heap.size ≤ gb778)); have GE778 := GW778; replace HB := hs_ hb; have NB760_778 := nl_ hg BK760; have NB778_760 := ng_ hg BK760; replace BK760 := bb_ BK760 hb; have NB761_778 := nl_ hg BK761; have NB778_761 := ng_ hg BK761; replace BK761 := bb_ BK761 hb; have NB768_778 := nl_ hg BK768; have NB778_768 := ng_ hg BK768; replace BK768 := bb_ BK768 hb; clear hb hbox hg; have hnb32 := NB778_760.out; have hnc32 := NB760_778.out; have hnb33 := NB778_761.out; have hnc33 := NB761_778.out; have hnb34 := NB778_768.out; have hnc34 := NB768_778.out; have hcz35 := bc4_ BK778.out; have hfz35 := bf4_ BK778.out; have hcz36 := bc4_ BK768.out; have hfz36 := bf4_ BK768.out) | (go_at_call 8; (with_reducible refine (cutplanelaw11_known.calls k  t779 _ A12.out).mono ?_); rintro e w37 ⟨rfl, hb⟩; replace HO771 := A0_ (Kd.R_below (by (with_reducible repeat (first | apply Kd.R_alloc | apply Kd.R_drewN | apply Kd.R_drew)); exact (Kd.R_mono (Kd.R_far (p := ⟨gb778, 3, none⟩) (Kd.R_far (p := ⟨gb778, 2, none⟩) (Kd.R_far (p := ⟨gb778, 1, none⟩) (Kd.R_far (p := ⟨gb778, 0, none⟩) (Kd.R_types HO771.out BK778.out (by decide)) (fun _ hk => hk.2) (.int .u64 t773)) (fun _ hk => hk.2) (.int .u64 t774)) (fun _ hk => hk.2) (.int .u8 t775)) (fun _ hk => hk.2) (.int .u8 t776)) (fun _ h_ => h_.1))) hb); replace BK760 := A0_ (blk_below (g := gb760) (o := .cells #[.int .u64 a2_0, .int .u64 a2_1] 26 (0, 0)) (by (with_reducible repeat first | apply bN_ | apply bD_ | apply bA_); refine blk_far ?_ NB760_778.out _; (with_reducible repeat first | apply bN_ | apply bD_ | apply bA_); refine blk_far ?_ NB760_778.out _; (with_reducible repeat first | apply bN_ | apply bD_ | apply bA_); refine blk_far ?_ NB760_778.out _; (with_reducible repeat first | apply bN_ | apply bD_ | apply bA_); refine blk_far ?_ NB760_778.out _; exact bm_ BK760.out) hb); replace BK761 := A0_ (blk_below (g := gb761) (o := .cells #[.int .u64 a3_0, .int .u64 a3_1] 26 (0, 0)) (by (with_reducible repeat first | apply bN_ | apply bD_ | apply bA_); refine blk_far ?_ NB761_778.out _; (with_reducible repeat first | apply bN_ | apply bD_ | apply bA_); refine blk_far ?_ NB761_778.out _; (with_reducible repeat first | apply bN_ | apply bD_ | apply bA_); refine blk_far ?_ NB761_778.out _; (with_reducible repeat first | apply bN_ | apply bD_ | apply bA_); refine blk_far ?_ NB761_778.out _; exact bm_ BK761.out) hb); replace BK768 := A0_ (blk_below (g := gb768) (o := .cells #[.int .u64 t762, .int .u64 t763, .int .u8 t764, .int .u8 t765] 29 (0, 0)) (by (with_reducible repeat first | apply bN_ | apply bD_ | apply bA_); refine blk_far ?_ NB768_778.out _; (with_reducible repeat first | apply bN_ | apply bD_ | apply bA_); refine blk_far ?_ NB768_778.out _; (with_reducible repeat first | apply bN_ | apply bD_ | apply bA_); refine blk_far ?_ NB768_778.out _; (with_reducible repeat first | apply bN_ | apply bD_ | apply bA_); refine blk_far ?_ NB768_778.out _; exact bm_ BK768.out) hb); replace BK778 := A0_ (blk_below (g := gb778) (o := .cells #[.int .u64 t773, .int .u64 t774, .int .u8 t775, .int .u8 t776] 29 (0, 0)) (by (with_reducible repeat first | apply bN_ | apply bD_ | apply bA_); refine blk_put (cs := #[.int .u64 t773, .int .u64 t774, .int .u8 t775, .int .u8 0]) ?_ 3 _ rfl; refine blk_put (cs := #[.int .u64 t773, .int .u64 t774, .int .u8 0, .int .u8 0]) ?_ 2 _ rfl; refine blk_put (cs := #[.int .u64 t773, .int .u64 0, .int .u8 0, .int .u8 0]) ?_ 1 _ rfl; refine blk_put (cs := #[.int .u64 0, .int .u64 0, .int .u8 0, .int .u8 0]) ?_ 0 _ rfl; exact bm_ BK778.out) hb); replace HB := hs_ hb; (try clear hb)))
  go_ret
  exact ⟨by first | rfl | (simp [errW_none, errW_some] <;> rfl) | (simp [*, errW_none, errW_some] <;> rfl), qz_⟩
 ·rw [if_neg c7] at H
  have c7b0 : (t772 == 0) = false := beq_eq_false_iff_ne.mpr c7
  have c7b1 : (t772 != 0) = true := bne_iff_ne.mpr c7
  obtain ⟨c38, H⟩ := ic_ H
  have c38b0 : ((t762 == 0 && (t763 == 0)) && (t764 == 0 && (t765 == 0))) = true := c38
  clear c38
  by_cases c39 : t766 = true
  ·subst c39
   rw [if_pos rfl] at H
   exact absurd H (by simp)
  ·replace c39 := Bool.eq_false_iff.mpr c39
   subst c39
   rw [if_neg (show ¬ (false = true) by decide)] at H
   obtain ⟨c40, H⟩ := ic_ H
   have c40b0 : (t767 == t772) = true := beq_iff_eq.mpr c40
   have c40b1 : (t767 != t772) = false := bne_eq_false_iff_eq.mpr c40
   clear c40
   obtain ⟨t780, A41, H⟩ := bs_ H
   try dsimp -simprocs only at H
   obtain rfl := Option.some.inj H
   go_enter Try.func3, Try.ntmps3
   go_wp2_with (first | ((with_reducible refine gate_dst (N := 6) rfl ?_); refine box_event ?hg (N := 6) ?hd (cs := #[.int .u64 a2_0, .int .u64 a2_1]) (t := 26) ?hr ?_; (case hd => rfl); (case hg => rfl); (case hr => first | (go_simp; done) | (go_simp; rfl)); intro gb760 hg w42 hbox hb; have BK760 := A0_ (hbox); have GW760 := A0_ ((by rw [hg]; exact (below_size (qm_ HB.out)) : w.heap.size ≤ gb760)); have GE760 := GW760; replace HB := hs_ hb; clear hb hbox hg) | ((with_reducible refine gate_dst (N := 7) rfl ?_); refine box_event ?hg (N := 7) ?hd (cs := #[.int .u64 a3_0, .int .u64 a3_1]) (t := 26) ?hr ?_; (case hd => rfl); (case hg => rfl); (case hr => first | (go_simp; done) | (go_simp; rfl)); intro gb761 hg w43 hbox hb; have BK761 := A0_ (hbox); have GW761 := A0_ ((by rw [hg]; exact (below_size qz_) : w.heap.size ≤ gb761)); have GE761 := GW761; replace HB := hs_ hb; have NB760_761 := nl_ hg BK760; have NB761_760 := ng_ hg BK760; replace BK760 := bb_ BK760 hb; clear hb hbox hg; have hnb44 := NB760_761.out; have hnc44 := NB761_760.out; have hcz45 := bc2_ BK760.out; have hfz45 := bf2_ BK760.out; have hcz46 := bc2_ BK761.out; have hfz46 := bf2_ BK761.out) | ((with_reducible refine gate_callee (f := 6) rfl ?_); refine goesL_ (some 20) rfl rfl Try.func6 (by kernel_rfl) rfl #[.int .u8 a0, .int .u8 a1, .agg #[.int .u64 a2_0, .int .u64 a2_1], .agg #[.int .u64 a3_0, .int .u64 a3_1]] rfl (am_ rfl) ?_; (with_reducible refine (special_Mul.calls k a0 a1 a2_0 a2_1 a3_0 a3_1 t762 t763 t764 t765 false t767 _ A5.out).mono ?_); rintro e w47 ⟨rfl, hb⟩; refine ⟨_, rfl, ?_⟩; replace BK760 := bb_ BK760 hb; replace BK761 := bb_ BK761 hb; replace HB := hs_ hb; (try clear hb)) | ((with_reducible refine gate_dst (N := 9) rfl ?_); refine box_event ?hg (N := 9) ?hd (cs := #[.int .u64 0, .int .u64 0, .int .u8 0, .int .u8 0]) (t := 29) ?hr ?_; (case hd => rfl); (case hg => rfl); (case hr => first | (go_simp; done) | (go_simp; rfl)); intro gb768 hg w48 hbox hb; have BK768 := A0_ (hbox); have GW768 := A0_ ((by rw [hg]; exact (below_size qz_) : w.heap.size ≤ gb768)); have GE768 := GW768; replace HB := hs_ hb; have NB760_768 := nl_ hg BK760; have NB768_760 := ng_ hg BK760; replace BK760 := bb_ BK760 hb; have NB761_768 := nl_ hg BK761; have NB768_761 := ng_ hg BK761; replace BK761 := bb_ BK761 hb; clear hb hbox hg; have hnb49 := NB768_760.out; have hnc49 := NB760_768.out; have hnb50 := NB768_761.out; have hnc50 := NB761_768.out; have hcz51 := bc4_ BK768.out; have hfz51 := bf4_ BK768.out; have hcz52 := bc2_ BK760.out; have hfz52 := bf2_ BK760.out; have hcz53 := bc2_ BK761.out; have hfz53 := bf2_ BK761.out) | ((with_reducible refine gate_dst (N := 28) rfl ?_); refine Kd.R_lit k26 _ 26 ?hg (N := 28) ?hd (xs := ([(⟨a2_0, a2_1⟩ : S26), (⟨a3_0, a3_1⟩ : S26)] : List (S26))) (inner := [.int .u64 a2_0, .int .u64 a2_1, .int .u64 a3_0, .int .u64 a3_1]) (ok := fun _ => True) (okp := fun _ => True) ?hr ?hp (fun _ hk => hk) trivial (Below.refl _ _) (Nat.le_refl _) (by simp) ?_; (case hd => rfl); (case hg => rfl); (case hr => first | (go_simp; done) | (go_simp; rfl)); (case hp => exact (Reps.c2 (show Kd.M k26 _ _ _ (⟨a2_0, a2_1⟩ : S26) [.int .u64 a2_0, .int .u64 a2_1] from (k26_mkM _ _ _ (⟨a2_0, a2_1⟩ : S26) )) (Reps.c2 (show Kd.M k26 _ _ _ (⟨a3_0, a3_1⟩ : S26) [.int .u64 a3_0, .int .u64 a3_1] from (k26_mkM _ _ _ (⟨a3_0, a3_1⟩ : S26) )) (Reps.none _ _)))); intro v770 w54 ho55 hb hg_ hnew_; clear hg_ hnew_; (first | rw [← Ny769.out] at ho55 | (simp only [Int.reduceToNat] at ho55; rw [← Ny769.out] at ho55)); have HO771 := A0_ (Kd.R_lower (Kd.R_newB (Kd.R_newB ho55 (g := gb760) (o := .cells #[.int .u64 a2_0, .int .u64 a2_1] 26 (0, 0)) (by (with_reducible repeat first | apply bN_ | apply bD_ | apply bA_); refine blk_far ?_ NB760_768.out _; refine blk_far ?_ NB760_768.out _; refine blk_far ?_ NB760_768.out _; refine blk_far ?_ NB760_768.out _; exact bm_ BK760.out)) (g := gb761) (o := .cells #[.int .u64 a3_0, .int .u64 a3_1] 26 (0, 0)) (by (with_reducible repeat first | apply bN_ | apply bD_ | apply bA_); refine blk_far ?_ NB761_768.out _; refine blk_far ?_ NB761_768.out _; refine blk_far ?_ NB761_768.out _; refine blk_far ?_ NB761_768.out _; exact bm_ BK761.out)) (below_size qz_)); replace BK760 := A0_ (blk_below (g := gb760) (o := .cells #[.int .u64 a2_0, .int .u64 a2_1] 26 (0, 0)) (by (with_reducible repeat first | apply bN_ | apply bD_ | apply bA_); refine blk_far ?_ NB760_768.out _; refine blk_far ?_ NB760_768.out _; refine blk_far ?_ NB760_768.out _; refine blk_far ?_ NB760_768.out _; exact bm_ BK760.out) hb); replace BK761 := A0_ (blk_below (g := gb761) (o := .cells #[.int .u64 a3_0, .int .u64 a3_1] 26 (0, 0)) (by (with_reducible repeat first | apply bN_ | apply bD_ | apply bA_); refine blk_far ?_ NB761_768.out _; refine blk_far ?_ NB761_768.out _; refine blk_far ?_ NB761_768.out _; refine blk_far ?_ NB761_768.out _; exact bm_ BK761.out) hb); replace BK768 := A0_ (blk_below (g := gb768) (o := .cells #[.int .u64 t762, .int .u64 t763, .int .u8 t764, .int .u8 t765] 29 (0, 0)) (by (with_reducible repeat first | apply bN_ | apply bD_ | apply bA_); refine blk_put (cs := #[.int .u64 t762, .int .u64 t763, .int .u8 t764, .int .u8 0]) ?_ 3 _ rfl; refine blk_put (cs := #[.int .u64 t762, .int .u64 t763, .int .u8 0, .int .u8 0]) ?_ 2 _ rfl; refine blk_put (cs := #[.int .u64 t762, .int .u64 0, .int .u8 0, .int .u8 0]) ?_ 1 _ rfl; refine blk_put (cs := #[.int .u64 0, .int .u64 0, .int .u8 0, .int .u8 0]) ?_ 0 _ rfl; exact bm_ BK768.out) hb); replace HB := hs_ hb; clear hb ho55; obtain ⟨Ao56, co56, eo56⟩ := Kd.R_slice HO771.out; subst eo56) | ((with_reducible refine gate_callee (f := 7) rfl ?_); refine goesL_ (some 29) rfl rfl Try.func7 (by kernel_rfl) rfl #[.int .u8 a0, .int .u8 a1, .slice Ao56 y769.length co56] rfl (am_ rfl) ?_; (with_reducible refine (cutplanelaw11_opens.calls k a0 a1 _ _ y769 t772 _ ?side1 ?side2 A6.out).mono ?_); (case side1 => repeat (first | exact (Kd.R_reads' HO771.out).2.2 | (with_reducible refine Kd.C_alloc ?_ _) | (with_reducible refine Kd.C_drewN ?_ _) | (with_reducible refine Kd.C_drew ?_))); (case side2 => exact (Kd.R_reads' HO771.out).2.1); rintro e w' ⟨rfl, ⟨nd, rfl⟩⟩; refine ⟨_, rfl, ?_⟩; have hcz57 := bc4_ BK768.out; have hfz57 := bf4_ BK768.out) | (go_at_call 8; (with_reducible refine (cutplanelaw11_known.calls k  t780 _ A41.out).mono ?_); rintro e w58 ⟨rfl, hb⟩; replace HO771 := A0_ (Kd.R_below (by exact rm_ HO771.out) hb); replace BK760 := bb_ BK760 hb; replace BK761 := bb_ BK761 hb; replace BK768 := bb_ BK768 hb; replace HB := hs_ hb; (try clear hb)))
   go_ret
   exact ⟨by first | rfl | (simp [errW_none, errW_some] <;> rfl) | (simp [*, errW_none, errW_some] <;> rfl), qz_⟩
/-- THE ONE PURE STATEMENT of cutplanelaw11_SpecialProducts: yours. -/
def cutplanelaw11_SpecialProducts.Pure : Prop := ∀ (a0 : Int) (a1 : Int) (a2_0 : Int) (a2_1 : Int) (a3_0 : Int) (a3_1 : Int), (Lit.int .u8 a0).wf = true → (Lit.int .u8 a1).wf = true → (Lit.int .u64 a2_0).wf = true → (Lit.int .u64 a2_1).wf = true → (Lit.int .u64 a3_0).wf = true → (Lit.int .u64 a3_1).wf = true → ∃ k, cutplanelaw11_SpecialProducts.f k a0 a1 a2_0 a2_1 a3_0 a3_1 = some true
theorem cutplanelaw11_SpecialProducts.walk (P : cutplanelaw11_SpecialProducts.Pure) (a0 : Int) (a1 : Int) (a2_0 : Int) (a2_1 : Int) (a3_0 : Int) (a3_1 : Int) (w : World) (w0 : (Lit.int .u8 a0).wf = true) (w1 : (Lit.int .u8 a1).wf = true) (w2_0 : (Lit.int .u64 a2_0).wf = true) (w2_1 : (Lit.int .u64 a2_1).wf = true) (w3_0 : (Lit.int .u64 a3_0).wf = true) (w3_1 : (Lit.int .u64 a3_1).wf = true) :
  Calls Try.prog 3 #[.int .u8 a0, .int .u8 a1, .agg #[.int .u64 a2_0, .int .u64 a2_1], .agg #[.int .u64 a3_0, .int .u64 a3_1]] w fun e w' => e = .returned (.bool true) ∧ Below w.heap.size w w' := by
 obtain ⟨k, h⟩ := P a0 a1 a2_0 a2_1 a3_0 a3_1 w0 w1 w2_0 w2_1 w3_0 w3_1
 refine (cutplanelaw11_SpecialProducts.calls k a0 a1 a2_0 a2_1 a3_0 a3_1 true w h).mono ?_
 rintro e w' ⟨rfl, hd⟩
 exact ⟨rfl, hd⟩
end Go.Proofs.Ytlgapmhjaaajfaa.PA
end

section
namespace Go.Proofs.Ytlgapmhjaaajfaa.Wd
open Go
theorem nat_and_lt {n a : Nat} (h : a < 2 ^ n) : a &&& 2 ^ n = 0 := by
  apply Nat.eq_of_testBit_eq
  intro i
  rw [Nat.testBit_and, Nat.testBit_two_pow, Nat.zero_testBit]
  by_cases e : n = i
  · subst e; simp [Nat.testBit_lt_two_pow h]
  · simp [e]
theorem nat_and_ge {n l : Nat} (h : l < 2 ^ n) : (2 ^ n + l) &&& 2 ^ n = 2 ^ n := by
  apply Nat.eq_of_testBit_eq
  intro i
  rw [Nat.testBit_and, Nat.testBit_two_pow]
  by_cases e : n = i
  · subst e; rw [Nat.testBit_two_pow_add_eq, Nat.testBit_lt_two_pow h]; simp
  · simp [e]
theorem nat_or_lt {n a : Nat} (h : a < 2 ^ n) : a ||| 2 ^ n = 2 ^ n + a := by
  have := Nat.two_pow_add_eq_or_of_lt h 1
  rw [Nat.mul_one] at this
  rw [this, Nat.or_comm]
theorem nat_xor_lt {n a : Nat} (h : a < 2 ^ n) : a ^^^ 2 ^ n = 2 ^ n + a := by
  rw [← nat_or_lt h]
  apply Nat.eq_of_testBit_eq
  intro i
  rw [Nat.testBit_xor, Nat.testBit_or, Nat.testBit_two_pow]
  by_cases e : n = i
  · subst e; simp [Nat.testBit_lt_two_pow h]
  · simp [e]
theorem nat_xor_ge {n l : Nat} (h : l < 2 ^ n) : (2 ^ n + l) ^^^ 2 ^ n = l := by
  rw [← nat_xor_lt h, Nat.xor_assoc, Nat.xor_self, Nat.xor_zero]
theorem nat_mask {n a : Nat} (hn : n ≤ 63) (h : a < 2 ^ (n + 1)) : a &&& (2 ^ 64 - (2 ^ n + 1)) = a % 2 ^ n := by
  apply Nat.eq_of_testBit_eq
  intro i
  rw [Nat.testBit_and, Nat.testBit_mod_two_pow, Nat.testBit_two_pow_sub_succ (by exact Nat.pow_lt_pow_right (by decide) (by omega)), Nat.testBit_two_pow]
  by_cases e : i < n
  · simp [e, show n ≠ i by omega, show i < 64 by omega]
  · by_cases e2 : n = i
    · subst e2; simp
    · have : a.testBit i = false := Nat.testBit_lt_two_pow (Nat.lt_of_lt_of_le h (Nat.pow_le_pow_right (by decide) (by omega)))
      simp [this]
section
variable {w : Int}
theorem andNot31 (h0 : 0 ≤ w) (h1 : w < 4294967296) : Go.bits .andNot .u64 w 2147483648 = w % 2147483648 := by
  obtain ⟨a, rfl⟩ := Int.eq_ofNat_of_zero_le h0
  have ha : a < 2 ^ (31 + 1) := by omega
  have e := u64_andNot_nat a 2147483648 (by omega) (by decide)
  have m : a &&& 18446744071562067967 = a % 2147483648 := nat_mask (n := 31) (by decide) ha
  rw [show ((2147483648 : Int)) = ((2147483648 : Nat) : Int) from rfl, e, show (18446744073709551615 - 2147483648 : Nat) = 18446744071562067967 from rfl, m]
  omega
theorem andNot63 (h0 : 0 ≤ w) (h1 : w < 18446744073709551616) : Go.bits .andNot .u64 w 9223372036854775808 = w % 9223372036854775808 := by
  obtain ⟨a, rfl⟩ := Int.eq_ofNat_of_zero_le h0
  have ha : a < 2 ^ (63 + 1) := by omega
  have e := u64_andNot_nat a 9223372036854775808 (by omega) (by decide)
  have m : a &&& 9223372036854775807 = a % 9223372036854775808 := nat_mask (n := 63) (by decide) ha
  rw [show ((9223372036854775808 : Int)) = ((9223372036854775808 : Nat) : Int) from rfl, e, show (18446744073709551615 - 9223372036854775808 : Nat) = 9223372036854775807 from rfl, m]
  omega
theorem and31 (h0 : 0 ≤ w) (h1 : w < 4294967296) : Go.bits .and .u64 w 2147483648 = if w ≥ 2147483648 then 2147483648 else 0 := by
  obtain ⟨a, rfl⟩ := Int.eq_ofNat_of_zero_le h0
  have e := u64_and_nat a 2147483648 (by omega) (by decide)
  rw [show ((2147483648 : Int)) = ((2147483648 : Nat) : Int) from rfl, e]
  by_cases c : a < 2 ^ 31
  · have m : a &&& 2147483648 = 0 := nat_and_lt (n := 31) c
    rw [m, if_neg (by omega)]; rfl
  · obtain ⟨l, rfl⟩ : ∃ l, a = 2 ^ 31 + l := ⟨a - 2 ^ 31, by omega⟩
    have m : (2 ^ 31 + l) &&& 2147483648 = 2147483648 := nat_and_ge (n := 31) (l := l) (by omega)
    rw [m, if_pos (by omega)]
theorem and63 (h0 : 0 ≤ w) (h1 : w < 18446744073709551616) : Go.bits .and .u64 w 9223372036854775808 = if w ≥ 9223372036854775808 then 9223372036854775808 else 0 := by
  obtain ⟨a, rfl⟩ := Int.eq_ofNat_of_zero_le h0
  have e := u64_and_nat a 9223372036854775808 (by omega) (by decide)
  rw [show ((9223372036854775808 : Int)) = ((9223372036854775808 : Nat) : Int) from rfl, e]
  by_cases c : a < 2 ^ 63
  · have m : a &&& 9223372036854775808 = 0 := nat_and_lt (n := 63) c
    rw [m, if_neg (by omega)]; rfl
  · obtain ⟨l, rfl⟩ : ∃ l, a = 2 ^ 63 + l := ⟨a - 2 ^ 63, by omega⟩
    have m : (2 ^ 63 + l) &&& 9223372036854775808 = 9223372036854775808 := nat_and_ge (n := 63) (l := l) (by omega)
    rw [m, if_pos (by omega)]
theorem xor31 (h0 : 0 ≤ w) (h1 : w < 4294967296) : Go.bits .xor .u64 w 2147483648 = if w ≥ 2147483648 then w - 2147483648 else w + 2147483648 := by
  obtain ⟨a, rfl⟩ := Int.eq_ofNat_of_zero_le h0
  have e := u64_xor_nat a 2147483648 (by omega) (by decide)
  rw [show ((2147483648 : Int)) = ((2147483648 : Nat) : Int) from rfl, e]
  by_cases c : a < 2 ^ 31
  · have m : a ^^^ 2147483648 = 2 ^ 31 + a := nat_xor_lt (n := 31) c
    rw [m, if_neg (by omega)]; omega
  · obtain ⟨l, rfl⟩ : ∃ l, a = 2 ^ 31 + l := ⟨a - 2 ^ 31, by omega⟩
    have m : (2 ^ 31 + l) ^^^ 2147483648 = l := nat_xor_ge (n := 31) (l := l) (by omega)
    rw [m, if_pos (by omega)]; omega
theorem xor63 (h0 : 0 ≤ w) (h1 : w < 18446744073709551616) : Go.bits .xor .u64 w 9223372036854775808 = if w ≥ 9223372036854775808 then w - 9223372036854775808 else w + 9223372036854775808 := by
  obtain ⟨a, rfl⟩ := Int.eq_ofNat_of_zero_le h0
  have e := u64_xor_nat a 9223372036854775808 (by omega) (by decide)
  rw [show ((9223372036854775808 : Int)) = ((9223372036854775808 : Nat) : Int) from rfl, e]
  by_cases c : a < 2 ^ 63
  · have m : a ^^^ 9223372036854775808 = 2 ^ 63 + a := nat_xor_lt (n := 63) c
    rw [m, if_neg (by omega)]; omega
  · obtain ⟨l, rfl⟩ : ∃ l, a = 2 ^ 63 + l := ⟨a - 2 ^ 63, by omega⟩
    have m : (2 ^ 63 + l) ^^^ 9223372036854775808 = l := nat_xor_ge (n := 63) (l := l) (by omega)
    rw [m, if_pos (by omega)]; omega
theorem or31 (h0 : 0 ≤ w) (h1 : w < 2147483648) : Go.bits .or .u64 w 2147483648 = w + 2147483648 := by
  obtain ⟨a, rfl⟩ := Int.eq_ofNat_of_zero_le h0
  have e := u64_or_nat a 2147483648 (by omega) (by decide)
  have m : a ||| 2147483648 = 2 ^ 31 + a := nat_or_lt (n := 31) (by omega)
  rw [show ((2147483648 : Int)) = ((2147483648 : Nat) : Int) from rfl, e, m]
  omega
theorem or63 (h0 : 0 ≤ w) (h1 : w < 9223372036854775808) : Go.bits .or .u64 w 9223372036854775808 = w + 9223372036854775808 := by
  obtain ⟨a, rfl⟩ := Int.eq_ofNat_of_zero_le h0
  have e := u64_or_nat a 9223372036854775808 (by omega) (by decide)
  have m : a ||| 9223372036854775808 = 2 ^ 63 + a := nat_or_lt (n := 63) (by omega)
  rw [show ((9223372036854775808 : Int)) = ((9223372036854775808 : Nat) : Int) from rfl, e, m]
  omega
theorem wrapu64 (n : Int) : IntKind.u64.wrap n = n % 18446744073709551616 := by simp [IntKind.wrap, IntKind.bits, IntKind.signed]
theorem wraps_u64 (n : Int) (h₀ : 0 ≤ n) (h₁ : n < 2 ^ 64) : IntKind.u64.wrap n = n := by
  rw [wrapu64]; omega
theorem and23 (h0 : 0 ≤ w) (h1 : w < 18446744073709551616) : Go.bits .and .u64 w 8388607 = w % 8388608 :=
  bits_mask .u64 64 (by decide) wraps_u64 23 (by decide) w h0 (by omega)
theorem and52 (h0 : 0 ≤ w) (h1 : w < 18446744073709551616) : Go.bits .and .u64 w 4503599627370495 = w % 4503599627370496 :=
  bits_mask .u64 64 (by decide) wraps_u64 52 (by decide) w h0 (by omega)
end
end Go.Proofs.Ytlgapmhjaaajfaa.Wd
end

section
namespace Go.Proofs.Ytlgapmhjaaajfaa.PA
open Go.RowKit Go.Proofs.YtlgapmhjaaajfaaW.PrintWords Go.Proofs.YtlgapmhjaaajfaaW.PrintLast Go.Proofs.YtlgapmhjaaajfaaW.PrintMore Go.Proofs.Ytlgapmhjaaajfaa.Wd
set_option linter.unusedSimpArgs false
set_option linter.unusedVariables false
/-- the class of a size: P one above the fractions, I the infinite size -/
def cls (P I s : Int) : Int := if s = 0 then 1 else if s < P then 2 else if s < I then 3 else if s = I then 4 else 5
def sgn (f : Int) : Int := if f = 1 then 2147483648 else 9223372036854775808
def one (f : Int) : Int := if f = 1 then 8388608 else 4503599627370496
def infw (f : Int) : Int := if f = 1 then 2139095040 else 9218868437227405312
def nanw (f : Int) : Int := if f = 1 then 2143289344 else 9221120237041090560
def cl (f w : Int) : Int := cls (one f) (infw f) (w % sgn f)
/-- the error of a word, as Good tells it -/
def err (f w : Int) : Int := if f = 1 then (if w ≥ 4294967296 then 6 else 0) else if f = 2 then 0 else 4
/-- a good word -/
def Gd (f w : Int) : Prop := (f = 1 ∧ 0 ≤ w ∧ w < 4294967296) ∨ (f = 2 ∧ 0 ≤ w ∧ w < 18446744073709551616)
def U (w : Int) : Prop := 0 ≤ w ∧ w < 18446744073709551616
theorem Gd.u {f w : Int} (h : Gd f w) : U w := by rcases h with ⟨_, a, b⟩ | ⟨_, a, b⟩ <;> exact ⟨a, by omega⟩
theorem Gd.err {f w : Int} (h : Gd f w) : err f w = 0 := by
  rcases h with ⟨rfl, a, b⟩ | ⟨rfl, a, b⟩
  · simp [PA.err]; omega
  · simp [PA.err]
theorem gd_of {f w : Int} (h : err f w = 0) (hu : U w) : Gd f w := by
  unfold err at h
  unfold U at hu
  unfold Gd
  split at h
  · split at h
    · omega
    · omega
  · split at h <;> omega
theorem u_of {w : Int} (h : (Lit.int .u64 w).wf = true) : U w := by have := bounds_u64 h; exact ⟨by omega, by omega⟩
theorem rd_zero (w : Int) : rd [w] 0 = w := by rfl
theorem top31 : Go.bits .or .u64 2147483648 (IntKind.u64.wrap (2147483648 - 1)) = 4294967295 := by decide +kernel
theorem top63 : Go.bits .or .u64 9223372036854775808 (IntKind.u64.wrap (9223372036854775808 - 1)) = 18446744073709551615 := by decide +kernel
/-- the shape of a format -/
def shp (f : Int) : Int × Int × Int := if f = 1 then (23, 255, 2147483648) else if f = 2 then (52, 2047, 9223372036854775808) else (0, 0, 0)
theorem open_nil (k : Nat) (f : Int) : word_open.f (k + 1) f [] = some ((shp f).1, (shp f).2.1, (shp f).2.2, if f = 1 ∨ f = 2 then 0 else 4) := by
  unfold word_open.f word_shapeOf.f shp
  by_cases h1 : f = 1
  · subst h1; simp [word_open.l0]
  · by_cases h2 : f = 2
    · subst h2; simp [word_open.l0]
    · simp [h1, h2]
theorem open_one (k : Nat) (f w : Int) (hu : U w) : word_open.f (k + 2) f [w] = some ((shp f).1, (shp f).2.1, (shp f).2.2, err f w) := by
  obtain ⟨h0, h3⟩ := hu
  unfold word_open.f word_shapeOf.f shp err
  by_cases h1 : f = 1
  · subst h1
    have l1 : (([w] : List Int).length : Int) = 1 := rfl
    have w1 : wrap64 (0 + 1) = 1 := by decide +kernel
    simp only [if_true, Option.bind_some, word_open.l0, l1, rd_zero, top31, Int.zero_lt_one, Int.le_refl, w1]
    by_cases c : w ≥ 4294967296
    · rw [if_pos (by omega)]; simp [c]
    · rw [if_neg (by omega)]; simp [c]
  · by_cases h2 : f = 2
    · subst h2
      have l1 : (([w] : List Int).length : Int) = 1 := rfl
      have w1 : wrap64 (0 + 1) = 1 := by decide +kernel
      simp only [show (¬ ((2 : Int) = 1)) by decide, if_false, if_true, Option.bind_some, word_open.l0, l1, rd_zero, top63, Int.zero_lt_one, Int.le_refl, w1]
      rw [if_neg (by omega)]
      simp
    · simp [h1, h2]
theorem shape_inf1 : word_shape_inf.f 23 255 2147483648 = some 2139095040 := by decide +kernel
theorem shape_inf2 : word_shape_inf.f 52 2047 9223372036854775808 = some 9218868437227405312 := by decide +kernel
theorem shape_none1 : word_shape_none.f 23 255 2147483648 = some 2143289344 := by decide +kernel
theorem shape_none2 : word_shape_none.f 52 2047 9223372036854775808 = some 9221120237041090560 := by decide +kernel
theorem shl23 : shl .u64 1 23 = 8388608 := by decide +kernel
theorem shl52 : shl .u64 1 52 = 4503599627370496 := by decide +kernel
theorem shape_class {f w : Int} (h : Gd f w) : word_shape_class.f (shp f).1 (shp f).2.1 (shp f).2.2 w = some (cl f w) := by
  rcases h with ⟨rfl, h0, h1⟩ | ⟨rfl, h0, h1⟩
  · have e1 : shp 1 = (23, 255, 2147483648) := rfl
    rw [e1]
    simp only [word_shape_class.f, andNot31 h0 h1, shape_inf1, Option.bind_some, shl23, cl, cls, one, infw, sgn, if_true]
    repeat' split
    all_goals first | rfl | (exfalso; omega)
  · have e1 : shp 2 = (52, 2047, 9223372036854775808) := rfl
    rw [e1]
    simp only [word_shape_class.f, andNot63 h0 h1, shape_inf2, Option.bind_some, shl52, cl, cls, one, infw, sgn]
    simp only [show (¬ ((2 : Int) = 1)) by decide, if_false]
    repeat' split
    all_goals first | rfl | (exfalso; omega)
theorem split_good (k : Nat) {f w : Int} (h : Gd f w) : word_Split.f (k + 2) f w = some (decide (w ≥ sgn f), w % sgn f / one f, w % one f, 0) := by
  unfold word_Split.f
  rw [open_one k f w h.u, h.err]
  rcases h with ⟨rfl, h0, h1⟩ | ⟨rfl, h0, h1⟩
  · have e1 : shp 1 = (23, 255, 2147483648) := rfl
    have e2 : IntKind.u64.wrap (8388608 - 1) = 8388607 := by decide +kernel
    have e3 : shr .u64 (w % 2147483648) 23 = w % 2147483648 / 8388608 := rfl
    rw [e1]
    simp only [Option.bind_some, if_true, word_shape_split.f, andNot31 h0 h1, and31 h0 h1, shl23, e2, e3, sgn, one]
    rw [and23 (by omega) (by omega)]
    have e4 : wrap64 (w % 2147483648 / 8388608) = w % 2147483648 / 8388608 := by unfold wrap64; omega
    have e5 : w % 2147483648 % 8388608 = w % 8388608 := by omega
    rw [e4, e5]
    by_cases c : w ≥ 2147483648 <;> simp [c]
  · have e1 : shp 2 = (52, 2047, 9223372036854775808) := rfl
    have e2 : IntKind.u64.wrap (4503599627370496 - 1) = 4503599627370495 := by decide +kernel
    have e3 : shr .u64 (w % 9223372036854775808) 52 = w % 9223372036854775808 / 4503599627370496 := rfl
    rw [e1]
    simp only [Option.bind_some, if_true, word_shape_split.f, andNot63 h0 h1, and63 h0 h1, shl52, e2, e3, sgn, one]
    rw [and52 (by omega) (by omega)]
    have e4 : wrap64 (w % 9223372036854775808 / 4503599627370496) = w % 9223372036854775808 / 4503599627370496 := by unfold wrap64; omega
    have e5 : w % 9223372036854775808 % 4503599627370496 = w % 4503599627370496 := by omega
    rw [e4, e5]
    by_cases c : w ≥ 9223372036854775808 <;> simp [c]
theorem class_good (k : Nat) {f w : Int} (h : Gd f w) : word_Class.f (k + 2) f w = some (cl f w, 0) := by
  unfold word_Class.f
  rw [open_one k f w h.u, h.err]
  simp only [Option.bind_some, if_true, shape_class h]
theorem class_bad (k : Nat) {f w : Int} (hu : U w) (h : err f w ≠ 0) : word_Class.f (k + 2) f w = some (0, err f w) := by
  unfold word_Class.f
  rw [open_one k f w hu]
  simp only [Option.bind_some]
  rw [if_neg h]
theorem ref_Is (f : Int) : cutplaneref03_Is.f f = some (decide (f = 1 ∨ f = 2)) := by
  unfold cutplaneref03_Is.f
  by_cases h1 : f = 1
  · simp [h1]
  · rw [if_neg h1]; by_cases h2 : f = 2 <;> simp [h1, h2]
theorem ref_Good (f w : Int) : cutplaneref03_Good.f f w = some (err f w) := by
  unfold cutplaneref03_Good.f err
  rw [ref_Is]
  by_cases h1 : f = 1
  · subst h1; simp
    split <;> rfl
  · by_cases h2 : f = 2 <;> simp [h1, h2]
theorem ref_Split (f : Int) {w : Int} (hu : U w) : cutplaneref03_Split.f f w = some (decide (w ≥ sgn f), w % sgn f / one f, w % one f) := by
  unfold cutplaneref03_Split.f sgn one
  unfold U at hu
  rw [if_pos hu]
  split <;> rfl
theorem ref_Most (f : Int) : cutplaneref03_Most.f f = some (if f = 1 then 255 else 2047) := by unfold cutplaneref03_Most.f; split <;> rfl
theorem ref_Class (k : Nat) (f : Int) {w : Int} (hu : U w) : cutplaneref03_Class.f (k + 1) f w = some (cl f w) := by
  obtain ⟨h0, h1⟩ := hu
  unfold cutplaneref03_Class.f
  rw [ref_Split f ⟨h0, h1⟩]
  simp only [Option.bind_some, cutplaneref03_Class.j0, ref_Most]
  unfold cl cls sgn one infw
  by_cases hf : f = 1
  · simp only [hf, if_true]
    by_cases a : w % 2147483648 / 8388608 = 0
    · rw [if_pos a]
      by_cases b : w % 8388608 = 0
      · rw [if_pos (by simp [b]), if_pos (by omega)]
      · rw [if_neg (by simp [b]), if_pos a, if_neg (by omega), if_pos (by omega)]
    · rw [if_neg a, if_neg (by decide), if_neg a]
      by_cases c : w % 2147483648 / 8388608 < 255
      · rw [if_pos c, if_neg (by omega), if_neg (by omega), if_pos (by omega)]
      · rw [if_neg c]
        by_cases d : w % 8388608 = 0
        · rw [if_pos d, if_neg (by omega), if_neg (by omega), if_neg (by omega), if_pos (by omega)]
        · rw [if_neg d, if_neg (by omega), if_neg (by omega), if_neg (by omega), if_neg (by omega)]
  · simp only [hf, if_false]
    by_cases a : w % 9223372036854775808 / 4503599627370496 = 0
    · rw [if_pos a]
      by_cases b : w % 4503599627370496 = 0
      · rw [if_pos (by simp [b]), if_pos (by omega)]
      · rw [if_neg (by simp [b]), if_pos a, if_neg (by omega), if_pos (by omega)]
    · rw [if_neg a, if_neg (by decide), if_neg a]
      by_cases c : w % 9223372036854775808 / 4503599627370496 < 2047
      · rw [if_pos c, if_neg (by omega), if_neg (by omega), if_pos (by omega)]
      · rw [if_neg c]
        by_cases d : w % 4503599627370496 = 0
        · rw [if_pos d, if_neg (by omega), if_neg (by omega), if_neg (by omega), if_pos (by omega)]
        · rw [if_neg d, if_neg (by omega), if_neg (by omega), if_neg (by omega), if_neg (by omega)]
theorem ref_Sign (f : Int) : cutplaneref03_Sign.f f = some (sgn f) := by unfold cutplaneref03_Sign.f sgn; split <;> rfl
theorem ref_Frac (f : Int) : cutplaneref03_Frac.f f = some (if f = 1 then 23 else 52) := by unfold cutplaneref03_Frac.f; split <;> rfl
theorem ref_None (f : Int) : cutplaneref03_None.f f = some (nanw f) := by
  by_cases hf : f = 1
  · subst hf; decide +kernel
  · unfold cutplaneref03_None.f
    rw [ref_Most, ref_Frac]
    unfold nanw
    simp only [hf, if_false, Option.bind_some]
    have e : shl .u64 1 (wrap64 (52 - 1)) = 2251799813685248 := by decide +kernel
    have e0 : 0 ≤ wrap64 (52 - 1) := by decide +kernel
    have e1 : IntKind.u64.wrap (shl .u64 (IntKind.u64.wrap 2047) 52 + 2251799813685248) = 9221120237041090560 := by decide +kernel
    rw [if_pos e0, e]
    unfold cutplaneref03_Join.f
    rw [ref_Frac]
    simp [hf, e1]
theorem ref_Inf (f : Int) (b : Bool) : cutplaneref03_Inf.f f b = some (if b then infw f + sgn f else infw f) := by
  unfold cutplaneref03_Inf.f cutplaneref03_Join.f
  rw [ref_Most, ref_Frac, ref_Sign]
  unfold infw sgn
  by_cases hf : f = 1
  · have e1 : IntKind.u64.wrap (shl .u64 (IntKind.u64.wrap 255) 23 + 0) = 2139095040 := by decide +kernel
    have e2 : IntKind.u64.wrap (2139095040 + 2147483648) = 4286578688 := by decide +kernel
    simp only [hf, if_true, Option.bind_some, e1, e2]
    cases b <;> simp
  · have e1 : IntKind.u64.wrap (shl .u64 (IntKind.u64.wrap 2047) 52 + 0) = 9218868437227405312 := by decide +kernel
    have e2 : IntKind.u64.wrap (9218868437227405312 + 9223372036854775808) = 18442240474082181120 := by decide +kernel
    simp only [hf, if_false, Option.bind_some, e1, e2]
    cases b <;> simp
theorem ref_Signed (f : Int) {w : Int} (hu : U w) (b : Bool) : cutplaneref03_Signed.f f w b = some (if b then w % sgn f + sgn f else w % sgn f) := by
  obtain ⟨h0, h1⟩ := hu
  unfold cutplaneref03_Signed.f
  rw [ref_Sign]
  simp only [Option.bind_some]
  have hs : sgn f = 2147483648 ∨ sgn f = 9223372036854775808 := by unfold sgn; split <;> simp
  have e : Int.tmod w (sgn f) = w % sgn f := Int.tmod_eq_emod_of_nonneg h0
  rw [if_neg (by omega), e, wrapu64]
  have e2 : (w % sgn f + sgn f) % 18446744073709551616 = w % sgn f + sgn f := by rcases hs with h | h <;> rw [h] <;> omega
  rw [e2]
  cases b <;> simp
def flipw (f w : Int) : Int := if w ≥ sgn f then w - sgn f else w + sgn f
def negw (f w : Int) : Int := if cl f w = 5 then nanw f else flipw f w
theorem shape_none {f w : Int} (h : Gd f w) : word_shape_none.f (shp f).1 (shp f).2.1 (shp f).2.2 = some (nanw f) := by
  rcases h with ⟨rfl, _, _⟩ | ⟨rfl, _, _⟩
  · exact shape_none1
  · exact shape_none2
theorem turned_good (k : Nat) {f w : Int} (h : Gd f w) {g : Int → Int → Int → Option Int} {z : Int} (hg : g (shp f).1 (shp f).2.1 (shp f).2.2 = some z) :
    word_turned.f (k + 2) f w g = some (if cl f w = 5 then nanw f else z, 0) := by
  unfold word_turned.f
  rw [open_one k f w h.u, h.err]
  simp only [Option.bind_some, if_true, shape_class h, shape_none h, hg]
  split <;> rfl
theorem shp3 {f w : Int} (h : Gd f w) : (shp f).2.2 = sgn f := by
  rcases h with ⟨rfl, _, _⟩ | ⟨rfl, _, _⟩ <;> rfl
theorem neg_good (k : Nat) {f w : Int} (h : Gd f w) : word_Neg.f (k + 2) f w = some (negw f w, 0) := by
  unfold word_Neg.f
  rw [turned_good k h (z := flipw f w) ?_]
  · rfl
  · unfold word_Neg_1.f flipw
    rw [shp3 h]
    rcases h with ⟨rfl, h0, h1⟩ | ⟨rfl, h0, h1⟩
    · exact congrArg some (xor31 h0 h1)
    · exact congrArg some (xor63 h0 h1)
theorem sgn_cases (f : Int) : sgn f = 2147483648 ∨ sgn f = 9223372036854775808 := by unfold sgn; split <;> simp
theorem open_nil' (k : Nat) (f : Int) : word_open.f (k + 1) f ([] : List Int) = some ((shp f).1, (shp f).2.1, (shp f).2.2, if f = 1 ∨ f = 2 then 0 else 4) := open_nil k f
end Go.Proofs.Ytlgapmhjaaajfaa.PA
end

section
namespace Go.Proofs.Ytlgapmhjaaajfaa.PA
open Go.RowKit Go.Proofs.YtlgapmhjaaajfaaW.PrintWords Go.Proofs.YtlgapmhjaaajfaaW.PrintLast Go.Proofs.YtlgapmhjaaajfaaW.PrintMore Go.Proofs.Ytlgapmhjaaajfaa.Wd
set_option linter.unusedSimpArgs false
set_option linter.unusedVariables false
theorem named_good (k : Nat) {f : Int} (hf : f = 1 ∨ f = 2) (b : Bool) {g : Int → Int → Int → Option Int} {z : Int} (hg : g (shp f).1 (shp f).2.1 (shp f).2.2 = some z) (h0 : 0 ≤ z) (h1 : z < sgn f) :
    word_named.f (k + 1) f b g = some (if b then z + sgn f else z, 0) := by
  unfold word_named.f
  rw [open_nil' k f]
  simp only [Option.bind_some, if_pos hf, if_true, hg]
  have e : Go.bits .or .u64 z (shp f).2.2 = z + sgn f := by
    rcases hf with rfl | rfl
    · exact or31 h0 h1
    · exact or63 h0 h1
  rw [e]
  cases b <;> rfl
theorem infw_lt (f : Int) : 0 ≤ infw f ∧ infw f < sgn f ∧ infw f < nanw f ∧ nanw f < sgn f ∧ one f < infw f ∧ 0 < one f := by unfold infw sgn nanw one; split <;> decide
theorem shape_inf {f : Int} (hf : f = 1 ∨ f = 2) : word_shape_inf.f (shp f).1 (shp f).2.1 (shp f).2.2 = some (infw f) := by
  rcases hf with rfl | rfl
  · exact shape_inf1
  · exact shape_inf2
theorem inf_good (k : Nat) {f : Int} (hf : f = 1 ∨ f = 2) (b : Bool) : word_Inf.f (k + 1) f b = some (if b then infw f + sgn f else infw f, 0) := by
  unfold word_Inf.f
  rw [named_good k hf b (z := infw f) (shape_inf hf) (infw_lt f).1 (infw_lt f).2.1]
  rfl
theorem greatest_good (k : Nat) {f : Int} (hf : f = 1 ∨ f = 2) (b : Bool) : word_Greatest.f (k + 1) f b = some (if b then infw f - 1 + sgn f else infw f - 1, 0) := by
  unfold word_Greatest.f
  have h := infw_lt f
  rw [named_good k hf b (z := infw f - 1) ?_ (by omega) (by omega)]
  · rfl
  · unfold word_Greatest_1.f
    rw [shape_inf hf]
    simp only [Option.bind_some, wrapu64]
    have := sgn_cases f
    rw [Int.emod_eq_of_lt (by omega) (by omega)]
theorem none_good (k : Nat) {f : Int} (hf : f = 1 ∨ f = 2) : word_None.f (k + 1) f = some (nanw f, 0) := by
  unfold word_None.f
  rw [named_good k hf false (z := nanw f) (by rcases hf with rfl | rfl; exact shape_none1; exact shape_none2) (by have := infw_lt f; omega) (infw_lt f).2.2.2.1]
  rfl
end Go.Proofs.Ytlgapmhjaaajfaa.PA
end

section
namespace Go.Proofs.Ytlgapmhjaaajfaa.PA
open Go.RowKit Go.Proofs.YtlgapmhjaaajfaaW.PrintWords Go.Proofs.YtlgapmhjaaajfaaW.PrintLast Go.Proofs.YtlgapmhjaaajfaaW.PrintMore Go.Proofs.Ytlgapmhjaaajfaa.Wd
set_option linter.unusedSimpArgs false
set_option linter.unusedVariables false
def errz (f a b : Int) : Int := if err f a = 0 then err f b else err f a
def Gz (f a b : Int) : Prop := Gd f a ∧ Gd f b
theorem gz_of {f a b : Int} (h : errz f a b = 0) (ha : U a) (hb : U b) : Gz f a b := by
  unfold errz at h
  by_cases e : err f a = 0
  · rw [if_pos e] at h; exact ⟨gd_of e ha, gd_of h hb⟩
  · rw [if_neg e] at h; exact absurd h e
theorem Gz.err {f a b : Int} (h : Gz f a b) : errz f a b = 0 := by unfold errz; rw [h.1.err, h.2.err]; rfl
theorem err_val (f w : Int) : err f w = 0 ∨ err f w = 4 ∨ err f w = 6 := by
  unfold PA.err; repeat' split
  all_goals simp
theorem err_four (f w : Int) : err f w = 4 ↔ ¬ (f = 1 ∨ f = 2) := by
  unfold PA.err; repeat' split
  all_goals simp_all
theorem ref_Goodz2 (k : Nat) (f a b c d : Int) : cutplaneref10_Good.f (k + 3) f [⟨a, b⟩, ⟨c, d⟩] = some (if errz f a b = 0 then errz f c d else errz f a b) := by
  unfold cutplaneref10_Good.f errz
  rw [ref_Is]
  have l1 : (([⟨a, b⟩, ⟨c, d⟩] : List S26).length : Int) = 2 := rfl
  have r0 : rd_T26 [⟨a, b⟩, ⟨c, d⟩] 0 = ⟨a, b⟩ := rfl
  have r1 : rd_T26 [⟨a, b⟩, ⟨c, d⟩] 1 = ⟨c, d⟩ := rfl
  have w1 : wrap64 (0 + 1) = 1 := by decide +kernel
  have w2 : wrap64 (1 + 1) = 2 := by decide +kernel
  by_cases hf : f = 1 ∨ f = 2
  · have ea := err_val f a
    have eb := err_val f b
    have ec := err_val f c
    have ed := err_val f d
    have fa : err f a ≠ 4 := fun c => (err_four f a).1 c hf
    have fb : err f b ≠ 4 := fun c => (err_four f b).1 c hf
    have fc : err f c ≠ 4 := fun e => (err_four f c).1 e hf
    have fd : err f d ≠ 4 := fun e => (err_four f d).1 e hf
    have t0 : (0 : Int) < 2 := by decide
    have t1 : (1 : Int) < 2 := by decide
    have t2 : ¬ (2 : Int) < 2 := by decide
    have t3 : (0 : Int) ≤ 1 := by decide
    simp only [Option.bind_some, hf, decide_true, if_true, cutplaneref10_Good.l0, l1, r0, r1, w1, w2, ref_Good, t0, t1, t2, t3, if_false, Int.le_refl]
    by_cases ca : err f a = 0
    · by_cases cb : err f b = 0
      · by_cases cc : err f c = 0
        · by_cases cd : err f d = 0
          · simp only [ca, cb, cc, cd, if_true]
          · simp only [ca, cb, cc, cd, if_true, if_false]; congr 1; omega
        · simp only [ca, cb, cc, if_true, if_false]; congr 1; omega
      · simp only [ca, cb, if_true, if_false]; congr 1; omega
    · simp only [ca, if_false]; congr 1; omega
  · have fa := (err_four f a).2 hf
    simp [hf, fa]
def zc (f a b : Int) : Int := if cl f a = 4 ∨ cl f b = 4 then 3 else if cl f a = 5 ∨ cl f b = 5 then 4 else if cl f a = 1 ∧ cl f b = 1 then 1 else 2
theorem classz_good (k : Nat) {f a b : Int} (h : Gz f a b) : pair_Class.f (k + 2) f a b = some (zc f a b, 0) := by
  unfold pair_Class.f zc
  rw [class_good k h.1, class_good k h.2]
  simp only [Option.bind_some, if_true, pair_Class.j0, pair_Class.j1]
  by_cases a4 : cl f a = 4 <;> by_cases b4 : cl f b = 4 <;> by_cases a5 : cl f a = 5 <;> by_cases b5 : cl f b = 5 <;> by_cases a1 : cl f a = 1 <;> by_cases b1 : cl f b = 1 <;> simp_all
theorem classz_bad (k : Nat) {f a b : Int} (ha : U a) (hb : U b) (h : errz f a b ≠ 0) : pair_Class.f (k + 2) f a b = some (0, errz f a b) := by
  unfold pair_Class.f
  unfold errz at h ⊢
  by_cases c : err f a = 0
  · rw [class_good k (gd_of c ha)]
    rw [if_pos c] at h ⊢
    simp only [Option.bind_some, if_true, class_bad k hb h]
    rw [if_neg h]
  · rw [class_bad k ha c]
    rw [if_neg c] at h ⊢
    simp only [Option.bind_some]
    rw [if_neg h]
theorem ref_Classz (k : Nat) (f : Int) {a b : Int} (ha : U a) (hb : U b) : cutplaneref10_Class.f (k + 2) f a b = some (zc f a b) := by
  unfold cutplaneref10_Class.f zc
  rw [ref_Class (k + 1) f ha, ref_Class (k + 1) f hb]
  simp only [Option.bind_some, cutplaneref10_Class.j0, cutplaneref10_Class.j1]
  by_cases a4 : cl f a = 4 <;> by_cases b4 : cl f b = 4 <;> by_cases a5 : cl f a = 5 <;> by_cases b5 : cl f b = 5 <;> by_cases a1 : cl f a = 1 <;> by_cases b1 : cl f b = 1 <;> simp_all
end Go.Proofs.Ytlgapmhjaaajfaa.PA
end

section
namespace Go.Proofs.Ytlgapmhjaaajfaa.PA
open Go.RowKit Go.Proofs.YtlgapmhjaaajfaaW.PrintWords Go.Proofs.YtlgapmhjaaajfaaW.PrintLast Go.Proofs.YtlgapmhjaaajfaaW.PrintMore Go.Proofs.Ytlgapmhjaaajfaa.Wd
set_option linter.unusedSimpArgs false
set_option linter.unusedVariables false
theorem up_ {α : Type} {g : Nat → Option α} (hm : ∀ k, LeO (g k) (g (k + 1))) {K : Nat} {r : α} (h : g K = some r) (k : Nat) : g (k + K) = some r := by
  induction k with
  | zero => rw [Nat.zero_add]; exact h
  | succ k ih => rw [show k + 1 + K = (k + K) + 1 by omega]; exact hm (k + K) r ih
def Md (m : Int) : Prop := 1 ≤ m ∧ m ≤ 5
instance (m : Int) : Decidable (Md m) := inferInstanceAs (Decidable (_ ∧ _))
def me (f m : Int) : Int := if f = 1 ∨ f = 2 then (if Md m then 0 else 5) else 4
theorem over_val (k : Nat) (f m : Int) : ∃ x, round_Over.f (k + 4) f m false = some (x, me f m) := by
  unfold me
  by_cases hf : f = 1 ∨ f = 2
  · obtain ⟨p, l, t, hform⟩ : ∃ p l t, round_formOf.f f = some (p, l, t, true) := by
      rcases hf with rfl | rfl <;> exact ⟨_, _, _, rfl⟩
    have hl : (([] : List S69).length : Int) = 0 := rfl
    unfold round_Over.f round_open.f
    rw [hform, if_pos hf]
    simp only [Option.bind_some, if_true]
    by_cases hm : Md m
    · rw [if_pos hm]
      obtain ⟨m1, m5⟩ := hm
      rw [if_neg (show ¬ m < 1 by omega), show decide (m > 5) = false from decide_eq_false (by omega)]
      simp only [round_open.j0, round_open.l0, hl, Int.lt_irrefl, Bool.false_eq_true, if_false, Option.bind_some, if_true, round_Over.j0, inf_good _ hf, greatest_good _ hf]
      repeat' split
      all_goals exact ⟨_, rfl⟩
    · rw [if_neg hm]
      by_cases h1 : m < 1
      · rw [if_pos h1]
        simp only [round_open.j0, if_true, Option.bind_some]
        exact ⟨0, rfl⟩
      · rw [if_neg h1, show decide (m > 5) = true from decide_eq_true (by unfold Md at hm; omega)]
        simp only [round_open.j0, if_true, Option.bind_some]
        exact ⟨0, rfl⟩
  · have hform : round_formOf.f f = some (0, 0, 0, false) := by
      unfold round_formOf.f
      rw [if_neg (fun h => hf (.inl h)), if_neg (fun h => hf (.inr h))]
    unfold round_Over.f round_open.f
    rw [hform, if_neg hf]
    exact ⟨0, rfl⟩
/-- the error that is there ahead of all else -/
def oe (f m a b c d : Int) : Int := if me f m = 0 then (if errz f a b = 0 then errz f c d else errz f a b) else me f m
theorem zopen_val (k : Nat) {f m a b c d : Int} (ha : U a) (hb : U b) (hc : U c) (hd : U d) : special_open.f (k + 6) f m [⟨a, b⟩, ⟨c, d⟩] = some (if oe f m a b c d = 0 then ([zc f a b, zc f c d], 0) else ([], oe f m a b c d)) := by
  obtain ⟨x, hx⟩ := over_val (k + 2) f m
  have l1 : (([⟨a, b⟩, ⟨c, d⟩] : List S26).length : Int) = 2 := rfl
  have r0 : rd_T26 [⟨a, b⟩, ⟨c, d⟩] 0 = ⟨a, b⟩ := rfl
  have r1 : rd_T26 [⟨a, b⟩, ⟨c, d⟩] 1 = ⟨c, d⟩ := rfl
  have w1 : wrap64 (0 + 1) = 1 := by decide +kernel
  have w2 : wrap64 (1 + 1) = 2 := by decide +kernel
  have t0 : (0 : Int) < 2 := by decide
  have t1 : (1 : Int) < 2 := by decide
  have t2 : ¬ (2 : Int) < 2 := by decide
  have t3 : (0 : Int) ≤ 1 := by decide
  have t4 : (0 : Int) ≤ 2 := by decide
  have t5 : (2 : Int).toNat ≤ 281474976710656 := by decide
  have t6 : (([] : List Int).length : Nat) < 140737488355328 := by decide
  have t7 : ∀ z : Int, ([z].length : Nat) < 140737488355328 := fun _ => by simp
  unfold special_open.f oe
  rw [hx]
  simp only [Option.bind_some]
  by_cases hm : me f m = 0
  · simp only [hm, if_true, l1, t4, t5, List.replicate, special_open.l0, r0, r1, w1, w2, t0, t1, t2, t3, if_false, Int.le_refl]
    by_cases e1 : errz f a b = 0
    · rw [classz_good _ (gz_of e1 ha hb)]
      simp only [Option.bind_some, if_true, t6, e1, List.nil_append, t7]
      by_cases e2 : errz f c d = 0
      · rw [classz_good _ (gz_of e2 hc hd)]
        simp only [Option.bind_some, if_true, e2, List.singleton_append, t7]
      · rw [classz_bad _ hc hd e2]
        simp only [Option.bind_some, if_neg e2]
    · rw [classz_bad _ ha hb e1]
      simp only [Option.bind_some, if_neg e1]
  · simp only [if_neg hm]
theorem opens_val (k : Nat) {f m a b c d : Int} : cutplanelaw11_opens.f (k + 3) f m [⟨a, b⟩, ⟨c, d⟩] = some (oe f m a b c d) := by
  unfold cutplanelaw11_opens.f cutplaneref05_Opens.f oe me
  rw [ref_Is]
  by_cases hf : f = 1 ∨ f = 2
  · have hi : cutplaneref04_Is.f m = some (decide (Md m)) := by
      unfold cutplaneref04_Is.f Md
      simp only [ge_iff_le]
      by_cases h1 : 1 ≤ m <;> by_cases h5 : m ≤ 5 <;> simp [h1, h5]
    have l0 : ¬ (0 : Int) < (([] : List Int).length : Int) := by decide
    simp only [Option.bind_some, hf, decide_true, if_true, hi]
    by_cases hm : Md m
    · simp only [hm, decide_true, if_true, cutplaneref05_Opens.l0, l0, if_false, Option.bind_some, ref_Goodz2]
    · simp [hm]
  · simp [hf]
theorem gd_fmt {f w : Int} (h : Gd f w) : f = 1 ∨ f = 2 := by rcases h with ⟨rfl, _⟩ | ⟨rfl, _⟩ <;> simp
def sd (f w : Int) (inf : Bool) : Int × Bool := if cl f w = 5 then (0, false) else if (if inf then cl f w = 4 else cl f w ≠ 1) then (if w ≥ sgn f then (-1, true) else (1, false)) else (0, decide (w ≥ sgn f))
theorem side_val (k : Nat) {f w : Int} (h : Gd f w) (inf : Bool) : special_sideOf.f (k + 3) f w inf = some (sd f w inf) := by
  unfold special_sideOf.f sd
  rw [class_good (k + 1) h, split_good (k + 1) h]
  simp only [Option.bind_some]
  cases inf <;> simp only [Bool.false_eq_true, if_false, if_true, special_sideOf.j0]
  · by_cases c5 : cl f w = 5 <;> by_cases c1 : cl f w = 1 <;> by_cases s : w ≥ sgn f <;> simp [c5, c1, s]
  · by_cases c5 : cl f w = 5 <;> by_cases c1 : cl f w = 4 <;> by_cases s : w ≥ sgn f <;> simp [c5, c1, s]
theorem box_val (k : Nat) {f a b : Int} (h : Gz f a b) (z : Int) : special_boxOf.f (k + 3) f a b z = some ((sd f a (z == 3)).1, (sd f a (z == 3)).2, (sd f b (z == 3)).1, (sd f b (z == 3)).2) := by
  unfold special_boxOf.f
  rw [side_val k h.1, side_val k h.2]; rfl
/-- the sides there are -/
def Sd (s : Int × Bool) : Prop := s = (1, false) ∨ s = (-1, true) ∨ s = (0, false) ∨ s = (0, true)
theorem sd_ok (f w : Int) (inf : Bool) : Sd (sd f w inf) := by
  unfold sd Sd
  by_cases c5 : cl f w = 5
  · simp [c5]
  · rw [if_neg c5]
    by_cases c : (if inf then cl f w = 4 else cl f w ≠ 1)
    · rw [if_pos c]
      by_cases s : w ≥ sgn f <;> simp [s]
    · rw [if_neg c]
      by_cases s : w ≥ sgn f <;> simp [s]
def onew (f : Int) : Int := if f = 1 then 1065353216 else 4607182418800017408
def wv (f size : Int) (s : Int × Bool) : Int := if s.2 then (if s.1 = 0 then 0 else size) + sgn f else (if s.1 = 0 then 0 else size)
theorem small_ok {f v : Int} (hf : f = 1 ∨ f = 2) (hv : v = 0 ∨ v = onew f ∨ v = infw f) : Gd f v ∧ cl f v ≠ 5 ∧ v < sgn f := by
  rcases hf with rfl | rfl
  · rcases hv with rfl | rfl | rfl
    · exact ⟨.inl ⟨rfl, by decide, by decide⟩, by decide, by decide⟩
    · exact ⟨.inl ⟨rfl, by decide, by decide⟩, by decide, by decide⟩
    · exact ⟨.inl ⟨rfl, by decide, by decide⟩, by decide, by decide⟩
  · rcases hv with rfl | rfl | rfl
    · exact ⟨.inr ⟨rfl, by decide, by decide⟩, by decide, by decide⟩
    · exact ⟨.inr ⟨rfl, by decide, by decide⟩, by decide, by decide⟩
    · exact ⟨.inr ⟨rfl, by decide, by decide⟩, by decide, by decide⟩
theorem part_val (k : Nat) {f size : Int} (hf : f = 1 ∨ f = 2) (hs : size = 0 ∨ size = onew f ∨ size = infw f) (n : Int) (g : Bool) : special_box_words.p (k + 2) f n g size = some (wv f size (n, g)) := by
  unfold special_box_words.p wv
  cases g
  · rfl
  · simp only [if_true]
    have hv : (if n = 0 then 0 else size) = 0 ∨ (if n = 0 then 0 else size) = onew f ∨ (if n = 0 then 0 else size) = infw f := by split; exact .inl rfl; exact hs
    generalize (if n = 0 then 0 else size) = v at hv ⊢
    obtain ⟨h1, h2, h3⟩ := small_ok hf hv
    rw [neg_good k h1]
    simp only [Option.bind_some]
    congr 1
    unfold negw flipw
    rw [if_neg h2, if_neg (by omega)]
theorem words_val (k : Nat) {f size : Int} (hf : f = 1 ∨ f = 2) (hs : size = 0 ∨ size = onew f ∨ size = infw f) (n0 : Int) (g0 : Bool) (n1 : Int) (g1 : Bool) : special_box_words.f (k + 2) n0 g0 n1 g1 f size = some (wv f size (n0, g0), wv f size (n1, g1)) := by
  unfold special_box_words.f
  rw [part_val k hf hs, part_val k hf hs]; rfl
theorem known11 (k : Nat) : cutplanelaw11_known.f (k + 24) = some true := up_ (g := fun k => cutplanelaw11_known.f k) (fun k => cutplanelaw11_known.mono k) (by decide +kernel) k
theorem ref_One {f : Int} (hf : f = 1 ∨ f = 2) (b : Bool) : cutplaneref11_One.f f b = some (if b then onew f + sgn f else onew f) := by
  rcases hf with rfl | rfl <;> cases b <;> decide +kernel
theorem ref_box (k : Nat) {f w : Int} (h : Gd f w) (big : Bool) (hb : cl f w = 5 → big = false) : cutplaneref11_box.f (k + 2) f w big = some (wv f (onew f) (if cl f w = 5 then (0, false) else if big then (if w ≥ sgn f then (-1, true) else (1, false)) else (0, decide (w ≥ sgn f)))) := by
  have hf := gd_fmt h
  have us : U (0 : Int) := ⟨by decide, by decide⟩
  unfold cutplaneref11_box.f
  rw [ref_Class (k + 1) f h.u]
  simp only [Option.bind_some]
  by_cases c5 : cl f w = 5
  · rw [if_pos c5, if_pos c5, hb c5]
    simp only [cutplaneref11_box.j0, Bool.false_eq_true, if_false, ref_Signed f us, Option.bind_some]
    simp [wv, Int.zero_emod]
  · rw [if_neg c5, if_neg c5, ref_Split f h.u]
    simp only [Option.bind_some, cutplaneref11_box.j0]
    cases big
    · simp only [Bool.false_eq_true, if_false, ref_Signed f us, Option.bind_some]
      by_cases s : w ≥ sgn f <;> simp [wv, s, Int.zero_emod]
    · simp only [if_true, ref_One hf, Option.bind_some]
      by_cases s : w ≥ sgn f <;> simp [wv, s]
/-- a number's direction -/
def bw (f a b : Int) : Int × Int := (wv f (onew f) (sd f a (zc f a b == 3)), wv f (onew f) (sd f b (zc f a b == 3)))
theorem sd_fin {f w : Int} : (if cl f w = 5 then ((0, false) : Int × Bool) else if (cl f w != 1) = true then (if w ≥ sgn f then (-1, true) else (1, false)) else (0, decide (w ≥ sgn f))) = sd f w false := by
  unfold sd
  by_cases c : cl f w = 1 <;> simp [c]
theorem sd_inf {f w : Int} : (if cl f w = 5 then ((0, false) : Int × Bool) else if (cl f w == 4) = true then (if w ≥ sgn f then (-1, true) else (1, false)) else (0, decide (w ≥ sgn f))) = sd f w true := by
  unfold sd
  by_cases c : cl f w = 4 <;> simp [c]
theorem zc_nan {f a b : Int} (h4 : zc f a b ≠ 4) (h3 : zc f a b ≠ 3) : cl f a ≠ 5 ∧ cl f b ≠ 5 := by
  unfold zc at h4 h3
  by_cases c4 : cl f a = 4 ∨ cl f b = 4
  · simp [c4] at h3
  · rw [if_neg c4] at h4
    by_cases c5 : cl f a = 5 ∨ cl f b = 5
    · simp [c5] at h4
    · exact ⟨fun h => c5 (.inl h), fun h => c5 (.inr h)⟩
theorem ref_Box (k : Nat) {f a b : Int} (h : Gz f a b) (h4 : zc f a b ≠ 4) : cutplaneref11_Box.f (k + 2) f a b = some (bw f a b) := by
  unfold cutplaneref11_Box.f bw
  rw [ref_Classz k f h.1.u h.2.u]
  simp only [Option.bind_some, ref_Class (k + 1) f h.1.u, ref_Class (k + 1) f h.2.u]
  by_cases h3 : zc f a b = 3
  · rw [if_pos h3, h3, ref_box k h.1 _ (fun c => by rw [c]; rfl), ref_box k h.2 _ (fun c => by rw [c]; rfl)]
    simp only [Option.bind_some, sd_inf]
    rfl
  · rw [if_neg h3]
    obtain ⟨n1, n2⟩ := zc_nan h4 h3
    rw [ref_box k h.1 _ (fun c => absurd c n1), ref_box k h.2 _ (fun c => absurd c n2)]
    simp only [Option.bind_some, sd_fin, show (zc f a b == 3) = false from beq_eq_false_iff_ne.mpr h3]
end Go.Proofs.Ytlgapmhjaaajfaa.PA
end

section
namespace Go.Proofs.Ytlgapmhjaaajfaa.PA
open Go.RowKit Go.Proofs.YtlgapmhjaaajfaaW.PrintWords Go.Proofs.YtlgapmhjaaajfaaW.PrintLast Go.Proofs.YtlgapmhjaaajfaaW.PrintMore Go.Proofs.Ytlgapmhjaaajfaa.Wd
set_option linter.unusedSimpArgs false
set_option linter.unusedVariables false
def tm (s t : Int × Bool) : Int × Bool := (wrap64 (s.1 * t.1), s.2 != t.2)
def mn (s : Int × Bool) : Int × Bool := (wrap64 (-s.1), !s.2)
def pl (s t : Int × Bool) (m : Int) : Int × Bool := (special_side_plus.f s.1 s.2 t.1 t.2 m).getD (0, false)
theorem plus_val (s t : Int × Bool) (m : Int) : special_side_plus.f s.1 s.2 t.1 t.2 m = some (pl s t m) := by
  unfold pl special_side_plus.f
  repeat' split
  all_goals rfl
def btm (s t : (Int × Bool) × (Int × Bool)) (m : Int) : (Int × Bool) × (Int × Bool) := (pl (tm s.1 t.1) (mn (tm s.2 t.2)) m, pl (tm s.1 t.2) (tm s.2 t.1) m)
theorem times_val (s t : (Int × Bool) × (Int × Bool)) (m : Int) : special_box_times.f s.1.1 s.1.2 s.2.1 s.2.2 t.1.1 t.1.2 t.2.1 t.2.2 m = some ((btm s t m).1.1, (btm s t m).1.2, (btm s t m).2.1, (btm s t m).2.2) := by
  have h1 := plus_val (tm s.1 t.1) (mn (tm s.2 t.2)) m
  have h2 := plus_val (tm s.1 t.2) (tm s.2 t.1) m
  unfold tm mn at h1
  unfold tm at h2
  unfold special_box_times.f special_side_times.f special_side_minus.f btm tm mn
  simp only [Option.bind_some, h1, h2]
/-- a number's box -/
def bx (f a b : Int) : (Int × Bool) × (Int × Bool) := (sd f a (zc f a b == 3), sd f b (zc f a b == 3))
def wz (f size : Int) (s : (Int × Bool) × (Int × Bool)) : Int × Int := (wv f size s.1, wv f size s.2)
/-- what a product comes to -/
def mulv (f m a b c d : Int) : Int × Int × Int × Int × Bool × Int :=
  if zc f a b ≤ 2 ∧ zc f c d ≤ 2 then (0, 0, 0, 0, false, 0) else if zc f a b = 4 ∨ zc f c d = 4 then (nanw f, nanw f, 0, 0, true, 0) else
    if zc f a b = 1 ∨ zc f c d = 1 then (nanw f, nanw f, 1, 1, true, 0) else ((wz f (infw f) (btm (bx f a b) (bx f c d) m)).1, (wz f (infw f) (btm (bx f a b) (bx f c d) m)).2, 0, 0, true, 0)
theorem snone_val (k : Nat) {f : Int} (hf : f = 1 ∨ f = 2) (x : Int) : special_none.f (k + 1) f x = some (nanw f, nanw f, x, x) := by
  unfold special_none.f
  rw [none_good k hf]; rfl
theorem oe_gz {f m a b c d : Int} (h : oe f m a b c d = 0) (ha : U a) (hb : U b) (hc : U c) (hd : U d) : Gz f a b ∧ Gz f c d ∧ Md m := by
  unfold oe at h
  by_cases hm : me f m = 0
  · rw [if_pos hm] at h
    have hM : Md m := by
      unfold me at hm
      by_cases hf : f = 1 ∨ f = 2
      · rw [if_pos hf] at hm
        by_cases hM : Md m
        · exact hM
        · rw [if_neg hM] at hm; exact absurd hm (by decide)
      · rw [if_neg hf] at hm; exact absurd hm (by decide)
    by_cases e : errz f a b = 0
    · rw [if_pos e] at h
      exact ⟨gz_of e ha hb, gz_of h hc hd, hM⟩
    · rw [if_neg e] at h; exact absurd h e
  · rw [if_neg hm] at h; exact absurd h hm
theorem mul_bad (k : Nat) {f m a b c d : Int} (ha : U a) (hb : U b) (hc : U c) (hd : U d) (h : oe f m a b c d ≠ 0) : special_Mul.f (k + 6) f m a b c d = some (0, 0, 0, 0, false, oe f m a b c d) := by
  unfold special_Mul.f
  rw [zopen_val k ha hb hc hd, if_neg h]
  simp only [Option.bind_some, if_neg h]
theorem mul_good (k : Nat) {f m a b c d : Int} (ha : U a) (hb : U b) (hc : U c) (hd : U d) (h : oe f m a b c d = 0) : special_Mul.f (k + 8) f m a b c d = some (mulv f m a b c d) := by
  obtain ⟨g1, g2, hM⟩ := oe_gz h ha hb hc hd
  have hf := gd_fmt g1.1
  have l2 : ∀ x y : Int, (([x, y] : List Int).length : Int) = 2 := fun _ _ => rfl
  have t0 : (0 : Int) < 2 := by decide
  have t1 : (1 : Int) < 2 := by decide
  have r0 : ∀ x y : Int, rd [x, y] 0 = x := fun _ _ => rfl
  have r1 : ∀ x y : Int, rd [x, y] 1 = y := fun _ _ => rfl
  have hbt := times_val (bx f a b) (bx f c d) m
  unfold special_Mul.f
  rw [zopen_val (k + 2) ha hb hc hd, if_pos h]
  simp only [Option.bind_some, if_true, l2, t0, t1, r0, r1, inf_good _ hf, Bool.false_eq_true, if_false]
  have tail : ∀ q : Nat, special_Mul.j1 (q + 5) f m (zc f a b) (zc f c d) (infw f) false a b c d = some (if zc f a b = 1 ∨ zc f c d = 1 then (nanw f, nanw f, 1, 1, true, 0) else ((wz f (infw f) (btm (bx f a b) (bx f c d) m)).1, (wz f (infw f) (btm (bx f a b) (bx f c d) m)).2, 0, 0, true, 0)) := by
    intro q
    simp only [special_Mul.j1, Bool.false_eq_true, if_false, snone_val _ hf, Option.bind_some]
    by_cases p1 : zc f a b = 1
    · simp [p1]
    · by_cases q1 : zc f c d = 1
      · simp [p1, q1]
      · simp only [p1, q1, if_false, or_self, box_val _ g1, box_val _ g2, Option.bind_some]
        unfold bx at hbt
        rw [hbt]
        simp only [Option.bind_some, words_val _ hf (.inr (.inr rfl))]
        rfl
  have nn : ∀ q : Nat, special_Mul.j1 (q + 5) f m (zc f a b) (zc f c d) (infw f) true a b c d = some (nanw f, nanw f, 0, 0, true, 0) := by
    intro q
    simp only [special_Mul.j1, if_true, snone_val _ hf, Option.bind_some]
  have step : ∀ q : Nat, special_Mul.j0 (q + 6) f m (zc f a b) (zc f c d) (infw f) false a b c d = some (if zc f a b = 4 ∨ zc f c d = 4 then (nanw f, nanw f, 0, 0, true, 0) else if zc f a b = 1 ∨ zc f c d = 1 then (nanw f, nanw f, 1, 1, true, 0) else ((wz f (infw f) (btm (bx f a b) (bx f c d) m)).1, (wz f (infw f) (btm (bx f a b) (bx f c d) m)).2, 0, 0, true, 0)) := by
    intro q
    simp only [special_Mul.j0, Bool.false_eq_true, if_false]
    by_cases p4 : zc f a b = 4
    · rw [if_pos p4, nn, if_pos (.inl p4)]
    · rw [if_neg p4]
      by_cases q4 : zc f c d = 4
      · rw [show (zc f c d == 4) = true from beq_iff_eq.mpr q4, nn, if_pos (.inr q4)]
      · rw [show (zc f c d == 4) = false from beq_eq_false_iff_ne.mpr q4, tail, if_neg (show ¬ (zc f a b = 4 ∨ zc f c d = 4) from fun h => h.elim p4 q4)]
  unfold mulv
  by_cases p2 : zc f a b ≤ 2
  · rw [if_pos p2]
    by_cases q2 : zc f c d ≤ 2
    · rw [show decide (zc f c d ≤ 2) = true from decide_eq_true q2, if_pos ⟨p2, q2⟩]
      simp only [special_Mul.j0, if_true]
    · rw [show decide (zc f c d ≤ 2) = false from decide_eq_false q2, if_neg (fun h => q2 h.2), step (k + 2)]
  · rw [if_neg p2, if_neg (fun h => p2 h.1), step (k + 2)]
theorem tm_ok {s t : Int × Bool} (hs : Sd s) (ht : Sd t) : Sd (tm s t) := by
  rcases hs with rfl | rfl | rfl | rfl <;> rcases ht with rfl | rfl | rfl | rfl <;> unfold Sd <;> decide +kernel
theorem bx_ok (f a b : Int) : Sd (bx f a b).1 ∧ Sd (bx f a b).2 := ⟨sd_ok _ _ _, sd_ok _ _ _⟩
end Go.Proofs.Ytlgapmhjaaajfaa.PA
end
