/- Steps of Go functions that the law SpecialQuotients uses, told as plain Lean functions, each with the proof that its call comes to what it tells; words on memory; plain facts. No condition beyond those that each text names. -/
import Derived.Test.YtlgapmhjaaajfaaGreatProg
import Derived.WalkMore
import Derived.Test.YtlgapmhjaaajfaaGreatSSpecialQuotients0
import Derived.Test.YtlgapmhjaaajfaaGreatSSpecialQuotients1
import Derived.Test.YtlgapmhjaaajfaaGreatSSpecialQuotients2
import Derived.Test.YtlgapmhjaaajfaaGreatSSpecialQuotients3
import Derived.Test.YtlgapmhjaaajfaaGreatSSpecialQuotients5
import Derived.Test.YtlgapmhjaaajfaaGreatSSpecialQuotients6
import Derived.Test.YtlgapmhjaaajfaaGreatSSpecialQuotients7
import Derived.Test.YtlgapmhjaaajfaaGreatSSpecialQuotients8
import Derived.Test.YtlgapmhjaaajfaaGreatSSpecialQuotients9
import Derived.Test.YtlgapmhjaaajfaaGreatSSpecialQuotients10
import Derived.Test.YtlgapmhjaaajfaaGreatSSpecialQuotients11
import Derived.Test.YtlgapmhjaaajfaaGreatSSpecialQuotients12
set_option maxHeartbeats 16000000
set_option maxRecDepth 100000
section
namespace Go.Proofs.YtlgapmhjaaajfaaGreat.PA
open Go.RowKit Go.Proofs.YtlgapmhjaaajfaaGreatW.PrintWords Go.Proofs.YtlgapmhjaaajfaaGreatW.PrintLast Go.Proofs.YtlgapmhjaaajfaaGreatW.PrintMore
attribute [local go_sem] max2_int min2_int max_two min_two max_three min_three max_four min_four   -- for this text's walks alone
set_option linter.unusedVariables false
set_option linter.unusedSimpArgs false
mutual
def cutplaneref11_Div.j0 : Nat → Int → Int → Int → Int → Bool → Int → Int → Int → Int → Option (Int × Int × Int × Int × Bool)
 | 0, _, _, _, _, _, _, _, _, _ => none
 | k + 1, x0, x1, x10, x11, x27, x793000, x793001, x794000, x794001 => if x27 = true then (some (0, 0, 0, 0, false)) else (if x10 = 4 then (cutplaneref11_Div.j1 k x0 x1 x10 x11 true x793000 x793001 x794000 x794001) else (cutplaneref11_Div.j1 k x0 x1 x10 x11 (x11 == 4) x793000 x793001 x794000 x794001))
def cutplaneref11_Div.j1 : Nat → Int → Int → Int → Int → Bool → Int → Int → Int → Int → Option (Int × Int × Int × Int × Bool)
 | 0, _, _, _, _, _, _, _, _, _ => none
 | k + 1, x0, x1, x10, x11, x34, x793000, x793001, x794000, x794001 => if x34 = true then ((cutplaneref11_nothing.f x0 0).bind fun bt798 => (some (bt798.1, bt798.2.1, bt798.2.2.1, bt798.2.2.2, true))) else (if x10 = x11 then (cutplaneref11_Div.j2 k x0 x1 x10 x11 (x10 != 2) x793000 x793001 x794000 x794001) else (cutplaneref11_Div.j2 k x0 x1 x10 x11 false x793000 x793001 x794000 x794001))
def cutplaneref11_Div.j2 : Nat → Int → Int → Int → Int → Bool → Int → Int → Int → Int → Option (Int × Int × Int × Int × Bool)
 | 0, _, _, _, _, _, _, _, _, _ => none
 | k + 1, x0, x1, x10, x11, x43, x793000, x793001, x794000, x794001 => if x43 = true then ((cutplaneref11_nothing.f x0 1).bind fun bt802 => (some (bt802.1, bt802.2.1, bt802.2.2.1, bt802.2.2.2, true))) else ((cutplaneref11_Box.f k x0 x794000 x794001).bind fun bt806 => (if x11 = 1 then ((cutplaneref03_Split.f x0 x794000).bind fun bt809 => ((cutplaneref11_One.f x0 bt809.1).bind fun t812 => (cutplaneref11_Div.j3 k x0 x1 x10 x11 x793000 x793001 t812 bt806.2))) else (cutplaneref11_Div.j3 k x0 x1 x10 x11 x793000 x793001 bt806.1 bt806.2)))
def cutplaneref11_Div.j3 : Nat → Int → Int → Int → Int → Int → Int → Int → Int → Option (Int × Int × Int × Int × Bool)
 | 0, _, _, _, _, _, _, _, _ => none
 | k + 1, x0, x1, x10, x11, x793000, x793001, x809000, x809001 => (cutplaneref11_Box.f k x0 x793000 x793001).bind fun bt813 => ((cutplaneref10_Conj.f k x0 x809000 x809001).bind fun bt815 => ((cutplaneref11_product.f k x0 x1 bt813.1 bt813.2 bt815.1 bt815.2).bind fun bt817 => (if x11 = 3 then ((cutplaneref11_turned.f k x0 bt817.1 bt817.2 0).bind fun bt820 => (some (bt820.1, bt820.2, 0, 0, true))) else ((cutplaneref03_Inf.f x0 false).bind fun t822 => ((cutplaneref11_turned.f k x0 bt817.1 bt817.2 t822).bind fun bt823 => (if x10 = 3 then (some (bt823.1, bt823.2, 0, 0, true)) else (some (bt823.1, bt823.2, 2, 2, true))))))))
end
def cutplaneref11_Div.f (k : Nat) (a0 : Int) (a1 : Int) (a2_0 : Int) (a2_1 : Int) (a3_0 : Int) (a3_1 : Int) : Option (Int × Int × Int × Int × Bool) := (cutplaneref10_Class.f k a0 a2_0 a2_1).bind fun t795 => ((cutplaneref10_Class.f k a0 a3_0 a3_1).bind fun t796 => ((cutplaneref10_Finite.f k a0 a2_0 a2_1).bind fun t797 => (if t797 = true then (cutplaneref11_Div.j0 k a0 a1 t795 t796 (t796 == 2) a2_0 a2_1 a3_0 a3_1) else (cutplaneref11_Div.j0 k a0 a1 t795 t796 false a2_0 a2_1 a3_0 a3_1))))
def cutplaneref11_Div.T1 : Bool × List (List Nat × List Nat) := (true, [([], []), ([], []), ([0, 1], [0, 1]), ([], []), ([], []), ([3, 4, 2], [3, 4]), ([2, 5, 0, 1, 2], [2]), ([5, 6, 0, 1, 2, 3, 4, 5, 6], [5])])
def cutplaneref11_Div.B1 : List Nat := [0, 0, 3, 0, 0, 31, 63, 127]
theorem cutplaneref11_Div.tab1 : rtab .any (opsOf Tryz.f7 1) = cutplaneref11_Div.T1 := by kernel_rfl
theorem cutplaneref11_Div.bits1 : waitsOk cutplaneref11_Div.T1.2 cutplaneref11_Div.B1 = true := by kernel_rfl
def cutplaneref11_Div.T11 : Bool × List (List Nat × List Nat) := (true, [([], []), ([], []), ([], []), ([], []), ([2, 3], [2, 3]), ([], []), ([], []), ([5, 6, 4], [5, 6]), ([0, 1, 4, 7, 7], [0, 1, 4, 7]), ([], []), ([9, 8, 8, 0, 1, 2, 3, 4, 5, 6, 7, 8, 9], [8, 9])])
def cutplaneref11_Div.B11 : List Nat := [0, 0, 0, 0, 12, 0, 0, 124, 255, 0, 1023]
theorem cutplaneref11_Div.tab11 : rtab .any (opsOf Tryz.f7 11) = cutplaneref11_Div.T11 := by kernel_rfl
theorem cutplaneref11_Div.bits11 : waitsOk cutplaneref11_Div.T11.2 cutplaneref11_Div.B11 = true := by kernel_rfl
def cutplaneref11_Div.T14 : Bool × List (List Nat × List Nat) := (true, [([], []), ([], []), ([], []), ([2], [2]), ([0, 1, 3, 3], [0, 1, 3]), ([4], [4]), ([], []), ([6, 5, 4, 0, 1, 2, 3, 4, 5, 6], [5, 6])])
def cutplaneref11_Div.B14 : List Nat := [0, 0, 0, 4, 15, 31, 0, 127]
theorem cutplaneref11_Div.tab14 : rtab .any (opsOf Tryz.f7 14) = cutplaneref11_Div.T14 := by kernel_rfl
theorem cutplaneref11_Div.bits14 : waitsOk cutplaneref11_Div.T14.2 cutplaneref11_Div.B14 = true := by kernel_rfl
theorem cutplaneref11_Div.calls (k : Nat) (a0 : Int) (a1 : Int) (a2_0 : Int) (a2_1 : Int) (a3_0 : Int) (a3_1 : Int) (r1 : Int) (r2 : Int) (r3 : Int) (r4 : Int) (r5 : Bool) (w : World) (h : cutplaneref11_Div.f k a0 a1 a2_0 a2_1 a3_0 a3_1 = some (r1, r2, r3, r4, r5)) :
  Calls Tryz.prog 7 #[.int .u8 a0, .int .u8 a1, .agg #[.int .u64 a2_0, .int .u64 a2_1], .agg #[.int .u64 a3_0, .int .u64 a3_1]] w fun e w' => e = .returned (.tuple #[.agg #[.int .u64 r1, .int .u64 r2, .int .u8 r3, .int .u8 r4], .bool r5]) ∧ Below w.heap.size w w' := by
 have hfd61_0 : ∀ (v0_ v1_ v2_ : Value) (w : World), (Instr.field 61 (.agg #[v0_, v1_, v2_]) 0).run Tryz.prog w = .ok v0_ w := fun _ _ _ _ => by kernel_rfl
 have hu26 := Tryz.underlying26
 have hu29 := Tryz.underlying29
 have HB := A0_ (Below.refl w.heap.size w)
 have H := h
 clear h
 unfold cutplaneref11_Div.f at H
 obtain ⟨t795, A5, H⟩ := bs_ H
 try dsimp -simprocs only at H
 obtain ⟨t796, A6, H⟩ := bs_ H
 try dsimp -simprocs only at H
 have HC7 := A0_ H
 clear H
 go_enter Tryz.func7, Tryz.ntmps7
 try go_wp2_with (first | ((with_reducible refine gate_dst (N := 6) rfl ?_); refine box_event ?hg (N := 6) ?hd (cs := #[.int .u64 a2_0, .int .u64 a2_1]) (t := 26) ?hr ?_; (case hd => rfl); (case hg => rfl); (case hr => first | (go_simp; done) | (go_simp; rfl)); intro gb792 hg w8 hbox hb; have BK792 := A0_ (hbox); have GW792 := A0_ ((by rw [hg]; exact (below_size (qm_ HB.out)) : w.heap.size ≤ gb792)); have GE792 := GW792; replace HB := hs_ hb; clear hb hbox hg) | ((with_reducible refine gate_dst (N := 7) rfl ?_); refine box_event ?hg (N := 7) ?hd (cs := #[.int .u64 a3_0, .int .u64 a3_1]) (t := 26) ?hr ?_; (case hd => rfl); (case hg => rfl); (case hr => first | (go_simp; done) | (go_simp; rfl)); intro gb793 hg w9 hbox hb; have BK793 := A0_ (hbox); have GW793 := A0_ ((by rw [hg]; exact (below_size qz_) : w.heap.size ≤ gb793)); have GE793 := GW793; replace HB := hs_ hb; have NB792_793 := nl_ hg BK792; have NB793_792 := ng_ hg BK792; replace BK792 := bb_ BK792 hb; clear hb hbox hg) | ((with_reducible refine gate_dst (N := 8) rfl ?_); refine box_event ?hg (N := 8) ?hd (cs := #[.int .u64 0, .int .u64 0, .int .u8 0, .int .u8 0]) (t := 29) ?hr ?_; (case hd => rfl); (case hg => rfl); (case hr => first | (go_simp; done) | (go_simp; rfl)); intro gb794 hg w10 hbox hb; have BK794 := A0_ (hbox); have GW794 := A0_ ((by rw [hg]; exact (below_size qz_) : w.heap.size ≤ gb794)); have GE794 := GW794; replace HB := hs_ hb; have NB792_794 := nl_ hg BK792; have NB794_792 := ng_ hg BK792; replace BK792 := bb_ BK792 hb; have NB793_794 := nl_ hg BK793; have NB794_793 := ng_ hg BK793; replace BK793 := bb_ BK793 hb; clear hb hbox hg))
 replace BK792 := A0_ (blk_drew BK792.out)
 replace BK793 := A0_ (blk_drew BK793.out)
 replace BK794 := A0_ (blk_drew BK794.out)
 replace HB := A0_ (below_drew1 HB.out)
 refine start_ (n := 8) (S := fun w' => w'.cell? ⟨gb792, 0, none⟩ = some (.int .u64 a2_0) ∧ w'.cell? ⟨gb792, 1, none⟩ = some (.int .u64 a2_1) ∧ w'.cell? ⟨gb793, 0, none⟩ = some (.int .u64 a3_0) ∧ w'.cell? ⟨gb793, 1, none⟩ = some (.int .u64 a3_1)) (ds := []) #[false, false, false, false, false, false, false, false] (by kernel_rfl) rfl rfl ⟨bC_ BK792.out 0, bC_ BK792.out 1, bC_ BK793.out 0, bC_ BK793.out 1⟩ (fun hHeld => ?_); refine with_tabW cutplaneref11_Div.tab1 cutplaneref11_Div.bits1 (fun HT_ HW_ => ?_)
 generalize w10.drew = w11 at BK792 BK793 BK794 HB hHeld ⊢
 refine pure_ (i := 0) (N := some 15) (v := ?_) (a' := ?_) #[true, false, false, false, false, false, false, false] rfl rfl (any_of HT_.out (by kernel_rfl)) (fun _ _ _ h => h) (Or.inl ⟨by rfl, ?_⟩) ?_ ?_
 rotate_left
 ·intro w'
  go_simp
  with_reducible rfl
 rotate_left
 ·simp only [Act.put, sp_, i64_w, i32_w]
  rfl
 refine pure_ (i := 3) (N := some 18) (v := ?_) (a' := ?_) #[true, false, false, true, false, false, false, false] rfl rfl (any_of HT_.out (by kernel_rfl)) (fun _ _ _ h => h) (Or.inl ⟨by rfl, ?_⟩) ?_ ?_
 rotate_left
 ·intro w'
  go_simp
  with_reducible rfl
 rotate_left
 ·simp only [Act.put, sp_, i64_w, i32_w]
  rfl
 refine take_ (i := 1) (N := some 16) (v := ?_) (a' := ?_) #[true, true, false, true, false, false, false, false] rfl rfl (take_ofW HT_.out HW_.out (by kernel_rfl)) (fun _ _ _ h => h) (Or.inl ⟨by rfl, ?_⟩) hHeld ?_ ?_
 rotate_left
 ·rintro w' ⟨s0, s1, s2, s3⟩
  go_simp
  with_reducible rfl
 rotate_left
 ·simp only [Act.put, sp_, i64_w, i32_w]
  rfl
 refine take_ (i := 4) (N := some 19) (v := ?_) (a' := ?_) #[true, true, false, true, true, false, false, false] rfl rfl (take_ofW HT_.out HW_.out (by kernel_rfl)) (fun _ _ _ h => h) (Or.inl ⟨by rfl, ?_⟩) hHeld ?_ ?_
 rotate_left
 ·rintro w' ⟨s0, s1, s2, s3⟩
  go_simp
  with_reducible rfl
 rotate_left
 ·simp only [Act.put, sp_, i64_w, i32_w]
  rfl
 refine one_ (i := 2) (N := some 17) #[true, true, true, true, true, false, false, false] rfl rfl (one_of HT_.out (by kernel_rfl)) (by decide) (fun K hK => ?_)
 refine goes_ Tryz.func18 (by kernel_rfl) rfl #[.int .u8 a0, .agg #[.int .u64 a2_0, .int .u64 a2_1]] (by rfl) rfl rfl (am_ rfl) ?_
 with_reducible refine (cutplaneref10_Class.calls k a0 a2_0 a2_1 t795 _ A5.out).mono ?_
 rintro e w12 ⟨rfl, hb⟩
 refine ⟨_, rfl, ?_⟩
 replace BK792 := bb_ BK792 hb
 replace BK793 := bb_ BK793 hb
 replace BK794 := bb_ BK794 hb
 replace HB := hs_ hb
 (try clear hb)
 refine hK.out _ _ ⟨bC_ BK792.out 0, bC_ BK792.out 1, bC_ BK793.out 0, bC_ BK793.out 1⟩ (fun hHeld => ?_)
 clear hK K
 refine norm_ (a' := ?_) ?_ ?_
 rotate_left
 ·show Act.put _ (some 17) _ = _
  simp only [Act.put, sp_, i64_w, i32_w]
  rfl
 refine one_ (i := 5) (N := some 20) #[true, true, true, true, true, true, false, false] rfl rfl (one_of HT_.out (by kernel_rfl)) (by decide) (fun K hK => ?_)
 refine goes_ Tryz.func18 (by kernel_rfl) rfl #[.int .u8 a0, .agg #[.int .u64 a3_0, .int .u64 a3_1]] (by rfl) rfl rfl (am_ rfl) ?_
 with_reducible refine (cutplaneref10_Class.calls k a0 a3_0 a3_1 t796 _ A6.out).mono ?_
 rintro e w13 ⟨rfl, hb⟩
 refine ⟨_, rfl, ?_⟩
 replace BK792 := bb_ BK792 hb
 replace BK793 := bb_ BK793 hb
 replace BK794 := bb_ BK794 hb
 replace HB := hs_ hb
 (try clear hb)
 refine hK.out _ _ ⟨bC_ BK792.out 0, bC_ BK792.out 1, bC_ BK793.out 0, bC_ BK793.out 1⟩ (fun hHeld => ?_)
 clear hK K
 refine norm_ (a' := ?_) ?_ ?_
 rotate_left
 ·show Act.put _ (some 20) _ = _
  simp only [Act.put, sp_, i64_w, i32_w]
  rfl
 refine pure_ (i := 6) (N := some 10) (v := ?_) (a' := ?_) #[true, true, true, true, true, true, true, false] rfl rfl (any_of HT_.out (by kernel_rfl)) (fun _ _ _ h => h) (Or.inl ⟨by rfl, ?_⟩) ?_ ?_
 rotate_left
 ·intro w'
  go_simp
  with_reducible rfl
 rotate_left
 ·simp only [Act.put, sp_, i64_w, i32_w]
  rfl
 refine pure_ (i := 7) (N := some 11) (v := ?_) (a' := ?_) #[true, true, true, true, true, true, true, true] rfl rfl (any_of HT_.out (by kernel_rfl)) (fun _ _ _ h => h) (Or.inl ⟨by rfl, ?_⟩) ?_ ?_
 rotate_left
 ·intro w'
  go_simp
  with_reducible rfl
 rotate_left
 ·simp only [Act.put, sp_, i64_w, i32_w]
  rfl
 refine done_ (done_of HT_.out (by kernel_rfl)) ?_
 go_upto_region 2 with (fail)
 go_cut [27] (fun v27 wc => ∃ (kq : Nat) (x27_6 : Bool), v27 = .bool x27_6 ∧ Aside0 (cutplaneref11_Div.j0 kq a0 a1 t795 t796 x27_6 a2_0 a2_1 a3_0 a3_1 = some (r1, r2, r3, r4, r5)) ∧ Aside0 (kq ≤ k) ∧ Aside0 (wc.heap[gb792]? = some (.cells #[.int .u64 a2_0, .int .u64 a2_1] 26 (0, 0))) ∧ Aside0 (wc.heap[gb793]? = some (.cells #[.int .u64 a3_0, .int .u64 a3_1] 26 (0, 0))) ∧ Aside0 (wc.heap[gb794]? = some (.cells #[.int .u64 0, .int .u64 0, .int .u8 0, .int .u8 0] 29 (0, 0))) ∧ Aside0 (Below w.heap.size w wc))
 case first =>
  have H := HC7.out
  clear HC7
  obtain ⟨t797, A14, H⟩ := bs_ H
  try dsimp -simprocs only at H
  by_cases c15 : t797 = true
  ·subst c15
   rw [if_pos rfl] at H
   have H' := A0_ H
   clear H
   have hnb16 := NB792_793.out
   have hnc16 := NB793_792.out
   have hnb17 := NB792_794.out
   have hnc17 := NB794_792.out
   have hcz18 := bc2_ BK792.out
   have hfz18 := bf2_ BK792.out
   go_wp2_with (first | ((with_reducible refine gate_callee (f := 19) rfl ?_); refine goesL_ (some 23) rfl rfl Tryz.func19 (by kernel_rfl) rfl #[.int .u8 a0, .agg #[.int .u64 a2_0, .int .u64 a2_1]] rfl (am_ rfl) ?_; (with_reducible refine (cutplaneref10_Finite.calls k a0 a2_0 a2_1 true _ A14.out).mono ?_); rintro e w19 ⟨rfl, hb⟩; refine ⟨_, rfl, ?_⟩; replace BK792 := bb_ BK792 hb; replace BK793 := bb_ BK793 hb; replace BK794 := bb_ BK794 hb; replace HB := hs_ hb; (try clear hb)))
   go_meet
   case rel => exact ⟨_, ((t796 == 2)), (by first | rfl | (simp; done) | (simp [*]; done)), H', ⟨by first | omega | exact Nat.le_refl _⟩, ⟨bm_ BK792.out⟩, ⟨bm_ BK793.out⟩, ⟨bm_ BK794.out⟩, ⟨qz_⟩⟩
  ·replace c15 := Bool.eq_false_iff.mpr c15
   subst c15
   rw [if_neg (show ¬ (false = true) by decide)] at H
   have H' := A0_ H
   clear H
   have hnb20 := NB792_793.out
   have hnc20 := NB793_792.out
   have hnb21 := NB792_794.out
   have hnc21 := NB794_792.out
   have hcz22 := bc2_ BK792.out
   have hfz22 := bf2_ BK792.out
   go_wp2_with (first | ((with_reducible refine gate_callee (f := 19) rfl ?_); refine goesL_ (some 23) rfl rfl Tryz.func19 (by kernel_rfl) rfl #[.int .u8 a0, .agg #[.int .u64 a2_0, .int .u64 a2_1]] rfl (am_ rfl) ?_; (with_reducible refine (cutplaneref10_Finite.calls k a0 a2_0 a2_1 false _ A14.out).mono ?_); rintro e w23 ⟨rfl, hb⟩; refine ⟨_, rfl, ?_⟩; replace BK792 := bb_ BK792 hb; replace BK793 := bb_ BK793 hb; replace BK794 := bb_ BK794 hb; replace HB := hs_ hb; (try clear hb)))
   go_meet
   case rel => exact ⟨_, (false), (by first | rfl | (simp; done) | (simp [*]; done)), H', ⟨by first | omega | exact Nat.le_refl _⟩, ⟨bm_ BK792.out⟩, ⟨bm_ BK793.out⟩, ⟨bm_ BK794.out⟩, ⟨qz_⟩⟩
 case rest =>
  clear HC7
  try clear c1
  try clear c2
  try clear p2
  try clear c7
  try clear c15
  try clear c16
  try clear c17
  try clear c18
  try clear c19
  try clear c20
  try clear c21
  try clear hcz18
  try clear hcz22
  try clear hfz18
  try clear hfz22
  obtain ⟨kq, x27_6, rfl, HA, HJ6, BK792, BK793, BK794, HB⟩ := hcut
  cases kq with
  | zero => exact absurd HA.out (by simp [cutplaneref11_Div.j0])
  | succ kj6 =>
   have H := HA.out
   clear HA
   simp only [cutplaneref11_Div.j0] at H
   by_cases c24 : x27_6 = true
   ·subst c24
    rw [if_pos rfl] at H
    simp only [Option.some.injEq, Prod.mk.injEq] at H
    obtain ⟨rfl, rfl, rfl, rfl, rfl⟩ := H
    have hnb25 := NB794_792.out
    have hnc25 := NB792_794.out
    have hnb26 := NB794_793.out
    have hnc26 := NB793_794.out
    have hcz27 := bc4_ BK794.out
    have hfz27 := bf4_ BK794.out
    go_wp2
    refine bodyPost_ret (results_ct rfl _ _ gb794 29 #[.int .u64 0, .int .u64 0, .int .u8 0, .int .u8 0] (0, 0) _ rfl (by (with_reducible repeat first | apply bN_ | apply bD_ | apply bA_); refine blk_put (cs := #[.int .u64 0, .int .u64 0, .int .u8 0, .int .u8 0]) ?_ 3 _ rfl; refine blk_put (cs := #[.int .u64 0, .int .u64 0, .int .u8 0, .int .u8 0]) ?_ 2 _ rfl; refine blk_put (cs := #[.int .u64 0, .int .u64 0, .int .u8 0, .int .u8 0]) ?_ 1 _ rfl; refine blk_put (cs := #[.int .u64 0, .int .u64 0, .int .u8 0, .int .u8 0]) ?_ 0 _ rfl; exact bm_ BK794.out) Tryz.underlying29 rfl (by kernel_rfl)) rfl ?_
    exact ⟨by first | rfl | (simp [errW_none, errW_some] <;> rfl) | (simp [*, errW_none, errW_some] <;> rfl), qz_⟩
   ·replace c24 := Bool.eq_false_iff.mpr c24
    subst c24
    rw [if_neg (show ¬ (false = true) by decide)] at H
    have HC28 := A0_ H
    clear H
    go_upto_region 4 with (fail)
    go_cut [34] (fun v34 wc => ∃ (kq : Nat) (x34_27 : Bool), v34 = .bool x34_27 ∧ Aside0 (cutplaneref11_Div.j1 kq a0 a1 t795 t796 x34_27 a2_0 a2_1 a3_0 a3_1 = some (r1, r2, r3, r4, r5)) ∧ Aside0 (kq ≤ kj6) ∧ Aside0 (wc.heap[gb792]? = some (.cells #[.int .u64 a2_0, .int .u64 a2_1] 26 (0, 0))) ∧ Aside0 (wc.heap[gb793]? = some (.cells #[.int .u64 a3_0, .int .u64 a3_1] 26 (0, 0))) ∧ Aside0 (wc.heap[gb794]? = some (.cells #[.int .u64 0, .int .u64 0, .int .u8 0, .int .u8 0] 29 (0, 0))) ∧ Aside0 (Below w.heap.size w wc))
    case first =>
     have H := HC28.out
     clear HC28
     by_cases c29 : t795 = 4
     ·rw [if_pos c29] at H
      have c29b0 : (t795 == 4) = true := beq_iff_eq.mpr c29
      have c29b1 : (t795 != 4) = false := bne_eq_false_iff_eq.mpr c29
      clear c29
      (first | rw [c29b0] | (simp only [i64_w, i32_w]; rw [c29b0]) | skip)
      have H' := A0_ H
      clear H
      go_wp2
      go_meet
      case rel => exact ⟨_, (true), (by first | rfl | (simp; done) | (simp [*]; done)), H', ⟨by have := HJ6.out; first | omega | exact Nat.le_refl _⟩, ⟨bm_ BK792.out⟩, ⟨bm_ BK793.out⟩, ⟨bm_ BK794.out⟩, ⟨qz_⟩⟩
     ·rw [if_neg c29] at H
      have c29b0 : (t795 == 4) = false := beq_eq_false_iff_ne.mpr c29
      have c29b1 : (t795 != 4) = true := bne_iff_ne.mpr c29
      (first | rw [c29b0] | (simp only [i64_w, i32_w]; rw [c29b0]) | skip)
      have H' := A0_ H
      clear H
      go_wp2
      go_meet
      case rel => exact ⟨_, ((t796 == 4)), (by first | rfl | (simp; done) | (simp [*]; done)), H', ⟨by have := HJ6.out; first | omega | exact Nat.le_refl _⟩, ⟨bm_ BK792.out⟩, ⟨bm_ BK793.out⟩, ⟨bm_ BK794.out⟩, ⟨qz_⟩⟩
    case rest =>
     clear HC28
     try clear c1
     try clear c2
     try clear p2
     try clear c7
     try clear c15
     try clear c16
     try clear c17
     try clear c18
     try clear c19
     try clear c20
     try clear c21
     try clear c24
     try clear c25
     try clear c26
     try clear c29
     try clear c29b0
     try clear c29b1
     try clear hcz18
     try clear hcz22
     try clear hcz27
     try clear hfz18
     try clear hfz22
     try clear hfz27
     try clear p2
     obtain ⟨kq, x34_27, rfl, HA, HJ27, BK792, BK793, BK794, HB⟩ := hcut
     cases kq with
     | zero => exact absurd HA.out (by simp [cutplaneref11_Div.j1])
     | succ kj27 =>
      have H := HA.out
      clear HA
      simp only [cutplaneref11_Div.j1] at H
      by_cases c30 : x34_27 = true
      ·subst c30
       rw [if_pos rfl] at H
       obtain ⟨⟨t798, t799, t800, t801⟩, A31, H⟩ := bs_ H
       try dsimp -simprocs only at H
       simp only [Option.some.injEq, Prod.mk.injEq] at H
       obtain ⟨rfl, rfl, rfl, rfl, rfl⟩ := H
       go_wp2_with (first | ((with_reducible refine gate_callee (f := 20) rfl ?_); refine goesL_ (some 36) rfl rfl Tryz.func20 (by kernel_rfl) rfl #[.int .u8 a0, .int .u8 0] rfl (am_ rfl) ?_; (with_reducible refine (cutplaneref11_nothing.calls a0 0 t798 t799 t800 t801 _ A31.out).mono ?_); rintro e w32 ⟨rfl, hb⟩; refine ⟨_, rfl, ?_⟩; replace BK792 := bb_ BK792 hb; replace BK793 := bb_ BK793 hb; replace BK794 := bb_ BK794 hb; replace HB := hs_ hb; (try clear hb); have hnb33 := NB794_792.out; have hnc33 := NB792_794.out; have hnb34 := NB794_793.out; have hnc34 := NB793_794.out; have hcz35 := bc4_ BK794.out; have hfz35 := bf4_ BK794.out))
       refine bodyPost_ret (results_ct rfl _ _ gb794 29 #[.int .u64 t798, .int .u64 t799, .int .u8 t800, .int .u8 t801] (0, 0) _ rfl (by (with_reducible repeat first | apply bN_ | apply bD_ | apply bA_); refine blk_put (cs := #[.int .u64 t798, .int .u64 t799, .int .u8 t800, .int .u8 0]) ?_ 3 _ rfl; refine blk_put (cs := #[.int .u64 t798, .int .u64 t799, .int .u8 0, .int .u8 0]) ?_ 2 _ rfl; refine blk_put (cs := #[.int .u64 t798, .int .u64 0, .int .u8 0, .int .u8 0]) ?_ 1 _ rfl; refine blk_put (cs := #[.int .u64 0, .int .u64 0, .int .u8 0, .int .u8 0]) ?_ 0 _ rfl; exact bm_ BK794.out) Tryz.underlying29 rfl (by kernel_rfl)) rfl ?_
       exact ⟨by first | rfl | (simp [errW_none, errW_some] <;> rfl) | (simp [*, errW_none, errW_some] <;> rfl), qz_⟩
      ·replace c30 := Bool.eq_false_iff.mpr c30
       subst c30
       rw [if_neg (show ¬ (false = true) by decide)] at H
       have HC36 := A0_ H
       clear H
       go_upto_region 6 with (fail)
       go_cut [43] (fun v43 wc => ∃ (kq : Nat) (x43_35 : Bool), v43 = .bool x43_35 ∧ Aside0 (cutplaneref11_Div.j2 kq a0 a1 t795 t796 x43_35 a2_0 a2_1 a3_0 a3_1 = some (r1, r2, r3, r4, r5)) ∧ Aside0 (kq ≤ kj27) ∧ Aside0 (wc.heap[gb792]? = some (.cells #[.int .u64 a2_0, .int .u64 a2_1] 26 (0, 0))) ∧ Aside0 (wc.heap[gb793]? = some (.cells #[.int .u64 a3_0, .int .u64 a3_1] 26 (0, 0))) ∧ Aside0 (wc.heap[gb794]? = some (.cells #[.int .u64 0, .int .u64 0, .int .u8 0, .int .u8 0] 29 (0, 0))) ∧ Aside0 (Below w.heap.size w wc))
       case first =>
        have H := HC36.out
        clear HC36
        by_cases c37 : t795 = t796
        ·rw [if_pos c37] at H
         have c37b0 : (t795 == t796) = true := beq_iff_eq.mpr c37
         have c37b1 : (t795 != t796) = false := bne_eq_false_iff_eq.mpr c37
         clear c37
         (first | rw [c37b0] | (simp only [i64_w, i32_w]; rw [c37b0]) | skip)
         have H' := A0_ H
         clear H
         go_wp2
         go_meet
         case rel => exact ⟨_, ((t795 != 2)), (by first | rfl | (simp; done) | (simp [*]; done)), H', ⟨by have := HJ6.out; have := HJ27.out; first | omega | exact Nat.le_refl _⟩, ⟨bm_ BK792.out⟩, ⟨bm_ BK793.out⟩, ⟨bm_ BK794.out⟩, ⟨qz_⟩⟩
        ·rw [if_neg c37] at H
         have c37b0 : (t795 == t796) = false := beq_eq_false_iff_ne.mpr c37
         have c37b1 : (t795 != t796) = true := bne_iff_ne.mpr c37
         (first | rw [c37b0] | (simp only [i64_w, i32_w]; rw [c37b0]) | skip)
         have H' := A0_ H
         clear H
         go_wp2
         go_meet
         case rel => exact ⟨_, (false), (by first | rfl | (simp; done) | (simp [*]; done)), H', ⟨by have := HJ6.out; have := HJ27.out; first | omega | exact Nat.le_refl _⟩, ⟨bm_ BK792.out⟩, ⟨bm_ BK793.out⟩, ⟨bm_ BK794.out⟩, ⟨qz_⟩⟩
       case rest =>
        clear HC36
        try clear c1
        try clear c2
        try clear p2
        try clear c3
        try clear c7
        try clear c15
        try clear c16
        try clear c17
        try clear c18
        try clear c19
        try clear c20
        try clear c21
        try clear c24
        try clear c25
        try clear c26
        try clear c29
        try clear c29b0
        try clear c29b1
        try clear c30
        try clear c33
        try clear c34
        try clear c37
        try clear c37b0
        try clear c37b1
        try clear hcz18
        try clear hcz22
        try clear hcz27
        try clear hcz35
        try clear hfz18
        try clear hfz22
        try clear hfz27
        try clear hfz35
        try clear p2
        obtain ⟨kq, x43_35, rfl, HA, HJ35, BK792, BK793, BK794, HB⟩ := hcut
        cases kq with
        | zero => exact absurd HA.out (by simp [cutplaneref11_Div.j2])
        | succ kj35 =>
         have H := HA.out
         clear HA
         simp only [cutplaneref11_Div.j2] at H
         by_cases c38 : x43_35 = true
         ·subst c38
          rw [if_pos rfl] at H
          obtain ⟨⟨t802, t803, t804, t805⟩, A39, H⟩ := bs_ H
          try dsimp -simprocs only at H
          simp only [Option.some.injEq, Prod.mk.injEq] at H
          obtain ⟨rfl, rfl, rfl, rfl, rfl⟩ := H
          go_wp2_with (first | ((with_reducible refine gate_callee (f := 20) rfl ?_); refine goesL_ (some 45) rfl rfl Tryz.func20 (by kernel_rfl) rfl #[.int .u8 a0, .int .u8 1] rfl (am_ rfl) ?_; (with_reducible refine (cutplaneref11_nothing.calls a0 1 t802 t803 t804 t805 _ A39.out).mono ?_); rintro e w40 ⟨rfl, hb⟩; refine ⟨_, rfl, ?_⟩; replace BK792 := bb_ BK792 hb; replace BK793 := bb_ BK793 hb; replace BK794 := bb_ BK794 hb; replace HB := hs_ hb; (try clear hb); have hnb41 := NB794_792.out; have hnc41 := NB792_794.out; have hnb42 := NB794_793.out; have hnc42 := NB793_794.out; have hcz43 := bc4_ BK794.out; have hfz43 := bf4_ BK794.out))
          refine bodyPost_ret (results_ct rfl _ _ gb794 29 #[.int .u64 t802, .int .u64 t803, .int .u8 t804, .int .u8 t805] (0, 0) _ rfl (by (with_reducible repeat first | apply bN_ | apply bD_ | apply bA_); refine blk_put (cs := #[.int .u64 t802, .int .u64 t803, .int .u8 t804, .int .u8 0]) ?_ 3 _ rfl; refine blk_put (cs := #[.int .u64 t802, .int .u64 t803, .int .u8 0, .int .u8 0]) ?_ 2 _ rfl; refine blk_put (cs := #[.int .u64 t802, .int .u64 0, .int .u8 0, .int .u8 0]) ?_ 1 _ rfl; refine blk_put (cs := #[.int .u64 0, .int .u64 0, .int .u8 0, .int .u8 0]) ?_ 0 _ rfl; exact bm_ BK794.out) Tryz.underlying29 rfl (by kernel_rfl)) rfl ?_
          exact ⟨by first | rfl | (simp [errW_none, errW_some] <;> rfl) | (simp [*, errW_none, errW_some] <;> rfl), qz_⟩
         ·replace c38 := Bool.eq_false_iff.mpr c38
          subst c38
          rw [if_neg (show ¬ (false = true) by decide)] at H
          obtain ⟨⟨t806, t807⟩, A44, H⟩ := bs_ H
          try dsimp -simprocs only at H
          have HC45 := A0_ H
          clear H
          have hnb46 := NB793_792.out
          have hnc46 := NB792_793.out
          have hnb47 := NB793_794.out
          have hnc47 := NB794_793.out
          have hcz48 := bc2_ BK793.out
          have hfz48 := bf2_ BK793.out
          go_upto_if 50 with (first | ((with_reducible refine gate_callee (f := 21) rfl ?_); refine goesL_ (some 48) rfl rfl Tryz.func21 (by kernel_rfl) rfl #[.int .u8 a0, .agg #[.int .u64 a3_0, .int .u64 a3_1]] rfl (am_ rfl) ?_; (with_reducible refine (cutplaneref11_Box.calls kj35 a0 a3_0 a3_1 t806 t807 _ A44.out).mono ?_); rintro e w49 ⟨rfl, hb⟩; refine ⟨_, rfl, ?_⟩; replace BK792 := bb_ BK792 hb; replace BK793 := bb_ BK793 hb; replace BK794 := bb_ BK794 hb; replace HB := hs_ hb; (try clear hb)) | ((with_reducible refine gate_dst (N := 12) rfl ?_); refine box_event ?hg (N := 12) ?hd (cs := #[.int .u64 0, .int .u64 0]) (t := 26) ?hr ?_; (case hd => rfl); (case hg => rfl); (case hr => first | (go_simp; done) | (go_simp; rfl)); intro gb808 hg w50 hbox hb; have BK808 := A0_ (hbox); have GW808 := A0_ ((by rw [hg]; exact (below_size qz_) : w.heap.size ≤ gb808)); have GE808 := GW808; replace HB := hs_ hb; have NB792_808 := nl_ hg BK792; have NB808_792 := ng_ hg BK792; replace BK792 := bb_ BK792 hb; have NB793_808 := nl_ hg BK793; have NB808_793 := ng_ hg BK793; replace BK793 := bb_ BK793 hb; have NB794_808 := nl_ hg BK794; have NB808_794 := ng_ hg BK794; replace BK794 := bb_ BK794 hb; clear hb hbox hg; have hnb51 := NB808_792.out; have hnc51 := NB792_808.out; have hnb52 := NB808_793.out; have hnc52 := NB793_808.out; have hnb53 := NB808_794.out; have hnc53 := NB794_808.out; have hcz54 := bc2_ BK808.out; have hfz54 := bf2_ BK808.out))
          (try simp only [Act.put, sp_])
          go_cut [] (fun wc => ∃ (kq : Nat) (x809000_44 : Int), Aside0 (cutplaneref11_Div.j3 kq a0 a1 t795 t796 a2_0 a2_1 x809000_44 t807 = some (r1, r2, r3, r4, r5)) ∧ Aside0 (kq ≤ kj35) ∧ Aside0 (wc.heap[gb792]? = some (.cells #[.int .u64 a2_0, .int .u64 a2_1] 26 (0, 0))) ∧ Aside0 (wc.heap[gb793]? = some (.cells #[.int .u64 a3_0, .int .u64 a3_1] 26 (0, 0))) ∧ Aside0 (wc.heap[gb794]? = some (.cells #[.int .u64 0, .int .u64 0, .int .u8 0, .int .u8 0] 29 (0, 0))) ∧ Aside0 (wc.heap[gb808]? = some (.cells #[.int .u64 x809000_44, .int .u64 t807] 26 (0, 0))) ∧ Aside0 (Below w.heap.size w wc))
          case first =>
           have H := HC45.out
           clear HC45
           by_cases c55 : t796 = 1
           ·rw [if_pos c55] at H
            have c55b0 : (t796 == 1) = true := beq_iff_eq.mpr c55
            have c55b1 : (t796 != 1) = false := bne_eq_false_iff_eq.mpr c55
            clear c55
            (first | rw [c55b0] | (simp only [i64_w, i32_w]; rw [c55b0]) | skip)
            obtain ⟨⟨t809, t810, t811⟩, A56, H⟩ := bs_ H
            try dsimp -simprocs only at H
            obtain ⟨t812, A57, H⟩ := bs_ H
            try dsimp -simprocs only at H
            have H' := A0_ H
            clear H
            have hnb58 := NB793_792.out
            have hnc58 := NB792_793.out
            have hnb59 := NB793_794.out
            have hnc59 := NB794_793.out
            have hnb60 := NB793_808.out
            have hnc60 := NB808_793.out
            have hcz61 := bc2_ BK793.out
            have hfz61 := bf2_ BK793.out
            go_wp2_with (first | ((with_reducible refine gate_callee (f := 23) rfl ?_); refine goesL_ (some 55) rfl rfl Tryz.func23 (by kernel_rfl) rfl #[.int .u8 a0, .int .u64 a3_0] rfl (am_ rfl) ?_; (with_reducible refine (cutplaneref03_Split.calls a0 a3_0 t809 t810 t811 _ A56.out).mono ?_); rintro e w62 ⟨rfl, hb⟩; refine ⟨_, rfl, ?_⟩; replace BK792 := A0_ (blk_below (g := gb792) (o := .cells #[.int .u64 a2_0, .int .u64 a2_1] 26 (0, 0)) (by (with_reducible repeat first | apply bN_ | apply bD_ | apply bA_); refine blk_far ?_ NB792_808.out _; refine blk_far ?_ NB792_808.out _; exact bm_ BK792.out) hb); replace BK793 := A0_ (blk_below (g := gb793) (o := .cells #[.int .u64 a3_0, .int .u64 a3_1] 26 (0, 0)) (by (with_reducible repeat first | apply bN_ | apply bD_ | apply bA_); refine blk_far ?_ NB793_808.out _; refine blk_far ?_ NB793_808.out _; exact bm_ BK793.out) hb); replace BK794 := A0_ (blk_below (g := gb794) (o := .cells #[.int .u64 0, .int .u64 0, .int .u8 0, .int .u8 0] 29 (0, 0)) (by (with_reducible repeat first | apply bN_ | apply bD_ | apply bA_); refine blk_far ?_ NB794_808.out _; refine blk_far ?_ NB794_808.out _; exact bm_ BK794.out) hb); replace BK808 := A0_ (blk_below (g := gb808) (o := .cells #[.int .u64 t806, .int .u64 t807] 26 (0, 0)) (by (with_reducible repeat first | apply bN_ | apply bD_ | apply bA_); refine blk_put (cs := #[.int .u64 t806, .int .u64 0]) ?_ 1 _ rfl; refine blk_put (cs := #[.int .u64 0, .int .u64 0]) ?_ 0 _ rfl; exact bm_ BK808.out) hb); replace HB := hs_ hb; (try clear hb)) | ((with_reducible refine gate_callee (f := 22) rfl ?_); refine goesL_ (some 57) rfl rfl Tryz.func22 (by kernel_rfl) rfl #[.int .u8 a0, .bool t809] rfl (am_ rfl) ?_; (with_reducible refine (cutplaneref11_One.calls a0 t809 t812 _ A57.out).mono ?_); rintro e w63 ⟨rfl, hb⟩; refine ⟨_, rfl, ?_⟩; replace BK792 := bb_ BK792 hb; replace BK793 := bb_ BK793 hb; replace BK794 := bb_ BK794 hb; replace BK808 := bb_ BK808 hb; replace HB := hs_ hb; (try clear hb); have hnb64 := NB808_792.out; have hnc64 := NB792_808.out; have hnb65 := NB808_794.out; have hnc65 := NB794_808.out; have hcz66 := bc2_ BK808.out; have hfz66 := bf2_ BK808.out))
            go_meet
            case rel => exact ⟨_, (t812), H', ⟨by have := HJ6.out; have := HJ27.out; have := HJ35.out; first | omega | exact Nat.le_refl _⟩, ⟨by (with_reducible repeat first | apply bN_ | apply bD_ | apply bA_); refine blk_far ?_ NB792_808.out _; exact bm_ BK792.out⟩, ⟨by (with_reducible repeat first | apply bN_ | apply bD_ | apply bA_); refine blk_far ?_ NB793_808.out _; exact bm_ BK793.out⟩, ⟨by (with_reducible repeat first | apply bN_ | apply bD_ | apply bA_); refine blk_far ?_ NB794_808.out _; exact bm_ BK794.out⟩, ⟨by (with_reducible repeat first | apply bN_ | apply bD_ | apply bA_); refine blk_put (cs := #[.int .u64 t806, .int .u64 t807]) ?_ 0 _ rfl; exact bm_ BK808.out⟩, ⟨qz_⟩⟩
           ·rw [if_neg c55] at H
            have c55b0 : (t796 == 1) = false := beq_eq_false_iff_ne.mpr c55
            have c55b1 : (t796 != 1) = true := bne_iff_ne.mpr c55
            (first | rw [c55b0] | (simp only [i64_w, i32_w]; rw [c55b0]) | skip)
            have H' := A0_ H
            clear H
            go_wp2
            go_meet
            case rel => exact ⟨_, (t806), H', ⟨by have := HJ6.out; have := HJ27.out; have := HJ35.out; first | omega | exact Nat.le_refl _⟩, ⟨by (with_reducible repeat first | apply bN_ | apply bD_ | apply bA_); refine blk_far ?_ NB792_808.out _; refine blk_far ?_ NB792_808.out _; exact bm_ BK792.out⟩, ⟨by (with_reducible repeat first | apply bN_ | apply bD_ | apply bA_); refine blk_far ?_ NB793_808.out _; refine blk_far ?_ NB793_808.out _; exact bm_ BK793.out⟩, ⟨by (with_reducible repeat first | apply bN_ | apply bD_ | apply bA_); refine blk_far ?_ NB794_808.out _; refine blk_far ?_ NB794_808.out _; exact bm_ BK794.out⟩, ⟨by (with_reducible repeat first | apply bN_ | apply bD_ | apply bA_); refine blk_put (cs := #[.int .u64 t806, .int .u64 0]) ?_ 1 _ rfl; refine blk_put (cs := #[.int .u64 0, .int .u64 0]) ?_ 0 _ rfl; exact bm_ BK808.out⟩, ⟨qz_⟩⟩
          case rest =>
           clear HC45
           try clear c1
           try clear c2
           try clear p2
           try clear c3
           try clear c4
           try clear c5
           try clear c6
           try clear c7
           try clear c15
           try clear c16
           try clear c17
           try clear c18
           try clear c19
           try clear c20
           try clear c21
           try clear c22
           try clear c23
           try clear c24
           try clear c25
           try clear c26
           try clear c29
           try clear c29b0
           try clear c29b1
           try clear c30
           try clear c33
           try clear c34
           try clear c37
           try clear c37b0
           try clear c37b1
           try clear c38
           try clear c41
           try clear c42
           try clear c46
           try clear c47
           try clear c51
           try clear c52
           try clear c53
           try clear c55
           try clear c55b0
           try clear c55b1
           try clear c58
           try clear c59
           try clear c60
           try clear c64
           try clear c65
           try clear hcz18
           try clear hcz22
           try clear hcz27
           try clear hcz35
           try clear hcz43
           try clear hcz48
           try clear hcz54
           try clear hcz61
           try clear hcz66
           try clear hfz18
           try clear hfz22
           try clear hfz27
           try clear hfz35
           try clear hfz43
           try clear hfz48
           try clear hfz54
           try clear hfz61
           try clear hfz66
           try clear p2
           obtain ⟨kq, x809000_44, HA, HJ44, BK792, BK793, BK794, BK808, HB⟩ := hcut
           cases kq with
           | zero => exact absurd HA.out (by simp [cutplaneref11_Div.j3])
           | succ kj44 =>
            have H := HA.out
            clear HA
            simp only [cutplaneref11_Div.j3] at H
            obtain ⟨⟨t813, t814⟩, A67, H⟩ := bs_ H
            try dsimp -simprocs only at H
            obtain ⟨⟨t815, t816⟩, A68, H⟩ := bs_ H
            try dsimp -simprocs only at H
            obtain ⟨⟨t817, t818⟩, A69, H⟩ := bs_ H
            try dsimp -simprocs only at H
            have HH_ := A0_ H
            clear H
            try go_wp2
            replace BK792 := A0_ (blk_drew BK792.out)
            replace BK793 := A0_ (blk_drew BK793.out)
            replace BK794 := A0_ (blk_drew BK794.out)
            replace BK808 := A0_ (blk_drew BK808.out)
            replace HB := A0_ (below_drew1 HB.out)
            refine start_ (n := 11) (S := fun w' => w'.cell? ⟨gb792, 0, none⟩ = some (.int .u64 a2_0) ∧ w'.cell? ⟨gb792, 1, none⟩ = some (.int .u64 a2_1) ∧ w'.cell? ⟨gb808, 0, none⟩ = some (.int .u64 x809000_44) ∧ w'.cell? ⟨gb808, 1, none⟩ = some (.int .u64 t807)) (ds := []) #[false, false, false, false, false, false, false, false, false, false, false] (by kernel_rfl) rfl rfl ⟨bC_ BK792.out 0, bC_ BK792.out 1, bC_ BK808.out 0, bC_ BK808.out 1⟩ (fun hHeld => ?_); refine with_tabW cutplaneref11_Div.tab11 cutplaneref11_Div.bits11 (fun HT_ HW_ => ?_)
            generalize wc.drew = w72 at BK792 BK793 BK794 BK808 HB hHeld ⊢
            refine pure_ (i := 0) (N := some 59) (v := ?_) (a' := ?_) #[true, false, false, false, false, false, false, false, false, false, false] rfl rfl (any_of HT_.out (by kernel_rfl)) (fun _ _ _ h => h) (Or.inl ⟨by rfl, ?_⟩) ?_ ?_
            rotate_left
            ·intro w'
             go_simp
             with_reducible rfl
            rotate_left
            ·simp only [Act.put, sp_, i64_w, i32_w]
             rfl
            refine pure_ (i := 1) (N := some 60) (v := ?_) (a' := ?_) #[true, true, false, false, false, false, false, false, false, false, false] rfl rfl (any_of HT_.out (by kernel_rfl)) (fun _ _ _ h => h) (Or.inl ⟨by rfl, ?_⟩) ?_ ?_
            rotate_left
            ·intro w'
             go_simp
             with_reducible rfl
            rotate_left
            ·simp only [Act.put, sp_, i64_w, i32_w]
             rfl
            refine pure_ (i := 2) (N := some 61) (v := ?_) (a' := ?_) #[true, true, true, false, false, false, false, false, false, false, false] rfl rfl (any_of HT_.out (by kernel_rfl)) (fun _ _ _ h => h) (Or.inl ⟨by rfl, ?_⟩) ?_ ?_
            rotate_left
            ·intro w'
             go_simp
             with_reducible rfl
            rotate_left
            ·simp only [Act.put, sp_, i64_w, i32_w]
             rfl
            refine pure_ (i := 5) (N := some 64) (v := ?_) (a' := ?_) #[true, true, true, false, false, true, false, false, false, false, false] rfl rfl (any_of HT_.out (by kernel_rfl)) (fun _ _ _ h => h) (Or.inl ⟨by rfl, ?_⟩) ?_ ?_
            rotate_left
            ·intro w'
             go_simp
             with_reducible rfl
            rotate_left
            ·simp only [Act.put, sp_, i64_w, i32_w]
             rfl
            refine take_ (i := 3) (N := some 62) (v := ?_) (a' := ?_) #[true, true, true, true, false, true, false, false, false, false, false] rfl rfl (take_ofW HT_.out HW_.out (by kernel_rfl)) (fun _ _ _ h => h) (Or.inl ⟨by rfl, ?_⟩) hHeld ?_ ?_
            rotate_left
            ·rintro w' ⟨s0, s1, s2, s3⟩
             go_simp
             with_reducible rfl
            rotate_left
            ·simp only [Act.put, sp_, i64_w, i32_w]
             rfl
            refine take_ (i := 6) (N := some 65) (v := ?_) (a' := ?_) #[true, true, true, true, false, true, true, false, false, false, false] rfl rfl (take_ofW HT_.out HW_.out (by kernel_rfl)) (fun _ _ _ h => h) (Or.inl ⟨by rfl, ?_⟩) hHeld ?_ ?_
            rotate_left
            ·rintro w' ⟨s0, s1, s2, s3⟩
             go_simp
             with_reducible rfl
            rotate_left
            ·simp only [Act.put, sp_, i64_w, i32_w]
             rfl
            refine join_ (σ := Nat) 1 #[true, true, true, true, true, true, true, true, true, true, false] (fun s_ => [(63, .agg #[.int .u64 t813, .int .u64 t814]), (66, .agg #[.int .u64 t815, .int .u64 t816]), (67, .agg #[.int .u64 t817, .int .u64 t818]), (13, .pointer (some ⟨s_, 0, none⟩))]) (fun s_ w' => (w'.cell? ⟨gb792, 0, none⟩ = some (.int .u64 a2_0) ∧ w'.cell? ⟨gb792, 1, none⟩ = some (.int .u64 a2_1) ∧ w'.cell? ⟨gb808, 0, none⟩ = some (.int .u64 x809000_44) ∧ w'.cell? ⟨gb808, 1, none⟩ = some (.int .u64 t807)) ∧ (w'.heap[gb792]? = some (.cells #[.int .u64 a2_0, .int .u64 a2_1] 26 (0, 0))) ∧ (w'.heap[gb793]? = some (.cells #[.int .u64 a3_0, .int .u64 a3_1] 26 (0, 0))) ∧ (w'.heap[gb794]? = some (.cells #[.int .u64 0, .int .u64 0, .int .u8 0, .int .u8 0] 29 (0, 0))) ∧ (w'.heap[gb808]? = some (.cells #[.int .u64 x809000_44, .int .u64 t807] 26 (0, 0))) ∧ (w'.heap[s_]? = some (.cells #[.int .u64 0, .int .u64 0] 26 (0, 0))) ∧ (w.heap.size ≤ s_) ∧ (w.heap.size ≤ s_) ∧ (gb792 ≠ s_) ∧ (s_ ≠ gb792) ∧ (gb793 ≠ s_) ∧ (s_ ≠ gb793) ∧ (gb794 ≠ s_) ∧ (s_ ≠ gb794) ∧ (gb808 ≠ s_) ∧ (s_ ≠ gb808) ∧ (Below w.heap.size w w')) ?_ ?_
            rotate_left
            ·intro hCont
             refine two_ (i := 4) (j := 9) (Ni := some 63) (Nj := some 13) #[true, true, true, true, true, true, true, false, false, false, false] #[true, true, true, true, false, true, true, false, false, true, false] rfl rfl rfl rfl (two_of HT_.out (by kernel_rfl)) (by decide) (by decide) (fun K hK => ?_) (fun K hK => ?_)
             ·skip
              refine goes_ Tryz.func21 (by kernel_rfl) rfl #[.int .u8 a0, .agg #[.int .u64 a2_0, .int .u64 a2_1]] (by rfl) rfl rfl (am_ rfl) ?_
              with_reducible refine (cutplaneref11_Box.calls kj44 a0 a2_0 a2_1 t813 t814 _ A67.out).mono ?_
              rintro e w73 ⟨rfl, hb⟩
              refine ⟨_, rfl, ?_⟩
              replace BK792 := bb_ BK792 hb
              replace BK793 := bb_ BK793 hb
              replace BK794 := bb_ BK794 hb
              replace BK808 := bb_ BK808 hb
              replace HB := hs_ hb
              (try clear hb)
              refine hK.out _ _ ⟨bC_ BK792.out 0, bC_ BK792.out 1, bC_ BK808.out 0, bC_ BK808.out 1⟩ (fun hHeld => ?_)
              clear hK K
              refine norm_ (a' := ?_) ?_ ?_
              rotate_left
              ·show Act.put _ (some 63) _ = _
               simp only [Act.put, sp_, i64_w, i32_w]
               rfl
              refine two_ (i := 7) (j := 9) (Ni := some 66) (Nj := some 13) #[true, true, true, true, true, true, true, true, false, false, false] #[true, true, true, true, true, true, true, false, false, true, false] rfl rfl rfl rfl (two_of HT_.out (by kernel_rfl)) (by decide) (by decide) (fun K hK => ?_) (fun K hK => ?_)
              ·skip
               refine goes_ Tryz.func25 (by kernel_rfl) rfl #[.int .u8 a0, .agg #[.int .u64 x809000_44, .int .u64 t807]] (by rfl) rfl rfl (am_ rfl) ?_
               with_reducible refine (cutplaneref10_Conj.calls kj44 a0 x809000_44 t807 t815 t816 _ A68.out).mono ?_
               rintro e w74 ⟨rfl, hb⟩
               refine ⟨_, rfl, ?_⟩
               replace BK792 := bb_ BK792 hb
               replace BK793 := bb_ BK793 hb
               replace BK794 := bb_ BK794 hb
               replace BK808 := bb_ BK808 hb
               replace HB := hs_ hb
               (try clear hb)
               refine hK.out _ _ ⟨bC_ BK792.out 0, bC_ BK792.out 1, bC_ BK808.out 0, bC_ BK808.out 1⟩ (fun hHeld => ?_)
               clear hK K
               refine norm_ (a' := ?_) ?_ ?_
               rotate_left
               ·show Act.put _ (some 66) _ = _
                simp only [Act.put, sp_, i64_w, i32_w]
                rfl
               refine two_ (i := 8) (j := 9) (Ni := some 67) (Nj := some 13) #[true, true, true, true, true, true, true, true, true, false, false] #[true, true, true, true, true, true, true, true, false, true, false] rfl rfl rfl rfl (two_of HT_.out (by kernel_rfl)) (by decide) (by decide) (fun K hK => ?_) (fun K hK => ?_)
               ·skip
                refine goes_ Tryz.func24 (by kernel_rfl) rfl #[.int .u8 a0, .int .u8 a1, .agg #[.int .u64 t813, .int .u64 t814], .agg #[.int .u64 t815, .int .u64 t816]] (by rfl) rfl rfl (am_ rfl) ?_
                with_reducible refine (cutplaneref11_product.calls kj44 a0 a1 t813 t814 t815 t816 t817 t818 _ A69.out).mono ?_
                rintro e w75 ⟨rfl, hb⟩
                refine ⟨_, rfl, ?_⟩
                replace BK792 := bb_ BK792 hb
                replace BK793 := bb_ BK793 hb
                replace BK794 := bb_ BK794 hb
                replace BK808 := bb_ BK808 hb
                replace HB := hs_ hb
                (try clear hb)
                refine hK.out _ _ ⟨bC_ BK792.out 0, bC_ BK792.out 1, bC_ BK808.out 0, bC_ BK808.out 1⟩ (fun hHeld => ?_)
                clear hK K
                refine norm_ (a' := ?_) ?_ ?_
                rotate_left
                ·show Act.put _ (some 67) _ = _
                 simp only [Act.put, sp_, i64_w, i32_w]
                 rfl
                refine one_ (i := 9) (N := some 13) #[true, true, true, true, true, true, true, true, true, true, false] rfl rfl (one_of HT_.out (by kernel_rfl)) (by decide) (fun K hK => ?_)
                refine box_step ?hg (N := 13) ?hd (cs := #[.int .u64 0, .int .u64 0]) (t := 26) ?hr ?_; (case hd => rfl); (case hg => rfl); (case hr => first | (go_simp; done) | (go_simp; rfl))
                intro gb819 hg w76 hbox hb
                have BK819 := A0_ (hbox)
                have GW819 := A0_ ((by rw [hg]; exact (below_size qz_) : w.heap.size ≤ gb819))
                have GE819 := GW819
                replace HB := hs_ hb
                have NB792_819 := nl_ hg BK792
                have NB819_792 := ng_ hg BK792
                replace BK792 := bb_ BK792 hb
                have NB793_819 := nl_ hg BK793
                have NB819_793 := ng_ hg BK793
                replace BK793 := bb_ BK793 hb
                have NB794_819 := nl_ hg BK794
                have NB819_794 := ng_ hg BK794
                replace BK794 := bb_ BK794 hb
                have NB808_819 := nl_ hg BK808
                have NB819_808 := ng_ hg BK808
                replace BK808 := bb_ BK808 hb
                clear hb hbox hg
                refine hK.out _ _ ⟨bC_ BK792.out 0, bC_ BK792.out 1, bC_ BK808.out 0, bC_ BK808.out 1⟩ (fun hHeld => ?_)
                clear hK K
                refine norm_ (a' := ?_) ?_ ?_
                rotate_left
                ·show Act.put _ (some 13) _ = _
                 simp only [Act.put, sp_, i64_w, i32_w]
                 rfl
                exact norm_ (by simp only [putAll, Act.put, sp_]) (hCont (gb819) _ ⟨hHeld, (bm_ BK792.out), (bm_ BK793.out), (bm_ BK794.out), (bm_ BK808.out), (bm_ BK819.out), GW819.out, GE819.out, NB792_819.out, NB819_792.out, NB793_819.out, NB819_793.out, NB794_819.out, NB819_794.out, NB808_819.out, NB819_808.out, qz_⟩)
               ·skip
                refine box_step ?hg (N := 13) ?hd (cs := #[.int .u64 0, .int .u64 0]) (t := 26) ?hr ?_; (case hd => rfl); (case hg => rfl); (case hr => first | (go_simp; done) | (go_simp; rfl))
                intro gb819 hg w75 hbox hb
                have BK819 := A0_ (hbox)
                have GW819 := A0_ ((by rw [hg]; exact (below_size qz_) : w.heap.size ≤ gb819))
                have GE819 := GW819
                replace HB := hs_ hb
                have NB792_819 := nl_ hg BK792
                have NB819_792 := ng_ hg BK792
                replace BK792 := bb_ BK792 hb
                have NB793_819 := nl_ hg BK793
                have NB819_793 := ng_ hg BK793
                replace BK793 := bb_ BK793 hb
                have NB794_819 := nl_ hg BK794
                have NB819_794 := ng_ hg BK794
                replace BK794 := bb_ BK794 hb
                have NB808_819 := nl_ hg BK808
                have NB819_808 := ng_ hg BK808
                replace BK808 := bb_ BK808 hb
                clear hb hbox hg
                refine hK.out _ _ ⟨bC_ BK792.out 0, bC_ BK792.out 1, bC_ BK808.out 0, bC_ BK808.out 1⟩ (fun hHeld => ?_)
                clear hK K
                refine norm_ (a' := ?_) ?_ ?_
                rotate_left
                ·show Act.put _ (some 13) _ = _
                 simp only [Act.put, sp_, i64_w, i32_w]
                 rfl
                refine one_ (i := 8) (N := some 67) #[true, true, true, true, true, true, true, true, true, true, false] rfl rfl (one_of HT_.out (by kernel_rfl)) (by decide) (fun K hK => ?_)
                refine goes_ Tryz.func24 (by kernel_rfl) rfl #[.int .u8 a0, .int .u8 a1, .agg #[.int .u64 t813, .int .u64 t814], .agg #[.int .u64 t815, .int .u64 t816]] (by rfl) rfl rfl (am_ rfl) ?_
                with_reducible refine (cutplaneref11_product.calls kj44 a0 a1 t813 t814 t815 t816 t817 t818 _ A69.out).mono ?_
                rintro e w76 ⟨rfl, hb⟩
                refine ⟨_, rfl, ?_⟩
                replace BK792 := bb_ BK792 hb
                replace BK793 := bb_ BK793 hb
                replace BK794 := bb_ BK794 hb
                replace BK808 := bb_ BK808 hb
                replace BK819 := bb_ BK819 hb
                replace HB := hs_ hb
                (try clear hb)
                refine hK.out _ _ ⟨bC_ BK792.out 0, bC_ BK792.out 1, bC_ BK808.out 0, bC_ BK808.out 1⟩ (fun hHeld => ?_)
                clear hK K
                refine norm_ (a' := ?_) ?_ ?_
                rotate_left
                ·show Act.put _ (some 67) _ = _
                 simp only [Act.put, sp_, i64_w, i32_w]
                 rfl
                exact norm_ (by simp only [putAll, Act.put, sp_]) (hCont (gb819) _ ⟨hHeld, (bm_ BK792.out), (bm_ BK793.out), (bm_ BK794.out), (bm_ BK808.out), (bm_ BK819.out), GW819.out, GE819.out, NB792_819.out, NB819_792.out, NB793_819.out, NB819_793.out, NB794_819.out, NB819_794.out, NB808_819.out, NB819_808.out, qz_⟩)
              ·skip
               refine box_step ?hg (N := 13) ?hd (cs := #[.int .u64 0, .int .u64 0]) (t := 26) ?hr ?_; (case hd => rfl); (case hg => rfl); (case hr => first | (go_simp; done) | (go_simp; rfl))
               intro gb819 hg w74 hbox hb
               have BK819 := A0_ (hbox)
               have GW819 := A0_ ((by rw [hg]; exact (below_size qz_) : w.heap.size ≤ gb819))
               have GE819 := GW819
               replace HB := hs_ hb
               have NB792_819 := nl_ hg BK792
               have NB819_792 := ng_ hg BK792
               replace BK792 := bb_ BK792 hb
               have NB793_819 := nl_ hg BK793
               have NB819_793 := ng_ hg BK793
               replace BK793 := bb_ BK793 hb
               have NB794_819 := nl_ hg BK794
               have NB819_794 := ng_ hg BK794
               replace BK794 := bb_ BK794 hb
               have NB808_819 := nl_ hg BK808
               have NB819_808 := ng_ hg BK808
               replace BK808 := bb_ BK808 hb
               clear hb hbox hg
               refine hK.out _ _ ⟨bC_ BK792.out 0, bC_ BK792.out 1, bC_ BK808.out 0, bC_ BK808.out 1⟩ (fun hHeld => ?_)
               clear hK K
               refine norm_ (a' := ?_) ?_ ?_
               rotate_left
               ·show Act.put _ (some 13) _ = _
                simp only [Act.put, sp_, i64_w, i32_w]
                rfl
               refine one_ (i := 7) (N := some 66) #[true, true, true, true, true, true, true, true, false, true, false] rfl rfl (one_of HT_.out (by kernel_rfl)) (by decide) (fun K hK => ?_)
               refine goes_ Tryz.func25 (by kernel_rfl) rfl #[.int .u8 a0, .agg #[.int .u64 x809000_44, .int .u64 t807]] (by rfl) rfl rfl (am_ rfl) ?_
               with_reducible refine (cutplaneref10_Conj.calls kj44 a0 x809000_44 t807 t815 t816 _ A68.out).mono ?_
               rintro e w75 ⟨rfl, hb⟩
               refine ⟨_, rfl, ?_⟩
               replace BK792 := bb_ BK792 hb
               replace BK793 := bb_ BK793 hb
               replace BK794 := bb_ BK794 hb
               replace BK808 := bb_ BK808 hb
               replace BK819 := bb_ BK819 hb
               replace HB := hs_ hb
               (try clear hb)
               refine hK.out _ _ ⟨bC_ BK792.out 0, bC_ BK792.out 1, bC_ BK808.out 0, bC_ BK808.out 1⟩ (fun hHeld => ?_)
               clear hK K
               refine norm_ (a' := ?_) ?_ ?_
               rotate_left
               ·show Act.put _ (some 66) _ = _
                simp only [Act.put, sp_, i64_w, i32_w]
                rfl
               refine one_ (i := 8) (N := some 67) #[true, true, true, true, true, true, true, true, true, true, false] rfl rfl (one_of HT_.out (by kernel_rfl)) (by decide) (fun K hK => ?_)
               refine goes_ Tryz.func24 (by kernel_rfl) rfl #[.int .u8 a0, .int .u8 a1, .agg #[.int .u64 t813, .int .u64 t814], .agg #[.int .u64 t815, .int .u64 t816]] (by rfl) rfl rfl (am_ rfl) ?_
               with_reducible refine (cutplaneref11_product.calls kj44 a0 a1 t813 t814 t815 t816 t817 t818 _ A69.out).mono ?_
               rintro e w76 ⟨rfl, hb⟩
               refine ⟨_, rfl, ?_⟩
               replace BK792 := bb_ BK792 hb
               replace BK793 := bb_ BK793 hb
               replace BK794 := bb_ BK794 hb
               replace BK808 := bb_ BK808 hb
               replace BK819 := bb_ BK819 hb
               replace HB := hs_ hb
               (try clear hb)
               refine hK.out _ _ ⟨bC_ BK792.out 0, bC_ BK792.out 1, bC_ BK808.out 0, bC_ BK808.out 1⟩ (fun hHeld => ?_)
               clear hK K
               refine norm_ (a' := ?_) ?_ ?_
               rotate_left
               ·show Act.put _ (some 67) _ = _
                simp only [Act.put, sp_, i64_w, i32_w]
                rfl
               exact norm_ (by simp only [putAll, Act.put, sp_]) (hCont (gb819) _ ⟨hHeld, (bm_ BK792.out), (bm_ BK793.out), (bm_ BK794.out), (bm_ BK808.out), (bm_ BK819.out), GW819.out, GE819.out, NB792_819.out, NB819_792.out, NB793_819.out, NB819_793.out, NB794_819.out, NB819_794.out, NB808_819.out, NB819_808.out, qz_⟩)
             ·skip
              refine box_step ?hg (N := 13) ?hd (cs := #[.int .u64 0, .int .u64 0]) (t := 26) ?hr ?_; (case hd => rfl); (case hg => rfl); (case hr => first | (go_simp; done) | (go_simp; rfl))
              intro gb819 hg w73 hbox hb
              have BK819 := A0_ (hbox)
              have GW819 := A0_ ((by rw [hg]; exact (below_size qz_) : w.heap.size ≤ gb819))
              have GE819 := GW819
              replace HB := hs_ hb
              have NB792_819 := nl_ hg BK792
              have NB819_792 := ng_ hg BK792
              replace BK792 := bb_ BK792 hb
              have NB793_819 := nl_ hg BK793
              have NB819_793 := ng_ hg BK793
              replace BK793 := bb_ BK793 hb
              have NB794_819 := nl_ hg BK794
              have NB819_794 := ng_ hg BK794
              replace BK794 := bb_ BK794 hb
              have NB808_819 := nl_ hg BK808
              have NB819_808 := ng_ hg BK808
              replace BK808 := bb_ BK808 hb
              clear hb hbox hg
              refine hK.out _ _ ⟨bC_ BK792.out 0, bC_ BK792.out 1, bC_ BK808.out 0, bC_ BK808.out 1⟩ (fun hHeld => ?_)
              clear hK K
              refine norm_ (a' := ?_) ?_ ?_
              rotate_left
              ·show Act.put _ (some 13) _ = _
               simp only [Act.put, sp_, i64_w, i32_w]
               rfl
              refine one_ (i := 4) (N := some 63) #[true, true, true, true, true, true, true, false, false, true, false] rfl rfl (one_of HT_.out (by kernel_rfl)) (by decide) (fun K hK => ?_)
              refine goes_ Tryz.func21 (by kernel_rfl) rfl #[.int .u8 a0, .agg #[.int .u64 a2_0, .int .u64 a2_1]] (by rfl) rfl rfl (am_ rfl) ?_
              with_reducible refine (cutplaneref11_Box.calls kj44 a0 a2_0 a2_1 t813 t814 _ A67.out).mono ?_
              rintro e w74 ⟨rfl, hb⟩
              refine ⟨_, rfl, ?_⟩
              replace BK792 := bb_ BK792 hb
              replace BK793 := bb_ BK793 hb
              replace BK794 := bb_ BK794 hb
              replace BK808 := bb_ BK808 hb
              replace BK819 := bb_ BK819 hb
              replace HB := hs_ hb
              (try clear hb)
              refine hK.out _ _ ⟨bC_ BK792.out 0, bC_ BK792.out 1, bC_ BK808.out 0, bC_ BK808.out 1⟩ (fun hHeld => ?_)
              clear hK K
              refine norm_ (a' := ?_) ?_ ?_
              rotate_left
              ·show Act.put _ (some 63) _ = _
               simp only [Act.put, sp_, i64_w, i32_w]
               rfl
              refine one_ (i := 7) (N := some 66) #[true, true, true, true, true, true, true, true, false, true, false] rfl rfl (one_of HT_.out (by kernel_rfl)) (by decide) (fun K hK => ?_)
              refine goes_ Tryz.func25 (by kernel_rfl) rfl #[.int .u8 a0, .agg #[.int .u64 x809000_44, .int .u64 t807]] (by rfl) rfl rfl (am_ rfl) ?_
              with_reducible refine (cutplaneref10_Conj.calls kj44 a0 x809000_44 t807 t815 t816 _ A68.out).mono ?_
              rintro e w75 ⟨rfl, hb⟩
              refine ⟨_, rfl, ?_⟩
              replace BK792 := bb_ BK792 hb
              replace BK793 := bb_ BK793 hb
              replace BK794 := bb_ BK794 hb
              replace BK808 := bb_ BK808 hb
              replace BK819 := bb_ BK819 hb
              replace HB := hs_ hb
              (try clear hb)
              refine hK.out _ _ ⟨bC_ BK792.out 0, bC_ BK792.out 1, bC_ BK808.out 0, bC_ BK808.out 1⟩ (fun hHeld => ?_)
              clear hK K
              refine norm_ (a' := ?_) ?_ ?_
              rotate_left
              ·show Act.put _ (some 66) _ = _
               simp only [Act.put, sp_, i64_w, i32_w]
               rfl
              refine one_ (i := 8) (N := some 67) #[true, true, true, true, true, true, true, true, true, true, false] rfl rfl (one_of HT_.out (by kernel_rfl)) (by decide) (fun K hK => ?_)
              refine goes_ Tryz.func24 (by kernel_rfl) rfl #[.int .u8 a0, .int .u8 a1, .agg #[.int .u64 t813, .int .u64 t814], .agg #[.int .u64 t815, .int .u64 t816]] (by rfl) rfl rfl (am_ rfl) ?_
              with_reducible refine (cutplaneref11_product.calls kj44 a0 a1 t813 t814 t815 t816 t817 t818 _ A69.out).mono ?_
              rintro e w76 ⟨rfl, hb⟩
              refine ⟨_, rfl, ?_⟩
              replace BK792 := bb_ BK792 hb
              replace BK793 := bb_ BK793 hb
              replace BK794 := bb_ BK794 hb
              replace BK808 := bb_ BK808 hb
              replace BK819 := bb_ BK819 hb
              replace HB := hs_ hb
              (try clear hb)
              refine hK.out _ _ ⟨bC_ BK792.out 0, bC_ BK792.out 1, bC_ BK808.out 0, bC_ BK808.out 1⟩ (fun hHeld => ?_)
              clear hK K
              refine norm_ (a' := ?_) ?_ ?_
              rotate_left
              ·show Act.put _ (some 67) _ = _
               simp only [Act.put, sp_, i64_w, i32_w]
               rfl
              exact norm_ (by simp only [putAll, Act.put, sp_]) (hCont (gb819) _ ⟨hHeld, (bm_ BK792.out), (bm_ BK793.out), (bm_ BK794.out), (bm_ BK808.out), (bm_ BK819.out), GW819.out, GE819.out, NB792_819.out, NB819_792.out, NB793_819.out, NB819_793.out, NB794_819.out, NB819_794.out, NB808_819.out, NB819_808.out, qz_⟩)
            rintro gb819 w77 ⟨hS_, h0_, h1_, h2_, h3_, h4_, h5_, h6_, h7_, h8_, h9_, h10_, h11_, h12_, h13_, h14_, h15_⟩
            have n0_ : Aside0 (w77.heap[gb792]? = some (.cells #[.int .u64 a2_0, .int .u64 a2_1] 26 (0, 0))) := ⟨h0_⟩
            have n1_ : Aside0 (w77.heap[gb793]? = some (.cells #[.int .u64 a3_0, .int .u64 a3_1] 26 (0, 0))) := ⟨h1_⟩
            have n2_ : Aside0 (w77.heap[gb794]? = some (.cells #[.int .u64 0, .int .u64 0, .int .u8 0, .int .u8 0] 29 (0, 0))) := ⟨h2_⟩
            have n3_ : Aside0 (w77.heap[gb808]? = some (.cells #[.int .u64 x809000_44, .int .u64 t807] 26 (0, 0))) := ⟨h3_⟩
            have n4_ : Aside0 (w77.heap[gb819]? = some (.cells #[.int .u64 0, .int .u64 0] 26 (0, 0))) := ⟨h4_⟩
            have n5_ : Aside0 (w.heap.size ≤ gb819) := ⟨h5_⟩
            have n6_ : Aside0 (w.heap.size ≤ gb819) := ⟨h6_⟩
            have n7_ : Aside0 (gb792 ≠ gb819) := ⟨h7_⟩
            have n8_ : Aside0 (gb819 ≠ gb792) := ⟨h8_⟩
            have n9_ : Aside0 (gb793 ≠ gb819) := ⟨h9_⟩
            have n10_ : Aside0 (gb819 ≠ gb793) := ⟨h10_⟩
            have n11_ : Aside0 (gb794 ≠ gb819) := ⟨h11_⟩
            have n12_ : Aside0 (gb819 ≠ gb794) := ⟨h12_⟩
            have n13_ : Aside0 (gb808 ≠ gb819) := ⟨h13_⟩
            have n14_ : Aside0 (gb819 ≠ gb808) := ⟨h14_⟩
            have n15_ : Aside0 (Below w.heap.size w w77) := ⟨h15_⟩
            clear BK792 BK793 BK794 BK808 HB h0_ h1_ h2_ h3_ h4_ h5_ h6_ h7_ h8_ h9_ h10_ h11_ h12_ h13_ h14_ h15_
            have BK792 := n0_
            have BK793 := n1_
            have BK794 := n2_
            have BK808 := n3_
            have BK819 := n4_
            have GW819 := n5_
            have GE819 := n6_
            have NB792_819 := n7_
            have NB819_792 := n8_
            have NB793_819 := n9_
            have NB819_793 := n10_
            have NB794_819 := n11_
            have NB819_794 := n12_
            have NB808_819 := n13_
            have NB819_808 := n14_
            have HB := n15_
            clear n0_ n1_ n2_ n3_ n4_ n5_ n6_ n7_ n8_ n9_ n10_ n11_ n12_ n13_ n14_ n15_
            have hHeld : w77.cell? ⟨gb792, 0, none⟩ = some (.int .u64 a2_0) ∧ w77.cell? ⟨gb792, 1, none⟩ = some (.int .u64 a2_1) ∧ w77.cell? ⟨gb808, 0, none⟩ = some (.int .u64 x809000_44) ∧ w77.cell? ⟨gb808, 1, none⟩ = some (.int .u64 t807) := hS_
            refine norm_ (a' := ?_) ?_ ?_
            rotate_left
            ·simp only [putAll, Act.put, sp_]
             rfl
            refine one_ (i := 10) (N := none) #[true, true, true, true, true, true, true, true, true, true, true] rfl rfl (one_of HT_.out (by kernel_rfl)) (by decide) (fun K hK => ?_)
            have hs78 : w77.cell? ⟨gb819, 0, none⟩ = some (.int .u64 0) := (blk_cell BK819.out 0).trans rfl
            have hfs78 := blk_frozen BK819.out 0
            have hns78_0 := NB792_819.out
            have hns78_1 := NB793_819.out
            have hns78_2 := NB794_819.out
            have hns78_3 := NB808_819.out
            have hms78_0 := NB819_792.out
            have hms78_1 := NB819_793.out
            have hms78_2 := NB819_794.out
            have hms78_3 := NB819_808.out
            have hs79 : w77.cell? ⟨gb819, 1, none⟩ = some (.int .u64 0) := (blk_cell BK819.out 1).trans rfl
            have hfs79 := blk_frozen BK819.out 1
            have hns79_0 := NB792_819.out
            have hns79_1 := NB793_819.out
            have hns79_2 := NB794_819.out
            have hns79_3 := NB808_819.out
            have hms79_0 := NB819_792.out
            have hms79_1 := NB819_793.out
            have hms79_2 := NB819_794.out
            have hms79_3 := NB819_808.out
            refine skip_ (w1 := ?_) (by rfl) rfl ?_ ?_
            rotate_left
            ·go_simp
             rfl
            refine hK.out _ _ ⟨((cell_far (p := ⟨gb819, _, none⟩) NB792_819.out _).trans (((cell_far (p := ⟨gb819, _, none⟩) NB792_819.out _).trans (hHeld.1)))), ((cell_far (p := ⟨gb819, _, none⟩) NB792_819.out _).trans (((cell_far (p := ⟨gb819, _, none⟩) NB792_819.out _).trans (hHeld.2.1)))), ((cell_far (p := ⟨gb819, _, none⟩) NB808_819.out _).trans (((cell_far (p := ⟨gb819, _, none⟩) NB808_819.out _).trans (hHeld.2.2.1)))), ((cell_far (p := ⟨gb819, _, none⟩) NB808_819.out _).trans (((cell_far (p := ⟨gb819, _, none⟩) NB808_819.out _).trans (hHeld.2.2.2))))⟩ (fun hHeld => ?_)
            clear hK K
            refine done_ (done_of HT_.out (by kernel_rfl)) ?_
            have H := HH_.out
            clear HH_
            by_cases c70 : t796 = 3
            ·rw [if_pos c70] at H
             have c70b0 : (t796 == 3) = true := beq_iff_eq.mpr c70
             have c70b1 : (t796 != 3) = false := bne_eq_false_iff_eq.mpr c70
             clear c70
             obtain ⟨⟨t820, t821⟩, A71, H⟩ := bs_ H
             try dsimp -simprocs only at H
             simp only [Option.some.injEq, Prod.mk.injEq] at H
             obtain ⟨rfl, rfl, rfl, rfl, rfl⟩ := H
             have hnb80 := NB819_792.out
             have hnc80 := NB792_819.out
             have hnb81 := NB819_793.out
             have hnc81 := NB793_819.out
             have hnb82 := NB819_794.out
             have hnc82 := NB794_819.out
             have hnb83 := NB819_808.out
             have hnc83 := NB808_819.out
             have hcz84 := bc2_ BK819.out
             have hfz84 := bf2_ BK819.out
             try go_wp2_with (first | ((with_reducible refine gate_callee (f := 26) rfl ?_); refine goesL_ (some 72) rfl rfl Tryz.func26 (by kernel_rfl) rfl #[.int .u8 a0, .agg #[.int .u64 t817, .int .u64 t818], .int .u64 0] rfl (am_ rfl) ?_; (with_reducible refine (cutplaneref11_turned.calls kj44 a0 t817 t818 0 t820 t821 _ A71.out).mono ?_); rintro e w85 ⟨rfl, hb⟩; refine ⟨_, rfl, ?_⟩; replace BK792 := A0_ (blk_below (g := gb792) (o := .cells #[.int .u64 a2_0, .int .u64 a2_1] 26 (0, 0)) (by (with_reducible repeat first | apply bN_ | apply bD_ | apply bA_); refine blk_far ?_ NB792_819.out _; refine blk_far ?_ NB792_819.out _; exact bm_ BK792.out) hb); replace BK793 := A0_ (blk_below (g := gb793) (o := .cells #[.int .u64 a3_0, .int .u64 a3_1] 26 (0, 0)) (by (with_reducible repeat first | apply bN_ | apply bD_ | apply bA_); refine blk_far ?_ NB793_819.out _; refine blk_far ?_ NB793_819.out _; exact bm_ BK793.out) hb); replace BK794 := A0_ (blk_below (g := gb794) (o := .cells #[.int .u64 0, .int .u64 0, .int .u8 0, .int .u8 0] 29 (0, 0)) (by (with_reducible repeat first | apply bN_ | apply bD_ | apply bA_); refine blk_far ?_ NB794_819.out _; refine blk_far ?_ NB794_819.out _; exact bm_ BK794.out) hb); replace BK808 := A0_ (blk_below (g := gb808) (o := .cells #[.int .u64 x809000_44, .int .u64 t807] 26 (0, 0)) (by (with_reducible repeat first | apply bN_ | apply bD_ | apply bA_); refine blk_far ?_ NB808_819.out _; refine blk_far ?_ NB808_819.out _; exact bm_ BK808.out) hb); replace BK819 := A0_ (blk_below (g := gb819) (o := .cells #[.int .u64 t817, .int .u64 t818] 26 (0, 0)) (by (with_reducible repeat first | apply bN_ | apply bD_ | apply bA_); refine blk_put (cs := #[.int .u64 t817, .int .u64 0]) ?_ 1 _ rfl; refine blk_put (cs := #[.int .u64 0, .int .u64 0]) ?_ 0 _ rfl; exact bm_ BK819.out) hb); replace HB := hs_ hb; (try clear hb); have hnb86 := NB794_792.out; have hnc86 := NB792_794.out; have hnb87 := NB794_793.out; have hnc87 := NB793_794.out; have hnb88 := NB794_808.out; have hnc88 := NB808_794.out; have hcz89 := bc4_ BK794.out; have hfz89 := bf4_ BK794.out))
             refine bodyPost_ret (results_ct rfl _ _ gb794 29 #[.int .u64 t820, .int .u64 t821, .int .u8 0, .int .u8 0] (0, 0) _ rfl (by (with_reducible repeat first | apply bN_ | apply bD_ | apply bA_); refine blk_put (cs := #[.int .u64 t820, .int .u64 t821, .int .u8 0, .int .u8 0]) ?_ 3 _ rfl; refine blk_put (cs := #[.int .u64 t820, .int .u64 t821, .int .u8 0, .int .u8 0]) ?_ 2 _ rfl; refine blk_put (cs := #[.int .u64 t820, .int .u64 0, .int .u8 0, .int .u8 0]) ?_ 1 _ rfl; refine blk_put (cs := #[.int .u64 0, .int .u64 0, .int .u8 0, .int .u8 0]) ?_ 0 _ rfl; exact bm_ BK794.out) Tryz.underlying29 rfl (by kernel_rfl)) rfl ?_
             exact ⟨by first | rfl | (simp [errW_none, errW_some] <;> rfl) | (simp [*, errW_none, errW_some] <;> rfl), qz_⟩
            ·rw [if_neg c70] at H
             have c70b0 : (t796 == 3) = false := beq_eq_false_iff_ne.mpr c70
             have c70b1 : (t796 != 3) = true := bne_iff_ne.mpr c70
             obtain ⟨t822, A90, H⟩ := bs_ H
             try dsimp -simprocs only at H
             obtain ⟨⟨t823, t824⟩, A91, H⟩ := bs_ H
             try dsimp -simprocs only at H
             have HH_ := A0_ H
             clear H
             try go_wp2
             have n0_ : Aside0 (((w77.setCell ⟨gb819, 0, none⟩ (.int .u64 t817)).setCell ⟨gb819, 1, none⟩ (.int .u64 t818)).heap[gb792]? = some (.cells #[.int .u64 a2_0, .int .u64 a2_1] 26 (0, 0))) := ⟨by (with_reducible repeat first | apply bN_ | apply bD_ | apply bA_); refine blk_far ?_ NB792_819.out _; refine blk_far ?_ NB792_819.out _; exact bm_ BK792.out⟩
             have n1_ : Aside0 (((w77.setCell ⟨gb819, 0, none⟩ (.int .u64 t817)).setCell ⟨gb819, 1, none⟩ (.int .u64 t818)).heap[gb793]? = some (.cells #[.int .u64 a3_0, .int .u64 a3_1] 26 (0, 0))) := ⟨by (with_reducible repeat first | apply bN_ | apply bD_ | apply bA_); refine blk_far ?_ NB793_819.out _; refine blk_far ?_ NB793_819.out _; exact bm_ BK793.out⟩
             have n2_ : Aside0 (((w77.setCell ⟨gb819, 0, none⟩ (.int .u64 t817)).setCell ⟨gb819, 1, none⟩ (.int .u64 t818)).heap[gb794]? = some (.cells #[.int .u64 0, .int .u64 0, .int .u8 0, .int .u8 0] 29 (0, 0))) := ⟨by (with_reducible repeat first | apply bN_ | apply bD_ | apply bA_); refine blk_far ?_ NB794_819.out _; refine blk_far ?_ NB794_819.out _; exact bm_ BK794.out⟩
             have n3_ : Aside0 (((w77.setCell ⟨gb819, 0, none⟩ (.int .u64 t817)).setCell ⟨gb819, 1, none⟩ (.int .u64 t818)).heap[gb808]? = some (.cells #[.int .u64 x809000_44, .int .u64 t807] 26 (0, 0))) := ⟨by (with_reducible repeat first | apply bN_ | apply bD_ | apply bA_); refine blk_far ?_ NB808_819.out _; refine blk_far ?_ NB808_819.out _; exact bm_ BK808.out⟩
             have n4_ : Aside0 (((w77.setCell ⟨gb819, 0, none⟩ (.int .u64 t817)).setCell ⟨gb819, 1, none⟩ (.int .u64 t818)).heap[gb819]? = some (.cells #[.int .u64 t817, .int .u64 t818] 26 (0, 0))) := ⟨by (with_reducible repeat first | apply bN_ | apply bD_ | apply bA_); refine blk_put (cs := #[.int .u64 t817, .int .u64 0]) ?_ 1 _ rfl; refine blk_put (cs := #[.int .u64 0, .int .u64 0]) ?_ 0 _ rfl; exact bm_ BK819.out⟩
             have n5_ : Aside0 (Below w.heap.size w ((w77.setCell ⟨gb819, 0, none⟩ (.int .u64 t817)).setCell ⟨gb819, 1, none⟩ (.int .u64 t818))) := ⟨qz_⟩
             (try clear BK792)
             (try clear BK793)
             (try clear BK794)
             (try clear BK808)
             (try clear BK819)
             (try clear HB)
             generalize ((w77.setCell ⟨gb819, 0, none⟩ (.int .u64 t817)).setCell ⟨gb819, 1, none⟩ (.int .u64 t818)) = w101 at n0_ n1_ n2_ n3_ n4_ n5_ ⊢
             have BK792 := n0_
             have BK793 := n1_
             have BK794 := n2_
             have BK808 := n3_
             have BK819 := n4_
             have HB := n5_
             clear n0_ n1_ n2_ n3_ n4_ n5_
             replace BK792 := A0_ (blk_drew BK792.out)
             replace BK793 := A0_ (blk_drew BK793.out)
             replace BK794 := A0_ (blk_drew BK794.out)
             replace BK808 := A0_ (blk_drew BK808.out)
             replace BK819 := A0_ (blk_drew BK819.out)
             replace HB := A0_ (below_drew1 HB.out)
             refine start_ (n := 8) (S := fun w' => w'.cell? ⟨gb819, 0, none⟩ = some (.int .u64 t817) ∧ w'.cell? ⟨gb819, 1, none⟩ = some (.int .u64 t818)) (ds := []) #[false, false, false, false, false, false, false, false] (by kernel_rfl) rfl rfl ⟨bC_ BK819.out 0, bC_ BK819.out 1⟩ (fun hHeld => ?_); refine with_tabW cutplaneref11_Div.tab14 cutplaneref11_Div.bits14 (fun HT_ HW_ => ?_)
             generalize w101.drew = w102 at BK792 BK793 BK794 BK808 BK819 HB hHeld ⊢
             refine pure_ (i := 0) (N := some 74) (v := ?_) (a' := ?_) #[true, false, false, false, false, false, false, false] rfl rfl (any_of HT_.out (by kernel_rfl)) (fun _ _ _ h => h) (Or.inl ⟨by rfl, ?_⟩) ?_ ?_
             rotate_left
             ·intro w'
              go_simp
              with_reducible rfl
             rotate_left
             ·simp only [Act.put, sp_, i64_w, i32_w]
              rfl
             refine pure_ (i := 2) (N := some 76) (v := ?_) (a' := ?_) #[true, false, true, false, false, false, false, false] rfl rfl (any_of HT_.out (by kernel_rfl)) (fun _ _ _ h => h) (Or.inl ⟨by rfl, ?_⟩) ?_ ?_
             rotate_left
             ·intro w'
              go_simp
              with_reducible rfl
             rotate_left
             ·simp only [Act.put, sp_, i64_w, i32_w]
              rfl
             refine take_ (i := 1) (N := some 75) (v := ?_) (a' := ?_) #[true, true, true, false, false, false, false, false] rfl rfl (take_ofW HT_.out HW_.out (by kernel_rfl)) (fun _ _ _ h => h) (Or.inl ⟨by rfl, ?_⟩) hHeld ?_ ?_
             rotate_left
             ·rintro w' ⟨s0, s1⟩
              go_simp
              with_reducible rfl
             rotate_left
             ·simp only [Act.put, sp_, i64_w, i32_w]
              rfl
             refine join_ (σ := Nat) 1 #[true, true, true, true, true, true, true, false] (fun s_ => [(77, .int .u64 t822), (78, .agg #[.int .u64 t823, .int .u64 t824]), (14, .pointer (some ⟨s_, 0, none⟩)), (79, .agg #[.int .u64 t823, .int .u64 t824, .int .u8 0, .int .u8 0])]) (fun s_ w' => (w'.cell? ⟨gb819, 0, none⟩ = some (.int .u64 t817) ∧ w'.cell? ⟨gb819, 1, none⟩ = some (.int .u64 t818)) ∧ (w'.heap[gb792]? = some (.cells #[.int .u64 a2_0, .int .u64 a2_1] 26 (0, 0))) ∧ (w'.heap[gb793]? = some (.cells #[.int .u64 a3_0, .int .u64 a3_1] 26 (0, 0))) ∧ (w'.heap[gb794]? = some (.cells #[.int .u64 0, .int .u64 0, .int .u8 0, .int .u8 0] 29 (0, 0))) ∧ (w'.heap[gb808]? = some (.cells #[.int .u64 x809000_44, .int .u64 t807] 26 (0, 0))) ∧ (w'.heap[gb819]? = some (.cells #[.int .u64 t817, .int .u64 t818] 26 (0, 0))) ∧ (w'.heap[s_]? = some (.cells #[.int .u64 0, .int .u64 0, .int .u8 0, .int .u8 0] 29 (0, 0))) ∧ (w.heap.size ≤ s_) ∧ (w.heap.size ≤ s_) ∧ (gb792 ≠ s_) ∧ (s_ ≠ gb792) ∧ (gb793 ≠ s_) ∧ (s_ ≠ gb793) ∧ (gb794 ≠ s_) ∧ (s_ ≠ gb794) ∧ (gb808 ≠ s_) ∧ (s_ ≠ gb808) ∧ (gb819 ≠ s_) ∧ (s_ ≠ gb819) ∧ (Below w.heap.size w w')) ?_ ?_
             rotate_left
             ·intro hCont
              refine two_ (i := 3) (j := 6) (Ni := some 77) (Nj := some 14) #[true, true, true, true, false, false, false, false] #[true, true, true, false, false, false, true, false] rfl rfl rfl rfl (two_of HT_.out (by kernel_rfl)) (by decide) (by decide) (fun K hK => ?_) (fun K hK => ?_)
              ·skip
               refine goes_ Tryz.func27 (by kernel_rfl) rfl #[.int .u8 a0, .bool false] (by rfl) rfl rfl (am_ rfl) ?_
               with_reducible refine (cutplaneref03_Inf.calls a0 false t822 _ A90.out).mono ?_
               rintro e w103 ⟨rfl, hb⟩
               refine ⟨_, rfl, ?_⟩
               replace BK792 := bb_ BK792 hb
               replace BK793 := bb_ BK793 hb
               replace BK794 := bb_ BK794 hb
               replace BK808 := bb_ BK808 hb
               replace BK819 := bb_ BK819 hb
               replace HB := hs_ hb
               (try clear hb)
               refine hK.out _ _ ⟨bC_ BK819.out 0, bC_ BK819.out 1⟩ (fun hHeld => ?_)
               clear hK K
               refine norm_ (a' := ?_) ?_ ?_
               rotate_left
               ·show Act.put _ (some 77) _ = _
                simp only [Act.put, sp_, i64_w, i32_w]
                rfl
               refine two_ (i := 4) (j := 6) (Ni := some 78) (Nj := some 14) #[true, true, true, true, true, false, false, false] #[true, true, true, true, false, false, true, false] rfl rfl rfl rfl (two_of HT_.out (by kernel_rfl)) (by decide) (by decide) (fun K hK => ?_) (fun K hK => ?_)
               ·skip
                refine goes_ Tryz.func26 (by kernel_rfl) rfl #[.int .u8 a0, .agg #[.int .u64 t817, .int .u64 t818], .int .u64 t822] (by rfl) rfl rfl (am_ rfl) ?_
                with_reducible refine (cutplaneref11_turned.calls kj44 a0 t817 t818 t822 t823 t824 _ A91.out).mono ?_
                rintro e w104 ⟨rfl, hb⟩
                refine ⟨_, rfl, ?_⟩
                replace BK792 := bb_ BK792 hb
                replace BK793 := bb_ BK793 hb
                replace BK794 := bb_ BK794 hb
                replace BK808 := bb_ BK808 hb
                replace BK819 := bb_ BK819 hb
                replace HB := hs_ hb
                (try clear hb)
                refine hK.out _ _ ⟨bC_ BK819.out 0, bC_ BK819.out 1⟩ (fun hHeld => ?_)
                clear hK K
                refine norm_ (a' := ?_) ?_ ?_
                rotate_left
                ·show Act.put _ (some 78) _ = _
                 simp only [Act.put, sp_, i64_w, i32_w]
                 rfl
                refine pure_ (i := 5) (N := some 79) (v := ?_) (a' := ?_) #[true, true, true, true, true, true, false, false] rfl rfl (any_of HT_.out (by kernel_rfl)) (fun _ _ _ h => h) (Or.inl ⟨by rfl, ?_⟩) ?_ ?_
                rotate_left
                ·intro w'
                 go_simp
                 with_reducible rfl
                rotate_left
                ·simp only [Act.put, sp_, i64_w, i32_w]
                 rfl
                refine one_ (i := 6) (N := some 14) #[true, true, true, true, true, true, true, false] rfl rfl (one_of HT_.out (by kernel_rfl)) (by decide) (fun K hK => ?_)
                refine box_step ?hg (N := 14) ?hd (cs := #[.int .u64 0, .int .u64 0, .int .u8 0, .int .u8 0]) (t := 29) ?hr ?_; (case hd => rfl); (case hg => rfl); (case hr => first | (go_simp; done) | (go_simp; rfl))
                intro gb825 hg w105 hbox hb
                have BK825 := A0_ (hbox)
                have GW825 := A0_ ((by rw [hg]; exact (below_size qz_) : w.heap.size ≤ gb825))
                have GE825 := GW825
                replace HB := hs_ hb
                have NB792_825 := nl_ hg BK792
                have NB825_792 := ng_ hg BK792
                replace BK792 := bb_ BK792 hb
                have NB793_825 := nl_ hg BK793
                have NB825_793 := ng_ hg BK793
                replace BK793 := bb_ BK793 hb
                have NB794_825 := nl_ hg BK794
                have NB825_794 := ng_ hg BK794
                replace BK794 := bb_ BK794 hb
                have NB808_825 := nl_ hg BK808
                have NB825_808 := ng_ hg BK808
                replace BK808 := bb_ BK808 hb
                have NB819_825 := nl_ hg BK819
                have NB825_819 := ng_ hg BK819
                replace BK819 := bb_ BK819 hb
                clear hb hbox hg
                refine hK.out _ _ ⟨bC_ BK819.out 0, bC_ BK819.out 1⟩ (fun hHeld => ?_)
                clear hK K
                refine norm_ (a' := ?_) ?_ ?_
                rotate_left
                ·show Act.put _ (some 14) _ = _
                 simp only [Act.put, sp_, i64_w, i32_w]
                 rfl
                exact norm_ (by simp only [putAll, Act.put, sp_]) (hCont (gb825) _ ⟨hHeld, (bm_ BK792.out), (bm_ BK793.out), (bm_ BK794.out), (bm_ BK808.out), (bm_ BK819.out), (bm_ BK825.out), GW825.out, GE825.out, NB792_825.out, NB825_792.out, NB793_825.out, NB825_793.out, NB794_825.out, NB825_794.out, NB808_825.out, NB825_808.out, NB819_825.out, NB825_819.out, qz_⟩)
               ·skip
                refine box_step ?hg (N := 14) ?hd (cs := #[.int .u64 0, .int .u64 0, .int .u8 0, .int .u8 0]) (t := 29) ?hr ?_; (case hd => rfl); (case hg => rfl); (case hr => first | (go_simp; done) | (go_simp; rfl))
                intro gb825 hg w104 hbox hb
                have BK825 := A0_ (hbox)
                have GW825 := A0_ ((by rw [hg]; exact (below_size qz_) : w.heap.size ≤ gb825))
                have GE825 := GW825
                replace HB := hs_ hb
                have NB792_825 := nl_ hg BK792
                have NB825_792 := ng_ hg BK792
                replace BK792 := bb_ BK792 hb
                have NB793_825 := nl_ hg BK793
                have NB825_793 := ng_ hg BK793
                replace BK793 := bb_ BK793 hb
                have NB794_825 := nl_ hg BK794
                have NB825_794 := ng_ hg BK794
                replace BK794 := bb_ BK794 hb
                have NB808_825 := nl_ hg BK808
                have NB825_808 := ng_ hg BK808
                replace BK808 := bb_ BK808 hb
                have NB819_825 := nl_ hg BK819
                have NB825_819 := ng_ hg BK819
                replace BK819 := bb_ BK819 hb
                clear hb hbox hg
                refine hK.out _ _ ⟨bC_ BK819.out 0, bC_ BK819.out 1⟩ (fun hHeld => ?_)
                clear hK K
                refine norm_ (a' := ?_) ?_ ?_
                rotate_left
                ·show Act.put _ (some 14) _ = _
                 simp only [Act.put, sp_, i64_w, i32_w]
                 rfl
                refine one_ (i := 4) (N := some 78) #[true, true, true, true, true, false, true, false] rfl rfl (one_of HT_.out (by kernel_rfl)) (by decide) (fun K hK => ?_)
                refine goes_ Tryz.func26 (by kernel_rfl) rfl #[.int .u8 a0, .agg #[.int .u64 t817, .int .u64 t818], .int .u64 t822] (by rfl) rfl rfl (am_ rfl) ?_
                with_reducible refine (cutplaneref11_turned.calls kj44 a0 t817 t818 t822 t823 t824 _ A91.out).mono ?_
                rintro e w105 ⟨rfl, hb⟩
                refine ⟨_, rfl, ?_⟩
                replace BK792 := bb_ BK792 hb
                replace BK793 := bb_ BK793 hb
                replace BK794 := bb_ BK794 hb
                replace BK808 := bb_ BK808 hb
                replace BK819 := bb_ BK819 hb
                replace BK825 := bb_ BK825 hb
                replace HB := hs_ hb
                (try clear hb)
                refine hK.out _ _ ⟨bC_ BK819.out 0, bC_ BK819.out 1⟩ (fun hHeld => ?_)
                clear hK K
                refine norm_ (a' := ?_) ?_ ?_
                rotate_left
                ·show Act.put _ (some 78) _ = _
                 simp only [Act.put, sp_, i64_w, i32_w]
                 rfl
                refine pure_ (i := 5) (N := some 79) (v := ?_) (a' := ?_) #[true, true, true, true, true, true, true, false] rfl rfl (any_of HT_.out (by kernel_rfl)) (fun _ _ _ h => h) (Or.inl ⟨by rfl, ?_⟩) ?_ ?_
                rotate_left
                ·intro w'
                 go_simp
                 with_reducible rfl
                rotate_left
                ·simp only [Act.put, sp_, i64_w, i32_w]
                 rfl
                exact norm_ (by simp only [putAll, Act.put, sp_]) (hCont (gb825) _ ⟨hHeld, (bm_ BK792.out), (bm_ BK793.out), (bm_ BK794.out), (bm_ BK808.out), (bm_ BK819.out), (bm_ BK825.out), GW825.out, GE825.out, NB792_825.out, NB825_792.out, NB793_825.out, NB825_793.out, NB794_825.out, NB825_794.out, NB808_825.out, NB825_808.out, NB819_825.out, NB825_819.out, qz_⟩)
              ·skip
               refine box_step ?hg (N := 14) ?hd (cs := #[.int .u64 0, .int .u64 0, .int .u8 0, .int .u8 0]) (t := 29) ?hr ?_; (case hd => rfl); (case hg => rfl); (case hr => first | (go_simp; done) | (go_simp; rfl))
               intro gb825 hg w103 hbox hb
               have BK825 := A0_ (hbox)
               have GW825 := A0_ ((by rw [hg]; exact (below_size qz_) : w.heap.size ≤ gb825))
               have GE825 := GW825
               replace HB := hs_ hb
               have NB792_825 := nl_ hg BK792
               have NB825_792 := ng_ hg BK792
               replace BK792 := bb_ BK792 hb
               have NB793_825 := nl_ hg BK793
               have NB825_793 := ng_ hg BK793
               replace BK793 := bb_ BK793 hb
               have NB794_825 := nl_ hg BK794
               have NB825_794 := ng_ hg BK794
               replace BK794 := bb_ BK794 hb
               have NB808_825 := nl_ hg BK808
               have NB825_808 := ng_ hg BK808
               replace BK808 := bb_ BK808 hb
               have NB819_825 := nl_ hg BK819
               have NB825_819 := ng_ hg BK819
               replace BK819 := bb_ BK819 hb
               clear hb hbox hg
               refine hK.out _ _ ⟨bC_ BK819.out 0, bC_ BK819.out 1⟩ (fun hHeld => ?_)
               clear hK K
               refine norm_ (a' := ?_) ?_ ?_
               rotate_left
               ·show Act.put _ (some 14) _ = _
                simp only [Act.put, sp_, i64_w, i32_w]
                rfl
               refine one_ (i := 3) (N := some 77) #[true, true, true, true, false, false, true, false] rfl rfl (one_of HT_.out (by kernel_rfl)) (by decide) (fun K hK => ?_)
               refine goes_ Tryz.func27 (by kernel_rfl) rfl #[.int .u8 a0, .bool false] (by rfl) rfl rfl (am_ rfl) ?_
               with_reducible refine (cutplaneref03_Inf.calls a0 false t822 _ A90.out).mono ?_
               rintro e w104 ⟨rfl, hb⟩
               refine ⟨_, rfl, ?_⟩
               replace BK792 := bb_ BK792 hb
               replace BK793 := bb_ BK793 hb
               replace BK794 := bb_ BK794 hb
               replace BK808 := bb_ BK808 hb
               replace BK819 := bb_ BK819 hb
               replace BK825 := bb_ BK825 hb
               replace HB := hs_ hb
               (try clear hb)
               refine hK.out _ _ ⟨bC_ BK819.out 0, bC_ BK819.out 1⟩ (fun hHeld => ?_)
               clear hK K
               refine norm_ (a' := ?_) ?_ ?_
               rotate_left
               ·show Act.put _ (some 77) _ = _
                simp only [Act.put, sp_, i64_w, i32_w]
                rfl
               refine one_ (i := 4) (N := some 78) #[true, true, true, true, true, false, true, false] rfl rfl (one_of HT_.out (by kernel_rfl)) (by decide) (fun K hK => ?_)
               refine goes_ Tryz.func26 (by kernel_rfl) rfl #[.int .u8 a0, .agg #[.int .u64 t817, .int .u64 t818], .int .u64 t822] (by rfl) rfl rfl (am_ rfl) ?_
               with_reducible refine (cutplaneref11_turned.calls kj44 a0 t817 t818 t822 t823 t824 _ A91.out).mono ?_
               rintro e w105 ⟨rfl, hb⟩
               refine ⟨_, rfl, ?_⟩
               replace BK792 := bb_ BK792 hb
               replace BK793 := bb_ BK793 hb
               replace BK794 := bb_ BK794 hb
               replace BK808 := bb_ BK808 hb
               replace BK819 := bb_ BK819 hb
               replace BK825 := bb_ BK825 hb
               replace HB := hs_ hb
               (try clear hb)
               refine hK.out _ _ ⟨bC_ BK819.out 0, bC_ BK819.out 1⟩ (fun hHeld => ?_)
               clear hK K
               refine norm_ (a' := ?_) ?_ ?_
               rotate_left
               ·show Act.put _ (some 78) _ = _
                simp only [Act.put, sp_, i64_w, i32_w]
                rfl
               refine pure_ (i := 5) (N := some 79) (v := ?_) (a' := ?_) #[true, true, true, true, true, true, true, false] rfl rfl (any_of HT_.out (by kernel_rfl)) (fun _ _ _ h => h) (Or.inl ⟨by rfl, ?_⟩) ?_ ?_
               rotate_left
               ·intro w'
                go_simp
                with_reducible rfl
               rotate_left
               ·simp only [Act.put, sp_, i64_w, i32_w]
                rfl
               exact norm_ (by simp only [putAll, Act.put, sp_]) (hCont (gb825) _ ⟨hHeld, (bm_ BK792.out), (bm_ BK793.out), (bm_ BK794.out), (bm_ BK808.out), (bm_ BK819.out), (bm_ BK825.out), GW825.out, GE825.out, NB792_825.out, NB825_792.out, NB793_825.out, NB825_793.out, NB794_825.out, NB825_794.out, NB808_825.out, NB825_808.out, NB819_825.out, NB825_819.out, qz_⟩)
             rintro gb825 w106 ⟨hS_, h0_, h1_, h2_, h3_, h4_, h5_, h6_, h7_, h8_, h9_, h10_, h11_, h12_, h13_, h14_, h15_, h16_, h17_, h18_⟩
             have n0_ : Aside0 (w106.heap[gb792]? = some (.cells #[.int .u64 a2_0, .int .u64 a2_1] 26 (0, 0))) := ⟨h0_⟩
             have n1_ : Aside0 (w106.heap[gb793]? = some (.cells #[.int .u64 a3_0, .int .u64 a3_1] 26 (0, 0))) := ⟨h1_⟩
             have n2_ : Aside0 (w106.heap[gb794]? = some (.cells #[.int .u64 0, .int .u64 0, .int .u8 0, .int .u8 0] 29 (0, 0))) := ⟨h2_⟩
             have n3_ : Aside0 (w106.heap[gb808]? = some (.cells #[.int .u64 x809000_44, .int .u64 t807] 26 (0, 0))) := ⟨h3_⟩
             have n4_ : Aside0 (w106.heap[gb819]? = some (.cells #[.int .u64 t817, .int .u64 t818] 26 (0, 0))) := ⟨h4_⟩
             have n5_ : Aside0 (w106.heap[gb825]? = some (.cells #[.int .u64 0, .int .u64 0, .int .u8 0, .int .u8 0] 29 (0, 0))) := ⟨h5_⟩
             have n6_ : Aside0 (w.heap.size ≤ gb825) := ⟨h6_⟩
             have n7_ : Aside0 (w.heap.size ≤ gb825) := ⟨h7_⟩
             have n8_ : Aside0 (gb792 ≠ gb825) := ⟨h8_⟩
             have n9_ : Aside0 (gb825 ≠ gb792) := ⟨h9_⟩
             have n10_ : Aside0 (gb793 ≠ gb825) := ⟨h10_⟩
             have n11_ : Aside0 (gb825 ≠ gb793) := ⟨h11_⟩
             have n12_ : Aside0 (gb794 ≠ gb825) := ⟨h12_⟩
             have n13_ : Aside0 (gb825 ≠ gb794) := ⟨h13_⟩
             have n14_ : Aside0 (gb808 ≠ gb825) := ⟨h14_⟩
             have n15_ : Aside0 (gb825 ≠ gb808) := ⟨h15_⟩
             have n16_ : Aside0 (gb819 ≠ gb825) := ⟨h16_⟩
             have n17_ : Aside0 (gb825 ≠ gb819) := ⟨h17_⟩
             have n18_ : Aside0 (Below w.heap.size w w106) := ⟨h18_⟩
             clear BK792 BK793 BK794 BK808 BK819 HB h0_ h1_ h2_ h3_ h4_ h5_ h6_ h7_ h8_ h9_ h10_ h11_ h12_ h13_ h14_ h15_ h16_ h17_ h18_
             have BK792 := n0_
             have BK793 := n1_
             have BK794 := n2_
             have BK808 := n3_
             have BK819 := n4_
             have BK825 := n5_
             have GW825 := n6_
             have GE825 := n7_
             have NB792_825 := n8_
             have NB825_792 := n9_
             have NB793_825 := n10_
             have NB825_793 := n11_
             have NB794_825 := n12_
             have NB825_794 := n13_
             have NB808_825 := n14_
             have NB825_808 := n15_
             have NB819_825 := n16_
             have NB825_819 := n17_
             have HB := n18_
             clear n0_ n1_ n2_ n3_ n4_ n5_ n6_ n7_ n8_ n9_ n10_ n11_ n12_ n13_ n14_ n15_ n16_ n17_ n18_
             have hHeld : w106.cell? ⟨gb819, 0, none⟩ = some (.int .u64 t817) ∧ w106.cell? ⟨gb819, 1, none⟩ = some (.int .u64 t818) := hS_
             refine norm_ (a' := ?_) ?_ ?_
             rotate_left
             ·simp only [putAll, Act.put, sp_]
              rfl
             refine one_ (i := 7) (N := none) #[true, true, true, true, true, true, true, true] rfl rfl (one_of HT_.out (by kernel_rfl)) (by decide) (fun K hK => ?_)
             have hs107 : w106.cell? ⟨gb825, 0, none⟩ = some (.int .u64 0) := (blk_cell BK825.out 0).trans rfl
             have hfs107 := blk_frozen BK825.out 0
             have hns107_0 := NB792_825.out
             have hns107_1 := NB793_825.out
             have hns107_2 := NB794_825.out
             have hns107_3 := NB808_825.out
             have hns107_4 := NB819_825.out
             have hms107_0 := NB825_792.out
             have hms107_1 := NB825_793.out
             have hms107_2 := NB825_794.out
             have hms107_3 := NB825_808.out
             have hms107_4 := NB825_819.out
             have hs108 : w106.cell? ⟨gb825, 1, none⟩ = some (.int .u64 0) := (blk_cell BK825.out 1).trans rfl
             have hfs108 := blk_frozen BK825.out 1
             have hns108_0 := NB792_825.out
             have hns108_1 := NB793_825.out
             have hns108_2 := NB794_825.out
             have hns108_3 := NB808_825.out
             have hns108_4 := NB819_825.out
             have hms108_0 := NB825_792.out
             have hms108_1 := NB825_793.out
             have hms108_2 := NB825_794.out
             have hms108_3 := NB825_808.out
             have hms108_4 := NB825_819.out
             have hs109 : w106.cell? ⟨gb825, 2, none⟩ = some (.int .u8 0) := (blk_cell BK825.out 2).trans rfl
             have hfs109 := blk_frozen BK825.out 2
             have hns109_0 := NB792_825.out
             have hns109_1 := NB793_825.out
             have hns109_2 := NB794_825.out
             have hns109_3 := NB808_825.out
             have hns109_4 := NB819_825.out
             have hms109_0 := NB825_792.out
             have hms109_1 := NB825_793.out
             have hms109_2 := NB825_794.out
             have hms109_3 := NB825_808.out
             have hms109_4 := NB825_819.out
             have hs110 : w106.cell? ⟨gb825, 3, none⟩ = some (.int .u8 0) := (blk_cell BK825.out 3).trans rfl
             have hfs110 := blk_frozen BK825.out 3
             have hns110_0 := NB792_825.out
             have hns110_1 := NB793_825.out
             have hns110_2 := NB794_825.out
             have hns110_3 := NB808_825.out
             have hns110_4 := NB819_825.out
             have hms110_0 := NB825_792.out
             have hms110_1 := NB825_793.out
             have hms110_2 := NB825_794.out
             have hms110_3 := NB825_808.out
             have hms110_4 := NB825_819.out
             refine skip_ (w1 := ?_) (by rfl) rfl ?_ ?_
             rotate_left
             ·go_simp
              rfl
             refine hK.out _ _ ⟨((cell_far (p := ⟨gb825, _, none⟩) NB819_825.out _).trans (((cell_far (p := ⟨gb825, _, none⟩) NB819_825.out _).trans (((cell_far (p := ⟨gb825, _, none⟩) NB819_825.out _).trans (((cell_far (p := ⟨gb825, _, none⟩) NB819_825.out _).trans (hHeld.1)))))))), ((cell_far (p := ⟨gb825, _, none⟩) NB819_825.out _).trans (((cell_far (p := ⟨gb825, _, none⟩) NB819_825.out _).trans (((cell_far (p := ⟨gb825, _, none⟩) NB819_825.out _).trans (((cell_far (p := ⟨gb825, _, none⟩) NB819_825.out _).trans (hHeld.2))))))))⟩ (fun hHeld => ?_)
             clear hK K
             refine done_ (done_of HT_.out (by kernel_rfl)) ?_
             have m0_ : Aside0 (((((w106.setCell ⟨gb825, 0, none⟩ (.int .u64 t823)).setCell ⟨gb825, 1, none⟩ (.int .u64 t824)).setCell ⟨gb825, 2, none⟩ (.int .u8 0)).setCell ⟨gb825, 3, none⟩ (.int .u8 0)).heap[gb794]? = some (.cells #[.int .u64 0, .int .u64 0, .int .u8 0, .int .u8 0] 29 (0, 0))) := ⟨by refine blk_far ?_ NB794_825.out _; refine blk_far ?_ NB794_825.out _; refine blk_far ?_ NB794_825.out _; refine blk_far ?_ NB794_825.out _; exact bm_ BK794.out⟩
             have m1_ : Aside0 (((((w106.setCell ⟨gb825, 0, none⟩ (.int .u64 t823)).setCell ⟨gb825, 1, none⟩ (.int .u64 t824)).setCell ⟨gb825, 2, none⟩ (.int .u8 0)).setCell ⟨gb825, 3, none⟩ (.int .u8 0)).heap[gb825]? = some (.cells #[.int .u64 t823, .int .u64 t824, .int .u8 0, .int .u8 0] 29 (0, 0))) := ⟨by refine blk_put (cs := #[.int .u64 t823, .int .u64 t824, .int .u8 0, .int .u8 0]) ?_ 3 _ rfl; refine blk_put (cs := #[.int .u64 t823, .int .u64 t824, .int .u8 0, .int .u8 0]) ?_ 2 _ rfl; refine blk_put (cs := #[.int .u64 t823, .int .u64 0, .int .u8 0, .int .u8 0]) ?_ 1 _ rfl; refine blk_put (cs := #[.int .u64 0, .int .u64 0, .int .u8 0, .int .u8 0]) ?_ 0 _ rfl; exact bm_ BK825.out⟩
             have m2_ : Aside0 (Below w.heap.size w ((((w106.setCell ⟨gb825, 0, none⟩ (.int .u64 t823)).setCell ⟨gb825, 1, none⟩ (.int .u64 t824)).setCell ⟨gb825, 2, none⟩ (.int .u8 0)).setCell ⟨gb825, 3, none⟩ (.int .u8 0))) := ⟨qz_⟩
             clear BK794 BK825 HB
             generalize ((((w106.setCell ⟨gb825, 0, none⟩ (.int .u64 t823)).setCell ⟨gb825, 1, none⟩ (.int .u64 t824)).setCell ⟨gb825, 2, none⟩ (.int .u8 0)).setCell ⟨gb825, 3, none⟩ (.int .u8 0)) = W2_ at m0_ m1_ m2_ ⊢
             have BK794 := m0_
             have BK825 := m1_
             have HB := m2_
             clear m0_ m1_ m2_
             have hnb900 := NB825_794.out
             have hnc900 := NB794_825.out
             have hcz900 := bc4_ BK825.out
             have hfz900 := bf4_ BK825.out
             have hcz901 := bc4_ BK794.out
             have hfz901 := bf4_ BK794.out
             have H := HH_.out
             clear HH_
             by_cases c92 : t795 = 3
             ·rw [if_pos c92] at H
              have c92b0 : (t795 == 3) = true := beq_iff_eq.mpr c92
              have c92b1 : (t795 != 3) = false := bne_eq_false_iff_eq.mpr c92
              clear c92
              simp only [Option.some.injEq, Prod.mk.injEq] at H
              obtain ⟨rfl, rfl, rfl, rfl, rfl⟩ := H
              try go_wp2
              refine bodyPost_ret (results_ct rfl _ _ gb794 29 #[.int .u64 t823, .int .u64 t824, .int .u8 0, .int .u8 0] (0, 0) _ rfl (by (with_reducible repeat first | apply bN_ | apply bD_ | apply bA_); refine blk_put (cs := #[.int .u64 t823, .int .u64 t824, .int .u8 0, .int .u8 0]) ?_ 3 _ rfl; refine blk_put (cs := #[.int .u64 t823, .int .u64 t824, .int .u8 0, .int .u8 0]) ?_ 2 _ rfl; refine blk_put (cs := #[.int .u64 t823, .int .u64 0, .int .u8 0, .int .u8 0]) ?_ 1 _ rfl; refine blk_put (cs := #[.int .u64 0, .int .u64 0, .int .u8 0, .int .u8 0]) ?_ 0 _ rfl; exact bm_ BK794.out) Tryz.underlying29 rfl (by kernel_rfl)) rfl ?_
              exact ⟨by first | rfl | (simp [errW_none, errW_some] <;> rfl) | (simp [*, errW_none, errW_some] <;> rfl), qz_⟩
             ·rw [if_neg c92] at H
              have c92b0 : (t795 == 3) = false := beq_eq_false_iff_ne.mpr c92
              have c92b1 : (t795 != 3) = true := bne_iff_ne.mpr c92
              simp only [Option.some.injEq, Prod.mk.injEq] at H
              obtain ⟨rfl, rfl, rfl, rfl, rfl⟩ := H
              try go_wp2
              refine bodyPost_ret (results_ct rfl _ _ gb794 29 #[.int .u64 t823, .int .u64 t824, .int .u8 2, .int .u8 2] (0, 0) _ rfl (by (with_reducible repeat first | apply bN_ | apply bD_ | apply bA_); refine blk_put (cs := #[.int .u64 t823, .int .u64 t824, .int .u8 2, .int .u8 0]) ?_ 3 _ rfl; refine blk_put (cs := #[.int .u64 t823, .int .u64 t824, .int .u8 0, .int .u8 0]) ?_ 2 _ rfl; refine blk_put (cs := #[.int .u64 t823, .int .u64 0, .int .u8 0, .int .u8 0]) ?_ 1 _ rfl; refine blk_put (cs := #[.int .u64 0, .int .u64 0, .int .u8 0, .int .u8 0]) ?_ 0 _ rfl; refine blk_far ?_ NB794_825.out _; refine blk_far ?_ NB794_825.out _; exact bm_ BK794.out) Tryz.underlying29 rfl (by kernel_rfl)) rfl ?_
              exact ⟨by first | rfl | (simp [errW_none, errW_some] <;> rfl) | (simp [*, errW_none, errW_some] <;> rfl), qz_⟩
end Go.Proofs.YtlgapmhjaaajfaaGreat.PA
end
