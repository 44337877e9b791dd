/- Steps of Go functions that the law SpecialQuotients uses, told as plain Lean functions, each with the proof that its call comes to what it tells; words on memory; plain facts. No condition beyond those that each text names. -/
import Derived.Test.YtlgapmhjaaajfaaGreatProg
import Derived.WalkMore
import Derived.Test.YtlgapmhjaaajfaaGreatSSpecialQuotients0
import Derived.Test.YtlgapmhjaaajfaaGreatSSpecialQuotients1
import Derived.Test.YtlgapmhjaaajfaaGreatSSpecialQuotients2
set_option maxHeartbeats 16000000
set_option maxRecDepth 100000
section
namespace Go.Proofs.YtlgapmhjaaajfaaGreat.PA
open Go.RowKit Go.Proofs.YtlgapmhjaaajfaaGreatW.PrintWords Go.Proofs.YtlgapmhjaaajfaaGreatW.PrintLast Go.Proofs.YtlgapmhjaaajfaaGreatW.PrintMore
attribute [local go_sem] max2_int min2_int max_two min_two max_three min_three max_four min_four   -- for this text's walks alone
set_option linter.unusedVariables false
set_option linter.unusedSimpArgs false
def special_boxOf.f (k : Nat) (a0 : Int) (a1_0 : Int) (a1_1 : Int) (a2 : Int) : Option (Int × Bool × Int × Bool) := (special_sideOf.f k a0 a1_0 (a2 == 3)).bind fun bt206 => ((special_sideOf.f k a0 a1_1 (a2 == 3)).bind fun bt208 => (some (bt206.1, bt206.2, bt208.1, bt208.2)))
theorem special_boxOf.mono : ∀ a0 a1 a2 a3 k, LeO (special_boxOf.f k a0 a1 a2 a3) (special_boxOf.f (k + 1) a0 a1 a2 a3) := by
 intro a0 a1 a2 a3 k
 unfold special_boxOf.f
 repeat' first
   | (with_reducible exact special_sideOf.mono _ _ _ _)
   | (with_reducible exact LeO.refl _)
   | (with_reducible exact LeO.none _)
   | (with_reducible refine LeO.ite ?_ ?_)
   | (with_reducible refine LeO.bind ?_ (fun _ => ?_))
   | exact special_sideOf.mono _ _ _ _
   | exact LeO.none _
   | refine LeO.ite ?_ ?_
   | refine LeO.bind ?_ (fun _ => ?_)
def special_boxOf.T2 : Bool × List (List Nat × List Nat) := (true, [([], []), ([], []), ([1], [1]), ([], []), ([0, 2, 3], [0, 2, 3]), ([], []), ([], []), ([6], [6]), ([], []), ([5, 7, 8, 4], [5, 7, 8]), ([4, 9], [4, 9]), ([10, 9, 0, 1, 2, 3, 4, 5, 6, 7, 8, 9, 10], [10])])
def special_boxOf.B2 : List Nat := [0, 0, 2, 0, 15, 0, 0, 64, 0, 511, 1023, 2047]
theorem special_boxOf.tab2 : rtab .any (opsOf Tryz.f11 2) = special_boxOf.T2 := by kernel_rfl
theorem special_boxOf.bits2 : waitsOk special_boxOf.T2.2 special_boxOf.B2 = true := by kernel_rfl
theorem special_boxOf.calls (k : Nat) (a0 : Int) (a1_0 : Int) (a1_1 : Int) (a2 : Int) (r1 : Int) (r2 : Bool) (r3 : Int) (r4 : Bool) (w : World) (h : special_boxOf.f k a0 a1_0 a1_1 a2 = some (r1, r2, r3, r4)) :
  Calls Tryz.prog 11 #[.int .u8 a0, .agg #[.int .u64 a1_0, .int .u64 a1_1], .int .u8 a2] w fun e w' => e = .returned (.agg #[.int .i64 r1, .bool r2, .int .i64 r3, .bool r4]) ∧ Below w.heap.size w w' := by
 have hu26 := Tryz.underlying26
 have hu48 := Tryz.underlying48
 have HB := A0_ (Below.refl w.heap.size w)
 have H := h
 clear h
 unfold special_boxOf.f at H
 obtain ⟨⟨t206, t207⟩, A4, H⟩ := bs_ H
 try dsimp -simprocs only at H
 obtain ⟨⟨t208, t209⟩, A5, H⟩ := bs_ H
 try dsimp -simprocs only at H
 simp only [Option.some.injEq, Prod.mk.injEq] at H
 obtain ⟨rfl, rfl, rfl, rfl⟩ := H
 go_enter Tryz.func11, Tryz.ntmps11
 try go_wp2_with (first | ((with_reducible refine gate_dst (N := 4) rfl ?_); refine box_event ?hg (N := 4) ?hd (cs := #[.int .u64 a1_0, .int .u64 a1_1]) (t := 26) ?hr ?_; (case hd => rfl); (case hg => rfl); (case hr => first | (go_simp; done) | (go_simp; rfl)); intro gb204 hg w6 hbox hb; have BK204 := A0_ (hbox); have GW204 := A0_ ((by rw [hg]; exact (below_size (qm_ HB.out)) : w.heap.size ≤ gb204)); have GE204 := GW204; replace HB := hs_ hb; clear hb hbox hg) | ((with_reducible refine gate_dst (N := 6) rfl ?_); refine box_event ?hg (N := 6) ?hd (cs := #[.int .i64 0, .bool false, .int .i64 0, .bool false]) (t := 48) ?hr ?_; (case hd => rfl); (case hg => rfl); (case hr => first | (go_simp; done) | (go_simp; rfl)); intro gb205 hg w7 hbox hb; have BK205 := A0_ (hbox); have GW205 := A0_ ((by rw [hg]; exact (below_size qz_) : w.heap.size ≤ gb205)); have GE205 := GW205; replace HB := hs_ hb; have NB204_205 := nl_ hg BK204; have NB205_204 := ng_ hg BK204; replace BK204 := bb_ BK204 hb; clear hb hbox hg))
 replace BK204 := A0_ (blk_drew BK204.out)
 replace BK205 := A0_ (blk_drew BK205.out)
 replace HB := A0_ (below_drew1 HB.out)
 refine start_ (n := 12) (S := fun w' => w'.cell? ⟨gb204, 0, none⟩ = some (.int .u64 a1_0) ∧ w'.cell? ⟨gb204, 1, none⟩ = some (.int .u64 a1_1)) (ds := []) #[false, false, false, false, false, false, false, false, false, false, false, false] (by kernel_rfl) rfl rfl ⟨bC_ BK204.out 0, bC_ BK204.out 1⟩ (fun hHeld => ?_); refine with_tabW special_boxOf.tab2 special_boxOf.bits2 (fun HT_ HW_ => ?_)
 generalize w7.drew = w8 at BK204 BK205 HB hHeld ⊢
 refine pure_ (i := 0) (N := some 10) (v := ?_) (a' := ?_) #[true, false, false, false, false, false, false, false, false, false, false, false] rfl rfl (any_of HT_.out (by kernel_rfl)) (fun _ _ _ h => h) (Or.inl ⟨by rfl, ?_⟩) ?_ ?_
 rotate_left
 ·intro w'
  go_simp
  with_reducible rfl
 rotate_left
 ·simp only [Act.put, sp_, i64_w, i32_w]
  rfl
 refine pure_ (i := 1) (N := some 11) (v := ?_) (a' := ?_) #[true, true, false, false, false, false, false, false, false, false, false, false] rfl rfl (any_of HT_.out (by kernel_rfl)) (fun _ _ _ h => h) (Or.inl ⟨by rfl, ?_⟩) ?_ ?_
 rotate_left
 ·intro w'
  go_simp
  with_reducible rfl
 rotate_left
 ·simp only [Act.put, sp_, i64_w, i32_w]
  rfl
 refine pure_ (i := 3) (N := some 13) (v := ?_) (a' := ?_) #[true, true, false, true, false, false, false, false, false, false, false, false] rfl rfl (any_of HT_.out (by kernel_rfl)) (fun _ _ _ h => h) (Or.inl ⟨by rfl, ?_⟩) ?_ ?_
 rotate_left
 ·intro w'
  go_simp
  with_reducible rfl
 rotate_left
 ·simp only [Act.put, sp_, i64_w, i32_w]
  rfl
 refine pure_ (i := 5) (N := some 15) (v := ?_) (a' := ?_) #[true, true, false, true, false, true, false, false, false, false, false, false] rfl rfl (any_of HT_.out (by kernel_rfl)) (fun _ _ _ h => h) (Or.inl ⟨by rfl, ?_⟩) ?_ ?_
 rotate_left
 ·intro w'
  go_simp
  with_reducible rfl
 rotate_left
 ·simp only [Act.put, sp_, i64_w, i32_w]
  rfl
 refine pure_ (i := 6) (N := some 16) (v := ?_) (a' := ?_) #[true, true, false, true, false, true, true, false, false, false, false, false] rfl rfl (any_of HT_.out (by kernel_rfl)) (fun _ _ _ h => h) (Or.inl ⟨by rfl, ?_⟩) ?_ ?_
 rotate_left
 ·intro w'
  go_simp
  with_reducible rfl
 rotate_left
 ·simp only [Act.put, sp_, i64_w, i32_w]
  rfl
 refine pure_ (i := 8) (N := some 18) (v := ?_) (a' := ?_) #[true, true, false, true, false, true, true, false, true, false, false, false] rfl rfl (any_of HT_.out (by kernel_rfl)) (fun _ _ _ h => h) (Or.inl ⟨by rfl, ?_⟩) ?_ ?_
 rotate_left
 ·intro w'
  go_simp
  with_reducible rfl
 rotate_left
 ·simp only [Act.put, sp_, i64_w, i32_w]
  rfl
 refine take_ (i := 2) (N := some 12) (v := ?_) (a' := ?_) #[true, true, true, true, false, true, true, false, true, false, false, false] rfl rfl (take_ofW HT_.out HW_.out (by kernel_rfl)) (fun _ _ _ h => h) (Or.inl ⟨by rfl, ?_⟩) hHeld ?_ ?_
 rotate_left
 ·rintro w' ⟨s0, s1⟩
  go_simp
  with_reducible rfl
 rotate_left
 ·simp only [Act.put, sp_, i64_w, i32_w]
  rfl
 refine take_ (i := 7) (N := some 17) (v := ?_) (a' := ?_) #[true, true, true, true, false, true, true, true, true, false, false, false] rfl rfl (take_ofW HT_.out HW_.out (by kernel_rfl)) (fun _ _ _ h => h) (Or.inl ⟨by rfl, ?_⟩) hHeld ?_ ?_
 rotate_left
 ·rintro w' ⟨s0, s1⟩
  go_simp
  with_reducible rfl
 rotate_left
 ·simp only [Act.put, sp_, i64_w, i32_w]
  rfl
 refine one_ (i := 4) (N := some 14) #[true, true, true, true, true, true, true, true, true, false, false, false] rfl rfl (one_of HT_.out (by kernel_rfl)) (by decide) (fun K hK => ?_)
 refine goes_ Tryz.func33 (by kernel_rfl) rfl #[.int .u8 a0, .int .u64 a1_0, .bool (a2 == 3)] (by rfl) rfl rfl (am_ rfl) ?_
 with_reducible refine (special_sideOf.calls k a0 a1_0 (a2 == 3) t206 t207 _ A4.out).mono ?_
 rintro e w9 ⟨rfl, hb⟩
 refine ⟨_, rfl, ?_⟩
 replace BK204 := bb_ BK204 hb
 replace BK205 := bb_ BK205 hb
 replace HB := hs_ hb
 (try clear hb)
 refine hK.out _ _ ⟨bC_ BK204.out 0, bC_ BK204.out 1⟩ (fun hHeld => ?_)
 clear hK K
 refine norm_ (a' := ?_) ?_ ?_
 rotate_left
 ·show Act.put _ (some 14) _ = _
  simp only [Act.put, sp_, i64_w, i32_w]
  rfl
 refine one_ (i := 9) (N := some 19) #[true, true, true, true, true, true, true, true, true, true, false, false] rfl rfl (one_of HT_.out (by kernel_rfl)) (by decide) (fun K hK => ?_)
 refine goes_ Tryz.func33 (by kernel_rfl) rfl #[.int .u8 a0, .int .u64 a1_1, .bool (a2 == 3)] (by rfl) rfl rfl (am_ rfl) ?_
 with_reducible refine (special_sideOf.calls k a0 a1_1 (a2 == 3) t208 t209 _ A5.out).mono ?_
 rintro e w10 ⟨rfl, hb⟩
 refine ⟨_, rfl, ?_⟩
 replace BK204 := bb_ BK204 hb
 replace BK205 := bb_ BK205 hb
 replace HB := hs_ hb
 (try clear hb)
 refine hK.out _ _ ⟨bC_ BK204.out 0, bC_ BK204.out 1⟩ (fun hHeld => ?_)
 clear hK K
 refine norm_ (a' := ?_) ?_ ?_
 rotate_left
 ·show Act.put _ (some 19) _ = _
  simp only [Act.put, sp_, i64_w, i32_w]
  rfl
 refine pure_ (i := 10) (N := some 20) (v := ?_) (a' := ?_) #[true, true, true, true, true, true, true, true, true, true, true, false] rfl rfl (any_of HT_.out (by kernel_rfl)) (fun _ _ _ h => h) (Or.inl ⟨by rfl, ?_⟩) ?_ ?_
 rotate_left
 ·intro w'
  go_simp
  with_reducible rfl
 rotate_left
 ·simp only [Act.put, sp_, i64_w, i32_w]
  rfl
 refine one_ (i := 11) (N := none) #[true, true, true, true, true, true, true, true, true, true, true, true] rfl rfl (one_of HT_.out (by kernel_rfl)) (by decide) (fun K hK => ?_)
 have hs11 : w10.cell? ⟨gb205, 0, none⟩ = some (.int .i64 0) := (blk_cell BK205.out 0).trans rfl
 have hfs11 := blk_frozen BK205.out 0
 have hns11_0 := NB204_205.out
 have hms11_0 := NB205_204.out
 have hs12 : w10.cell? ⟨gb205, 1, none⟩ = some (.bool false) := (blk_cell BK205.out 1).trans rfl
 have hfs12 := blk_frozen BK205.out 1
 have hns12_0 := NB204_205.out
 have hms12_0 := NB205_204.out
 have hs13 : w10.cell? ⟨gb205, 2, none⟩ = some (.int .i64 0) := (blk_cell BK205.out 2).trans rfl
 have hfs13 := blk_frozen BK205.out 2
 have hns13_0 := NB204_205.out
 have hms13_0 := NB205_204.out
 have hs14 : w10.cell? ⟨gb205, 3, none⟩ = some (.bool false) := (blk_cell BK205.out 3).trans rfl
 have hfs14 := blk_frozen BK205.out 3
 have hns14_0 := NB204_205.out
 have hms14_0 := NB205_204.out
 refine skip_ (w1 := ?_) (by rfl) rfl ?_ ?_
 rotate_left
 ·go_simp
  rfl
 refine hK.out _ _ ⟨((cell_far (p := ⟨gb205, _, none⟩) NB204_205.out _).trans (((cell_far (p := ⟨gb205, _, none⟩) NB204_205.out _).trans (((cell_far (p := ⟨gb205, _, none⟩) NB204_205.out _).trans (((cell_far (p := ⟨gb205, _, none⟩) NB204_205.out _).trans (hHeld.1)))))))), ((cell_far (p := ⟨gb205, _, none⟩) NB204_205.out _).trans (((cell_far (p := ⟨gb205, _, none⟩) NB204_205.out _).trans (((cell_far (p := ⟨gb205, _, none⟩) NB204_205.out _).trans (((cell_far (p := ⟨gb205, _, none⟩) NB204_205.out _).trans (hHeld.2))))))))⟩ (fun hHeld => ?_)
 clear hK K
 refine done_ (done_of HT_.out (by kernel_rfl)) ?_
 try go_wp2
 refine bodyPost_ret (results_cell_row rfl _ _ gb205 48 #[.int .i64 t206, .bool t207, .int .i64 t208, .bool t209] (0, 0) _ rfl (by (with_reducible repeat first | apply bN_ | apply bD_ | apply bA_); refine blk_put (cs := #[.int .i64 t206, .bool t207, .int .i64 t208, .bool false]) ?_ 3 _ rfl; refine blk_put (cs := #[.int .i64 t206, .bool t207, .int .i64 0, .bool false]) ?_ 2 _ rfl; refine blk_put (cs := #[.int .i64 t206, .bool false, .int .i64 0, .bool false]) ?_ 1 _ rfl; refine blk_put (cs := #[.int .i64 0, .bool false, .int .i64 0, .bool false]) ?_ 0 _ rfl; exact bm_ BK205.out) Tryz.underlying48 rfl (by kernel_rfl)) rfl ?_
 exact ⟨by first | rfl | (simp [errW_none, errW_some] <;> rfl) | (simp [*, errW_none, errW_some] <;> rfl), qz_⟩
def special_side_minus.f (a0_0 : Int) (a0_1 : Bool) : Option (Int × Bool) := some (wrap64 (-a0_0), !a0_1)
theorem special_side_minus.calls (a0_0 : Int) (a0_1 : Bool) (r1 : Int) (r2 : Bool) (w : World) (h : special_side_minus.f a0_0 a0_1 = some (r1, r2)) :
  Calls Tryz.prog 12 #[.agg #[.int .i64 a0_0, .bool a0_1]] w fun e w' => e = .returned (.agg #[.int .i64 r1, .bool r2]) ∧ Below w.heap.size w w' := by
 have hu46 := Tryz.underlying46
 have HB := A0_ (Below.refl w.heap.size w)
 have H := h
 clear h
 unfold special_side_minus.f at H
 simp only [Option.some.injEq, Prod.mk.injEq] at H
 obtain ⟨rfl, rfl⟩ := H
 go_enter Tryz.func12, Tryz.ntmps12
 go_wp2_with (first | ((with_reducible refine gate_dst (N := 1) rfl ?_); refine box_event ?hg (N := 1) ?hd (cs := #[.int .i64 a0_0, .bool a0_1]) (t := 46) ?hr ?_; (case hd => rfl); (case hg => rfl); (case hr => first | (go_simp; done) | (go_simp; rfl)); intro gb210 hg w2 hbox hb; have BK210 := A0_ (hbox); have GW210 := A0_ ((by rw [hg]; exact (below_size (qm_ HB.out)) : w.heap.size ≤ gb210)); have GE210 := GW210; replace HB := hs_ hb; clear hb hbox hg) | ((with_reducible refine gate_dst (N := 2) rfl ?_); refine box_event ?hg (N := 2) ?hd (cs := #[.int .i64 0, .bool false]) (t := 46) ?hr ?_; (case hd => rfl); (case hg => rfl); (case hr => first | (go_simp; done) | (go_simp; rfl)); intro gb211 hg w3 hbox hb; have BK211 := A0_ (hbox); have GW211 := A0_ ((by rw [hg]; exact (below_size qz_) : w.heap.size ≤ gb211)); have GE211 := GW211; replace HB := hs_ hb; have NB210_211 := nl_ hg BK210; have NB211_210 := ng_ hg BK210; replace BK210 := bb_ BK210 hb; clear hb hbox hg; have hnb4 := NB210_211.out; have hnc4 := NB211_210.out; have hcz5 := bc2_ BK210.out; have hfz5 := bf2_ BK210.out; have hcz6 := bc2_ BK211.out; have hfz6 := bf2_ BK211.out))
 refine bodyPost_ret (results_cell_row rfl _ _ gb211 46 #[.int .i64 (wrap64 (-a0_0)), .bool (!a0_1)] (0, 0) _ rfl (by (with_reducible repeat first | apply bN_ | apply bD_ | apply bA_); refine blk_put (cs := #[.int .i64 (wrap64 (-a0_0)), .bool false]) ?_ 1 _ rfl; refine blk_put (cs := #[.int .i64 0, .bool false]) ?_ 0 _ rfl; exact bm_ BK211.out) Tryz.underlying46 rfl (by kernel_rfl)) rfl ?_
 exact ⟨by first | rfl | (simp [errW_none, errW_some] <;> rfl) | (simp [*, errW_none, errW_some] <;> rfl), qz_⟩
def special_side_times.f (a0_0 : Int) (a0_1 : Bool) (a1_0 : Int) (a1_1 : Bool) : Option (Int × Bool) := some (wrap64 (a0_0 * a1_0), (a0_1 != a1_1))
theorem special_side_times.calls (a0_0 : Int) (a0_1 : Bool) (a1_0 : Int) (a1_1 : Bool) (r1 : Int) (r2 : Bool) (w : World) (h : special_side_times.f a0_0 a0_1 a1_0 a1_1 = some (r1, r2)) :
  Calls Tryz.prog 34 #[.agg #[.int .i64 a0_0, .bool a0_1], .agg #[.int .i64 a1_0, .bool a1_1]] w fun e w' => e = .returned (.agg #[.int .i64 r1, .bool r2]) ∧ Below w.heap.size w w' := by
 have hu46 := Tryz.underlying46
 have HB := A0_ (Below.refl w.heap.size w)
 have H := h
 clear h
 unfold special_side_times.f at H
 simp only [Option.some.injEq, Prod.mk.injEq] at H
 obtain ⟨rfl, rfl⟩ := H
 go_enter Tryz.func34, Tryz.ntmps34
 go_wp2_with (first | ((with_reducible refine gate_dst (N := 2) rfl ?_); refine box_event ?hg (N := 2) ?hd (cs := #[.int .i64 a0_0, .bool a0_1]) (t := 46) ?hr ?_; (case hd => rfl); (case hg => rfl); (case hr => first | (go_simp; done) | (go_simp; rfl)); intro gb212 hg w3 hbox hb; have BK212 := A0_ (hbox); have GW212 := A0_ ((by rw [hg]; exact (below_size (qm_ HB.out)) : w.heap.size ≤ gb212)); have GE212 := GW212; replace HB := hs_ hb; clear hb hbox hg) | ((with_reducible refine gate_dst (N := 3) rfl ?_); refine box_event ?hg (N := 3) ?hd (cs := #[.int .i64 a1_0, .bool a1_1]) (t := 46) ?hr ?_; (case hd => rfl); (case hg => rfl); (case hr => first | (go_simp; done) | (go_simp; rfl)); intro gb213 hg w4 hbox hb; have BK213 := A0_ (hbox); have GW213 := A0_ ((by rw [hg]; exact (below_size qz_) : w.heap.size ≤ gb213)); have GE213 := GW213; replace HB := hs_ hb; have NB212_213 := nl_ hg BK212; have NB213_212 := ng_ hg BK212; replace BK212 := bb_ BK212 hb; clear hb hbox hg) | ((with_reducible refine gate_dst (N := 4) rfl ?_); refine box_event ?hg (N := 4) ?hd (cs := #[.int .i64 0, .bool false]) (t := 46) ?hr ?_; (case hd => rfl); (case hg => rfl); (case hr => first | (go_simp; done) | (go_simp; rfl)); intro gb214 hg w5 hbox hb; have BK214 := A0_ (hbox); have GW214 := A0_ ((by rw [hg]; exact (below_size qz_) : w.heap.size ≤ gb214)); have GE214 := GW214; replace HB := hs_ hb; have NB212_214 := nl_ hg BK212; have NB214_212 := ng_ hg BK212; replace BK212 := bb_ BK212 hb; have NB213_214 := nl_ hg BK213; have NB214_213 := ng_ hg BK213; replace BK213 := bb_ BK213 hb; clear hb hbox hg; have hnb6 := NB212_213.out; have hnc6 := NB213_212.out; have hnb7 := NB212_214.out; have hnc7 := NB214_212.out; have hcz8 := bc2_ BK212.out; have hfz8 := bf2_ BK212.out; have hnb9 := NB213_214.out; have hnc9 := NB214_213.out; have hcz10 := bc2_ BK213.out; have hfz10 := bf2_ BK213.out; have hcz11 := bc2_ BK214.out; have hfz11 := bf2_ BK214.out))
 refine bodyPost_ret (results_cell_row rfl _ _ gb214 46 #[.int .i64 (wrap64 (a0_0 * a1_0)), .bool (a0_1 != a1_1)] (0, 0) _ rfl (by (with_reducible repeat first | apply bN_ | apply bD_ | apply bA_); refine blk_put (cs := #[.int .i64 (wrap64 (a0_0 * a1_0)), .bool false]) ?_ 1 _ rfl; refine blk_put (cs := #[.int .i64 0, .bool false]) ?_ 0 _ rfl; exact bm_ BK214.out) Tryz.underlying46 rfl (by kernel_rfl)) rfl ?_
 exact ⟨by first | rfl | (simp [errW_none, errW_some] <;> rfl) | (simp [*, errW_none, errW_some] <;> rfl), qz_⟩
def special_side_plus.f (a0_0 : Int) (a0_1 : Bool) (a1_0 : Int) (a1_1 : Bool) (a2 : Int) : Option (Int × Bool) := if (wrap64 (a0_0 + a1_0)) = 0 then (if a0_0 = 0 then (if (a0_1 == a1_1) = true then (some (a0_0, a0_1)) else (some (0, (a2 == 5)))) else (some (0, (a2 == 5)))) else (some (wrap64 (a0_0 + a1_0), decide ((wrap64 (a0_0 + a1_0)) < 0)))
theorem special_side_plus.calls (a0_0 : Int) (a0_1 : Bool) (a1_0 : Int) (a1_1 : Bool) (a2 : Int) (r1 : Int) (r2 : Bool) (w : World) (h : special_side_plus.f a0_0 a0_1 a1_0 a1_1 a2 = some (r1, r2)) :
  Calls Tryz.prog 35 #[.agg #[.int .i64 a0_0, .bool a0_1], .agg #[.int .i64 a1_0, .bool a1_1], .int .u8 a2] w fun e w' => e = .returned (.agg #[.int .i64 r1, .bool r2]) ∧ Below w.heap.size w w' := by
 have hu46 := Tryz.underlying46
 have HB := A0_ (Below.refl w.heap.size w)
 have H := h
 clear h
 unfold special_side_plus.f at H
 by_cases c4 : (wrap64 (a0_0 + a1_0)) = 0
 ·rw [if_pos c4] at H
  have c4b0 : ((wrap64 (a0_0 + a1_0)) == 0) = true := beq_iff_eq.mpr c4
  have c4b1 : ((wrap64 (a0_0 + a1_0)) != 0) = false := bne_eq_false_iff_eq.mpr c4
  clear c4
  by_cases c5 : a0_0 = 0
  ·rw [if_pos c5] at H
   have c5b0 : (a0_0 == 0) = true := beq_iff_eq.mpr c5
   have c5b1 : (a0_0 != 0) = false := bne_eq_false_iff_eq.mpr c5
   clear c5
   by_cases c6 : (a0_1 == a1_1) = true
   ·rw [if_pos c6] at H
    have c6b0 : (a0_1 == a1_1) = true := c6
    (try (have c6b1 : decide (a0_1 = a1_1) = true := by simpa using c6))
    (try (have c6b2 : (a0_1 == a1_1) = true := by simpa using c6))
    clear c6
    simp only [Option.some.injEq, Prod.mk.injEq] at H
    obtain ⟨rfl, rfl⟩ := H
    go_enter Tryz.func35, Tryz.ntmps35
    go_wp2_with (first | ((with_reducible refine gate_dst (N := 3) rfl ?_); refine box_event ?hg (N := 3) ?hd (cs := #[.int .i64 a0_0, .bool a0_1]) (t := 46) ?hr ?_; (case hd => rfl); (case hg => rfl); (case hr => first | (go_simp; done) | (go_simp; rfl)); intro gb215 hg w7 hbox hb; have BK215 := A0_ (hbox); have GW215 := A0_ ((by rw [hg]; exact (below_size (qm_ HB.out)) : w.heap.size ≤ gb215)); have GE215 := GW215; replace HB := hs_ hb; clear hb hbox hg) | ((with_reducible refine gate_dst (N := 4) rfl ?_); refine box_event ?hg (N := 4) ?hd (cs := #[.int .i64 a1_0, .bool a1_1]) (t := 46) ?hr ?_; (case hd => rfl); (case hg => rfl); (case hr => first | (go_simp; done) | (go_simp; rfl)); intro gb216 hg w8 hbox hb; have BK216 := A0_ (hbox); have GW216 := A0_ ((by rw [hg]; exact (below_size qz_) : w.heap.size ≤ gb216)); have GE216 := GW216; replace HB := hs_ hb; have NB215_216 := nl_ hg BK215; have NB216_215 := ng_ hg BK215; replace BK215 := bb_ BK215 hb; clear hb hbox hg) | ((with_reducible refine gate_dst (N := 6) rfl ?_); refine box_event ?hg (N := 6) ?hd (cs := #[.int .i64 0, .bool false]) (t := 46) ?hr ?_; (case hd => rfl); (case hg => rfl); (case hr => first | (go_simp; done) | (go_simp; rfl)); intro gb217 hg w9 hbox hb; have BK217 := A0_ (hbox); have GW217 := A0_ ((by rw [hg]; exact (below_size qz_) : w.heap.size ≤ gb217)); have GE217 := GW217; replace HB := hs_ hb; have NB215_217 := nl_ hg BK215; have NB217_215 := ng_ hg BK215; replace BK215 := bb_ BK215 hb; have NB216_217 := nl_ hg BK216; have NB217_216 := ng_ hg BK216; replace BK216 := bb_ BK216 hb; clear hb hbox hg; have hnb10 := NB215_216.out; have hnc10 := NB216_215.out; have hnb11 := NB215_217.out; have hnc11 := NB217_215.out; have hcz12 := bc2_ BK215.out; have hfz12 := bf2_ BK215.out; have hnb13 := NB216_217.out; have hnc13 := NB217_216.out; have hcz14 := bc2_ BK216.out; have hfz14 := bf2_ BK216.out; have hcz15 := bc2_ BK217.out; have hfz15 := bf2_ BK217.out))
    refine bodyPost_ret (results_cell_row rfl _ _ gb217 46 #[.int .i64 a0_0, .bool a0_1] (0, 0) _ rfl (by (with_reducible repeat first | apply bN_ | apply bD_ | apply bA_); refine blk_put (cs := #[.int .i64 a0_0, .bool false]) ?_ 1 _ rfl; refine blk_put (cs := #[.int .i64 0, .bool false]) ?_ 0 _ rfl; exact bm_ BK217.out) Tryz.underlying46 rfl (by kernel_rfl)) rfl ?_
    exact ⟨by first | rfl | (simp [errW_none, errW_some] <;> rfl) | (simp [*, errW_none, errW_some] <;> rfl), qz_⟩
   ·rw [if_neg c6] at H
    have c6b0 : (a0_1 == a1_1) = false := by simpa using c6
    (try (have c6b1 : decide (a0_1 = a1_1) = false := by simpa using c6))
    (try (have c6b2 : (a0_1 == a1_1) = false := by simpa using c6))
    (try (have c6b3 : ¬ (a0_1 = a1_1) := by simpa using c6))
    clear c6
    simp only [Option.some.injEq, Prod.mk.injEq] at H
    obtain ⟨rfl, rfl⟩ := H
    go_enter Tryz.func35, Tryz.ntmps35
    go_wp2_with (first | ((with_reducible refine gate_dst (N := 3) rfl ?_); refine box_event ?hg (N := 3) ?hd (cs := #[.int .i64 a0_0, .bool a0_1]) (t := 46) ?hr ?_; (case hd => rfl); (case hg => rfl); (case hr => first | (go_simp; done) | (go_simp; rfl)); intro gb215 hg w16 hbox hb; have BK215 := A0_ (hbox); have GW215 := A0_ ((by rw [hg]; exact (below_size (qm_ HB.out)) : w.heap.size ≤ gb215)); have GE215 := GW215; replace HB := hs_ hb; clear hb hbox hg) | ((with_reducible refine gate_dst (N := 4) rfl ?_); refine box_event ?hg (N := 4) ?hd (cs := #[.int .i64 a1_0, .bool a1_1]) (t := 46) ?hr ?_; (case hd => rfl); (case hg => rfl); (case hr => first | (go_simp; done) | (go_simp; rfl)); intro gb216 hg w17 hbox hb; have BK216 := A0_ (hbox); have GW216 := A0_ ((by rw [hg]; exact (below_size qz_) : w.heap.size ≤ gb216)); have GE216 := GW216; replace HB := hs_ hb; have NB215_216 := nl_ hg BK215; have NB216_215 := ng_ hg BK215; replace BK215 := bb_ BK215 hb; clear hb hbox hg) | ((with_reducible refine gate_dst (N := 6) rfl ?_); refine box_event ?hg (N := 6) ?hd (cs := #[.int .i64 0, .bool false]) (t := 46) ?hr ?_; (case hd => rfl); (case hg => rfl); (case hr => first | (go_simp; done) | (go_simp; rfl)); intro gb217 hg w18 hbox hb; have BK217 := A0_ (hbox); have GW217 := A0_ ((by rw [hg]; exact (below_size qz_) : w.heap.size ≤ gb217)); have GE217 := GW217; replace HB := hs_ hb; have NB215_217 := nl_ hg BK215; have NB217_215 := ng_ hg BK215; replace BK215 := bb_ BK215 hb; have NB216_217 := nl_ hg BK216; have NB217_216 := ng_ hg BK216; replace BK216 := bb_ BK216 hb; clear hb hbox hg; have hnb19 := NB215_216.out; have hnc19 := NB216_215.out; have hnb20 := NB215_217.out; have hnc20 := NB217_215.out; have hcz21 := bc2_ BK215.out; have hfz21 := bf2_ BK215.out; have hnb22 := NB216_217.out; have hnc22 := NB217_216.out; have hcz23 := bc2_ BK216.out; have hfz23 := bf2_ BK216.out; have hcz24 := bc2_ BK217.out; have hfz24 := bf2_ BK217.out))
    refine bodyPost_ret (results_cell_row rfl _ _ gb217 46 #[.int .i64 0, .bool (a2 == 5)] (0, 0) _ rfl (by (with_reducible repeat first | apply bN_ | apply bD_ | apply bA_); refine blk_put (cs := #[.int .i64 0, .bool false]) ?_ 1 _ rfl; refine blk_put (cs := #[.int .i64 0, .bool false]) ?_ 0 _ rfl; exact bm_ BK217.out) Tryz.underlying46 rfl (by kernel_rfl)) rfl ?_
    exact ⟨by first | rfl | (simp [errW_none, errW_some] <;> rfl) | (simp [*, errW_none, errW_some] <;> rfl), qz_⟩
  ·rw [if_neg c5] at H
   have c5b0 : (a0_0 == 0) = false := beq_eq_false_iff_ne.mpr c5
   have c5b1 : (a0_0 != 0) = true := bne_iff_ne.mpr c5
   simp only [Option.some.injEq, Prod.mk.injEq] at H
   obtain ⟨rfl, rfl⟩ := H
   go_enter Tryz.func35, Tryz.ntmps35
   go_wp2_with (first | ((with_reducible refine gate_dst (N := 3) rfl ?_); refine box_event ?hg (N := 3) ?hd (cs := #[.int .i64 a0_0, .bool a0_1]) (t := 46) ?hr ?_; (case hd => rfl); (case hg => rfl); (case hr => first | (go_simp; done) | (go_simp; rfl)); intro gb215 hg w25 hbox hb; have BK215 := A0_ (hbox); have GW215 := A0_ ((by rw [hg]; exact (below_size (qm_ HB.out)) : w.heap.size ≤ gb215)); have GE215 := GW215; replace HB := hs_ hb; clear hb hbox hg) | ((with_reducible refine gate_dst (N := 4) rfl ?_); refine box_event ?hg (N := 4) ?hd (cs := #[.int .i64 a1_0, .bool a1_1]) (t := 46) ?hr ?_; (case hd => rfl); (case hg => rfl); (case hr => first | (go_simp; done) | (go_simp; rfl)); intro gb216 hg w26 hbox hb; have BK216 := A0_ (hbox); have GW216 := A0_ ((by rw [hg]; exact (below_size qz_) : w.heap.size ≤ gb216)); have GE216 := GW216; replace HB := hs_ hb; have NB215_216 := nl_ hg BK215; have NB216_215 := ng_ hg BK215; replace BK215 := bb_ BK215 hb; clear hb hbox hg) | ((with_reducible refine gate_dst (N := 6) rfl ?_); refine box_event ?hg (N := 6) ?hd (cs := #[.int .i64 0, .bool false]) (t := 46) ?hr ?_; (case hd => rfl); (case hg => rfl); (case hr => first | (go_simp; done) | (go_simp; rfl)); intro gb217 hg w27 hbox hb; have BK217 := A0_ (hbox); have GW217 := A0_ ((by rw [hg]; exact (below_size qz_) : w.heap.size ≤ gb217)); have GE217 := GW217; replace HB := hs_ hb; have NB215_217 := nl_ hg BK215; have NB217_215 := ng_ hg BK215; replace BK215 := bb_ BK215 hb; have NB216_217 := nl_ hg BK216; have NB217_216 := ng_ hg BK216; replace BK216 := bb_ BK216 hb; clear hb hbox hg; have hnb28 := NB215_216.out; have hnc28 := NB216_215.out; have hnb29 := NB215_217.out; have hnc29 := NB217_215.out; have hcz30 := bc2_ BK215.out; have hfz30 := bf2_ BK215.out; have hnb31 := NB216_217.out; have hnc31 := NB217_216.out; have hcz32 := bc2_ BK216.out; have hfz32 := bf2_ BK216.out; have hcz33 := bc2_ BK217.out; have hfz33 := bf2_ BK217.out))
   refine bodyPost_ret (results_cell_row rfl _ _ gb217 46 #[.int .i64 0, .bool (a2 == 5)] (0, 0) _ rfl (by (with_reducible repeat first | apply bN_ | apply bD_ | apply bA_); refine blk_put (cs := #[.int .i64 0, .bool false]) ?_ 1 _ rfl; refine blk_put (cs := #[.int .i64 0, .bool false]) ?_ 0 _ rfl; exact bm_ BK217.out) Tryz.underlying46 rfl (by kernel_rfl)) rfl ?_
   exact ⟨by first | rfl | (simp [errW_none, errW_some] <;> rfl) | (simp [*, errW_none, errW_some] <;> rfl), qz_⟩
 ·rw [if_neg c4] at H
  have c4b0 : ((wrap64 (a0_0 + a1_0)) == 0) = false := beq_eq_false_iff_ne.mpr c4
  have c4b1 : ((wrap64 (a0_0 + a1_0)) != 0) = true := bne_iff_ne.mpr c4
  simp only [Option.some.injEq, Prod.mk.injEq] at H
  obtain ⟨rfl, rfl⟩ := H
  go_enter Tryz.func35, Tryz.ntmps35
  go_wp2_with (first | ((with_reducible refine gate_dst (N := 3) rfl ?_); refine box_event ?hg (N := 3) ?hd (cs := #[.int .i64 a0_0, .bool a0_1]) (t := 46) ?hr ?_; (case hd => rfl); (case hg => rfl); (case hr => first | (go_simp; done) | (go_simp; rfl)); intro gb215 hg w34 hbox hb; have BK215 := A0_ (hbox); have GW215 := A0_ ((by rw [hg]; exact (below_size (qm_ HB.out)) : w.heap.size ≤ gb215)); have GE215 := GW215; replace HB := hs_ hb; clear hb hbox hg) | ((with_reducible refine gate_dst (N := 4) rfl ?_); refine box_event ?hg (N := 4) ?hd (cs := #[.int .i64 a1_0, .bool a1_1]) (t := 46) ?hr ?_; (case hd => rfl); (case hg => rfl); (case hr => first | (go_simp; done) | (go_simp; rfl)); intro gb216 hg w35 hbox hb; have BK216 := A0_ (hbox); have GW216 := A0_ ((by rw [hg]; exact (below_size qz_) : w.heap.size ≤ gb216)); have GE216 := GW216; replace HB := hs_ hb; have NB215_216 := nl_ hg BK215; have NB216_215 := ng_ hg BK215; replace BK215 := bb_ BK215 hb; clear hb hbox hg) | ((with_reducible refine gate_dst (N := 6) rfl ?_); refine box_event ?hg (N := 6) ?hd (cs := #[.int .i64 0, .bool false]) (t := 46) ?hr ?_; (case hd => rfl); (case hg => rfl); (case hr => first | (go_simp; done) | (go_simp; rfl)); intro gb217 hg w36 hbox hb; have BK217 := A0_ (hbox); have GW217 := A0_ ((by rw [hg]; exact (below_size qz_) : w.heap.size ≤ gb217)); have GE217 := GW217; replace HB := hs_ hb; have NB215_217 := nl_ hg BK215; have NB217_215 := ng_ hg BK215; replace BK215 := bb_ BK215 hb; have NB216_217 := nl_ hg BK216; have NB217_216 := ng_ hg BK216; replace BK216 := bb_ BK216 hb; clear hb hbox hg; have hnb37 := NB215_216.out; have hnc37 := NB216_215.out; have hnb38 := NB215_217.out; have hnc38 := NB217_215.out; have hcz39 := bc2_ BK215.out; have hfz39 := bf2_ BK215.out; have hnb40 := NB216_217.out; have hnc40 := NB217_216.out; have hcz41 := bc2_ BK216.out; have hfz41 := bf2_ BK216.out; have hcz42 := bc2_ BK217.out; have hfz42 := bf2_ BK217.out))
  refine bodyPost_ret (results_cell_row rfl _ _ gb217 46 #[.int .i64 (wrap64 (a0_0 + a1_0)), .bool (decide ((wrap64 (a0_0 + a1_0)) < 0))] (0, 0) _ rfl (by (with_reducible repeat first | apply bN_ | apply bD_ | apply bA_); refine blk_put (cs := #[.int .i64 (wrap64 (a0_0 + a1_0)), .bool false]) ?_ 1 _ rfl; refine blk_put (cs := #[.int .i64 0, .bool false]) ?_ 0 _ rfl; exact bm_ BK217.out) Tryz.underlying46 rfl (by kernel_rfl)) rfl ?_
  exact ⟨by first | rfl | (simp [errW_none, errW_some] <;> rfl) | (simp [*, errW_none, errW_some] <;> rfl), qz_⟩
end Go.Proofs.YtlgapmhjaaajfaaGreat.PA
end

section
namespace Go.Proofs.YtlgapmhjaaajfaaGreat.PA
open Go.RowKit Go.Proofs.YtlgapmhjaaajfaaGreatW.PrintWords Go.Proofs.YtlgapmhjaaajfaaGreatW.PrintLast Go.Proofs.YtlgapmhjaaajfaaGreatW.PrintMore
attribute [local go_sem] max2_int min2_int max_two min_two max_three min_three max_four min_four   -- for this text's walks alone
set_option linter.unusedVariables false
set_option linter.unusedSimpArgs false
def special_box_times.f (a0_0 : Int) (a0_1 : Bool) (a0_2 : Int) (a0_3 : Bool) (a1_0 : Int) (a1_1 : Bool) (a1_2 : Int) (a1_3 : Bool) (a2 : Int) : Option (Int × Bool × Int × Bool) := (special_side_times.f a0_0 a0_1 a1_0 a1_1).bind fun bt221 => ((special_side_times.f a0_2 a0_3 a1_2 a1_3).bind fun bt223 => ((special_side_minus.f bt223.1 bt223.2).bind fun bt225 => ((special_side_plus.f bt221.1 bt221.2 bt225.1 bt225.2 a2).bind fun bt227 => ((special_side_times.f a0_0 a0_1 a1_2 a1_3).bind fun bt229 => ((special_side_times.f a0_2 a0_3 a1_0 a1_1).bind fun bt231 => ((special_side_plus.f bt229.1 bt229.2 bt231.1 bt231.2 a2).bind fun bt233 => (some (bt227.1, bt227.2, bt233.1, bt233.2))))))))
def special_box_times.T1 : Bool × List (List Nat × List Nat) := (true, [([], []), ([0], [0]), ([], []), ([2], [2]), ([1, 3], [1, 3]), ([], []), ([5], [5]), ([], []), ([7], [7]), ([6, 8, 4], [6, 8]), ([9, 9], [9]), ([], []), ([4, 10, 11, 10], [4, 10, 11]), ([], []), ([13], [13]), ([], []), ([15], [15]), ([14, 16, 12], [14, 16]), ([], []), ([18], [18]), ([], []), ([20], [20]), ([19, 21, 17], [19, 21]), ([], []), ([17, 22, 23, 22], [17, 22, 23]), ([12, 24], [12, 24]), ([25, 24, 0, 1, 2, 3, 4, 5, 6, 7, 8, 9, 10, 11, 12, 13, 14, 15, 16, 17, 18, 19, 20, 21, 22, 23, 24, 25], [25])])
def special_box_times.B1 : List Nat := [0, 1, 0, 4, 15, 0, 32, 0, 128, 511, 1023, 0, 4095, 0, 8192, 0, 32768, 131071, 0, 262144, 0, 1048576, 4194303, 0, 16777215, 33554431, 67108863]
theorem special_box_times.tab1 : rtab .any (opsOf Tryz.f13 1) = special_box_times.T1 := by kernel_rfl
theorem special_box_times.bits1 : waitsOk special_box_times.T1.2 special_box_times.B1 = true := by kernel_rfl
theorem special_box_times.calls (a0_0 : Int) (a0_1 : Bool) (a0_2 : Int) (a0_3 : Bool) (a1_0 : Int) (a1_1 : Bool) (a1_2 : Int) (a1_3 : Bool) (a2 : Int) (r1 : Int) (r2 : Bool) (r3 : Int) (r4 : Bool) (w : World) (h : special_box_times.f a0_0 a0_1 a0_2 a0_3 a1_0 a1_1 a1_2 a1_3 a2 = some (r1, r2, r3, r4)) :
  Calls Tryz.prog 13 #[.agg #[.int .i64 a0_0, .bool a0_1, .int .i64 a0_2, .bool a0_3], .agg #[.int .i64 a1_0, .bool a1_1, .int .i64 a1_2, .bool a1_3], .int .u8 a2] w fun e w' => e = .returned (.agg #[.int .i64 r1, .bool r2, .int .i64 r3, .bool r4]) ∧ Below w.heap.size w w' := by
 have hap48_0 : ∀ (g : Nat) (w : World), (Instr.indexAt 48 (.pointer (some ⟨g, 0, none⟩)) (.int .i64 0)).run Tryz.prog w = .ok (.pointer (some ⟨g, 0, none⟩)) w := fun _ _ => by kernel_rfl
 have hap48_1 : ∀ (g : Nat) (w : World), (Instr.indexAt 48 (.pointer (some ⟨g, 0, none⟩)) (.int .i64 1)).run Tryz.prog w = .ok (.pointer (some ⟨g, 2, none⟩)) w := fun _ _ => by kernel_rfl
 have hu48 := Tryz.underlying48
 have hu46 := Tryz.underlying46
 have HB := A0_ (Below.refl w.heap.size w)
 have H := h
 clear h
 unfold special_box_times.f at H
 obtain ⟨⟨t221, t222⟩, A4, H⟩ := bs_ H
 try dsimp -simprocs only at H
 obtain ⟨⟨t223, t224⟩, A5, H⟩ := bs_ H
 try dsimp -simprocs only at H
 obtain ⟨⟨t225, t226⟩, A6, H⟩ := bs_ H
 try dsimp -simprocs only at H
 obtain ⟨⟨t227, t228⟩, A7, H⟩ := bs_ H
 try dsimp -simprocs only at H
 obtain ⟨⟨t229, t230⟩, A8, H⟩ := bs_ H
 try dsimp -simprocs only at H
 obtain ⟨⟨t231, t232⟩, A9, H⟩ := bs_ H
 try dsimp -simprocs only at H
 obtain ⟨⟨t233, t234⟩, A10, H⟩ := bs_ H
 try dsimp -simprocs only at H
 simp only [Option.some.injEq, Prod.mk.injEq] at H
 obtain ⟨rfl, rfl, rfl, rfl⟩ := H
 go_enter Tryz.func13, Tryz.ntmps13
 try go_wp2_with (first | ((with_reducible refine gate_dst (N := 3) rfl ?_); refine box_event ?hg (N := 3) ?hd (cs := #[.int .i64 a0_0, .bool a0_1, .int .i64 a0_2, .bool a0_3]) (t := 48) ?hr ?_; (case hd => rfl); (case hg => rfl); (case hr => first | (go_simp; done) | (go_simp; rfl)); intro gb218 hg w11 hbox hb; have BK218 := A0_ (hbox); have GW218 := A0_ ((by rw [hg]; exact (below_size (qm_ HB.out)) : w.heap.size ≤ gb218)); have GE218 := GW218; replace HB := hs_ hb; clear hb hbox hg) | ((with_reducible refine gate_dst (N := 4) rfl ?_); refine box_event ?hg (N := 4) ?hd (cs := #[.int .i64 a1_0, .bool a1_1, .int .i64 a1_2, .bool a1_3]) (t := 48) ?hr ?_; (case hd => rfl); (case hg => rfl); (case hr => first | (go_simp; done) | (go_simp; rfl)); intro gb219 hg w12 hbox hb; have BK219 := A0_ (hbox); have GW219 := A0_ ((by rw [hg]; exact (below_size qz_) : w.heap.size ≤ gb219)); have GE219 := GW219; replace HB := hs_ hb; have NB218_219 := nl_ hg BK218; have NB219_218 := ng_ hg BK218; replace BK218 := bb_ BK218 hb; clear hb hbox hg) | ((with_reducible refine gate_dst (N := 6) rfl ?_); refine box_event ?hg (N := 6) ?hd (cs := #[.int .i64 0, .bool false, .int .i64 0, .bool false]) (t := 48) ?hr ?_; (case hd => rfl); (case hg => rfl); (case hr => first | (go_simp; done) | (go_simp; rfl)); intro gb220 hg w13 hbox hb; have BK220 := A0_ (hbox); have GW220 := A0_ ((by rw [hg]; exact (below_size qz_) : w.heap.size ≤ gb220)); have GE220 := GW220; replace HB := hs_ hb; have NB218_220 := nl_ hg BK218; have NB220_218 := ng_ hg BK218; replace BK218 := bb_ BK218 hb; have NB219_220 := nl_ hg BK219; have NB220_219 := ng_ hg BK219; replace BK219 := bb_ BK219 hb; clear hb hbox hg))
 replace BK218 := A0_ (blk_drew BK218.out)
 replace BK219 := A0_ (blk_drew BK219.out)
 replace BK220 := A0_ (blk_drew BK220.out)
 replace HB := A0_ (below_drew1 HB.out)
 refine start_ (n := 27) (S := fun w' => w'.cell? ⟨gb218, 0, none⟩ = some (.int .i64 a0_0) ∧ w'.cell? ⟨gb218, 1, none⟩ = some (.bool a0_1) ∧ w'.cell? ⟨gb218, 2, none⟩ = some (.int .i64 a0_2) ∧ w'.cell? ⟨gb218, 3, none⟩ = some (.bool a0_3) ∧ w'.cell? ⟨gb219, 0, none⟩ = some (.int .i64 a1_0) ∧ w'.cell? ⟨gb219, 1, none⟩ = some (.bool a1_1) ∧ w'.cell? ⟨gb219, 2, none⟩ = some (.int .i64 a1_2) ∧ w'.cell? ⟨gb219, 3, none⟩ = some (.bool a1_3)) (ds := []) #[false, false, false, false, false, false, false, false, false, false, false, false, false, false, false, false, false, false, false, false, false, false, false, false, false, false, false] (by kernel_rfl) rfl rfl ⟨bC_ BK218.out 0, bC_ BK218.out 1, bC_ BK218.out 2, bC_ BK218.out 3, bC_ BK219.out 0, bC_ BK219.out 1, bC_ BK219.out 2, bC_ BK219.out 3⟩ (fun hHeld => ?_); refine with_tabW special_box_times.tab1 special_box_times.bits1 (fun HT_ HW_ => ?_)
 generalize w13.drew = w14 at BK218 BK219 BK220 HB hHeld ⊢
 refine pure_ (i := 0) (N := some 7) (v := ?_) (a' := ?_) #[true, false, false, false, false, false, false, false, false, false, false, false, false, false, false, false, false, false, false, false, false, false, false, false, false, false, false] rfl rfl (any_of HT_.out (by kernel_rfl)) (fun _ _ _ h => h) (Or.inl ⟨by rfl, ?_⟩) ?_ ?_
 rotate_left
 ·intro w'
  go_simp
  with_reducible rfl
 rotate_left
 ·simp only [Act.put, sp_, i64_w, i32_w]
  rfl
 refine pure_ (i := 2) (N := some 9) (v := ?_) (a' := ?_) #[true, false, true, false, false, false, false, false, false, false, false, false, false, false, false, false, false, false, false, false, false, false, false, false, false, false, false] rfl rfl (any_of HT_.out (by kernel_rfl)) (fun _ _ _ h => h) (Or.inl ⟨by rfl, ?_⟩) ?_ ?_
 rotate_left
 ·intro w'
  go_simp
  with_reducible rfl
 rotate_left
 ·simp only [Act.put, sp_, i64_w, i32_w]
  rfl
 refine pure_ (i := 5) (N := some 12) (v := ?_) (a' := ?_) #[true, false, true, false, false, true, false, false, false, false, false, false, false, false, false, false, false, false, false, false, false, false, false, false, false, false, false] rfl rfl (any_of HT_.out (by kernel_rfl)) (fun _ _ _ h => h) (Or.inl ⟨by rfl, ?_⟩) ?_ ?_
 rotate_left
 ·intro w'
  go_simp
  with_reducible rfl
 rotate_left
 ·simp only [Act.put, sp_, i64_w, i32_w]
  rfl
 refine pure_ (i := 7) (N := some 14) (v := ?_) (a' := ?_) #[true, false, true, false, false, true, false, true, false, false, false, false, false, false, false, false, false, false, false, false, false, false, false, false, false, false, false] rfl rfl (any_of HT_.out (by kernel_rfl)) (fun _ _ _ h => h) (Or.inl ⟨by rfl, ?_⟩) ?_ ?_
 rotate_left
 ·intro w'
  go_simp
  with_reducible rfl
 rotate_left
 ·simp only [Act.put, sp_, i64_w, i32_w]
  rfl
 refine pure_ (i := 11) (N := some 18) (v := ?_) (a' := ?_) #[true, false, true, false, false, true, false, true, false, false, false, true, false, false, false, false, false, false, false, false, false, false, false, false, false, false, false] rfl rfl (any_of HT_.out (by kernel_rfl)) (fun _ _ _ h => h) (Or.inl ⟨by rfl, ?_⟩) ?_ ?_
 rotate_left
 ·intro w'
  go_simp
  with_reducible rfl
 rotate_left
 ·simp only [Act.put, sp_, i64_w, i32_w]
  rfl
 refine pure_ (i := 13) (N := some 20) (v := ?_) (a' := ?_) #[true, false, true, false, false, true, false, true, false, false, false, true, false, true, false, false, false, false, false, false, false, false, false, false, false, false, false] rfl rfl (any_of HT_.out (by kernel_rfl)) (fun _ _ _ h => h) (Or.inl ⟨by rfl, ?_⟩) ?_ ?_
 rotate_left
 ·intro w'
  go_simp
  with_reducible rfl
 rotate_left
 ·simp only [Act.put, sp_, i64_w, i32_w]
  rfl
 refine pure_ (i := 15) (N := some 22) (v := ?_) (a' := ?_) #[true, false, true, false, false, true, false, true, false, false, false, true, false, true, false, true, false, false, false, false, false, false, false, false, false, false, false] rfl rfl (any_of HT_.out (by kernel_rfl)) (fun _ _ _ h => h) (Or.inl ⟨by rfl, ?_⟩) ?_ ?_
 rotate_left
 ·intro w'
  go_simp
  with_reducible rfl
 rotate_left
 ·simp only [Act.put, sp_, i64_w, i32_w]
  rfl
 refine pure_ (i := 18) (N := some 25) (v := ?_) (a' := ?_) #[true, false, true, false, false, true, false, true, false, false, false, true, false, true, false, true, false, false, true, false, false, false, false, false, false, false, false] rfl rfl (any_of HT_.out (by kernel_rfl)) (fun _ _ _ h => h) (Or.inl ⟨by rfl, ?_⟩) ?_ ?_
 rotate_left
 ·intro w'
  go_simp
  with_reducible rfl
 rotate_left
 ·simp only [Act.put, sp_, i64_w, i32_w]
  rfl
 refine pure_ (i := 20) (N := some 27) (v := ?_) (a' := ?_) #[true, false, true, false, false, true, false, true, false, false, false, true, false, true, false, true, false, false, true, false, true, false, false, false, false, false, false] rfl rfl (any_of HT_.out (by kernel_rfl)) (fun _ _ _ h => h) (Or.inl ⟨by rfl, ?_⟩) ?_ ?_
 rotate_left
 ·intro w'
  go_simp
  with_reducible rfl
 rotate_left
 ·simp only [Act.put, sp_, i64_w, i32_w]
  rfl
 refine pure_ (i := 23) (N := some 30) (v := ?_) (a' := ?_) #[true, false, true, false, false, true, false, true, false, false, false, true, false, true, false, true, false, false, true, false, true, false, false, true, false, false, false] rfl rfl (any_of HT_.out (by kernel_rfl)) (fun _ _ _ h => h) (Or.inl ⟨by rfl, ?_⟩) ?_ ?_
 rotate_left
 ·intro w'
  go_simp
  with_reducible rfl
 rotate_left
 ·simp only [Act.put, sp_, i64_w, i32_w]
  rfl
 refine take_ (i := 1) (N := some 8) (v := ?_) (a' := ?_) #[true, true, true, false, false, true, false, true, false, false, false, true, false, true, false, true, false, false, true, false, true, false, false, true, false, false, false] rfl rfl (take_ofW HT_.out HW_.out (by kernel_rfl)) (fun _ _ _ h => h) (Or.inl ⟨by rfl, ?_⟩) hHeld ?_ ?_
 rotate_left
 ·rintro w' ⟨s0, s1, s2, s3, s4, s5, s6, s7⟩
  go_simp
  with_reducible rfl
 rotate_left
 ·simp only [Act.put, sp_, i64_w, i32_w]
  rfl
 refine take_ (i := 3) (N := some 10) (v := ?_) (a' := ?_) #[true, true, true, true, false, true, false, true, false, false, false, true, false, true, false, true, false, false, true, false, true, false, false, true, false, false, false] rfl rfl (take_ofW HT_.out HW_.out (by kernel_rfl)) (fun _ _ _ h => h) (Or.inl ⟨by rfl, ?_⟩) hHeld ?_ ?_
 rotate_left
 ·rintro w' ⟨s0, s1, s2, s3, s4, s5, s6, s7⟩
  go_simp
  with_reducible rfl
 rotate_left
 ·simp only [Act.put, sp_, i64_w, i32_w]
  rfl
 refine take_ (i := 6) (N := some 13) (v := ?_) (a' := ?_) #[true, true, true, true, false, true, true, true, false, false, false, true, false, true, false, true, false, false, true, false, true, false, false, true, false, false, false] rfl rfl (take_ofW HT_.out HW_.out (by kernel_rfl)) (fun _ _ _ h => h) (Or.inl ⟨by rfl, ?_⟩) hHeld ?_ ?_
 rotate_left
 ·rintro w' ⟨s0, s1, s2, s3, s4, s5, s6, s7⟩
  go_simp
  with_reducible rfl
 rotate_left
 ·simp only [Act.put, sp_, i64_w, i32_w]
  rfl
 refine take_ (i := 8) (N := some 15) (v := ?_) (a' := ?_) #[true, true, true, true, false, true, true, true, true, false, false, true, false, true, false, true, false, false, true, false, true, false, false, true, false, false, false] rfl rfl (take_ofW HT_.out HW_.out (by kernel_rfl)) (fun _ _ _ h => h) (Or.inl ⟨by rfl, ?_⟩) hHeld ?_ ?_
 rotate_left
 ·rintro w' ⟨s0, s1, s2, s3, s4, s5, s6, s7⟩
  go_simp
  with_reducible rfl
 rotate_left
 ·simp only [Act.put, sp_, i64_w, i32_w]
  rfl
 refine take_ (i := 14) (N := some 21) (v := ?_) (a' := ?_) #[true, true, true, true, false, true, true, true, true, false, false, true, false, true, true, true, false, false, true, false, true, false, false, true, false, false, false] rfl rfl (take_ofW HT_.out HW_.out (by kernel_rfl)) (fun _ _ _ h => h) (Or.inl ⟨by rfl, ?_⟩) hHeld ?_ ?_
 rotate_left
 ·rintro w' ⟨s0, s1, s2, s3, s4, s5, s6, s7⟩
  go_simp
  with_reducible rfl
 rotate_left
 ·simp only [Act.put, sp_, i64_w, i32_w]
  rfl
 refine take_ (i := 16) (N := some 23) (v := ?_) (a' := ?_) #[true, true, true, true, false, true, true, true, true, false, false, true, false, true, true, true, true, false, true, false, true, false, false, true, false, false, false] rfl rfl (take_ofW HT_.out HW_.out (by kernel_rfl)) (fun _ _ _ h => h) (Or.inl ⟨by rfl, ?_⟩) hHeld ?_ ?_
 rotate_left
 ·rintro w' ⟨s0, s1, s2, s3, s4, s5, s6, s7⟩
  go_simp
  with_reducible rfl
 rotate_left
 ·simp only [Act.put, sp_, i64_w, i32_w]
  rfl
 refine take_ (i := 19) (N := some 26) (v := ?_) (a' := ?_) #[true, true, true, true, false, true, true, true, true, false, false, true, false, true, true, true, true, false, true, true, true, false, false, true, false, false, false] rfl rfl (take_ofW HT_.out HW_.out (by kernel_rfl)) (fun _ _ _ h => h) (Or.inl ⟨by rfl, ?_⟩) hHeld ?_ ?_
 rotate_left
 ·rintro w' ⟨s0, s1, s2, s3, s4, s5, s6, s7⟩
  go_simp
  with_reducible rfl
 rotate_left
 ·simp only [Act.put, sp_, i64_w, i32_w]
  rfl
 refine take_ (i := 21) (N := some 28) (v := ?_) (a' := ?_) #[true, true, true, true, false, true, true, true, true, false, false, true, false, true, true, true, true, false, true, true, true, true, false, true, false, false, false] rfl rfl (take_ofW HT_.out HW_.out (by kernel_rfl)) (fun _ _ _ h => h) (Or.inl ⟨by rfl, ?_⟩) hHeld ?_ ?_
 rotate_left
 ·rintro w' ⟨s0, s1, s2, s3, s4, s5, s6, s7⟩
  go_simp
  with_reducible rfl
 rotate_left
 ·simp only [Act.put, sp_, i64_w, i32_w]
  rfl
 refine one_ (i := 4) (N := some 11) #[true, true, true, true, true, true, true, true, true, false, false, true, false, true, true, true, true, false, true, true, true, true, false, true, false, false, false] rfl rfl (one_of HT_.out (by kernel_rfl)) (by decide) (fun K hK => ?_)
 refine goes_ Tryz.func34 (by kernel_rfl) rfl #[.agg #[.int .i64 a0_0, .bool a0_1], .agg #[.int .i64 a1_0, .bool a1_1]] (by rfl) rfl rfl (am_ rfl) ?_
 with_reducible refine (special_side_times.calls a0_0 a0_1 a1_0 a1_1 t221 t222 _ A4.out).mono ?_
 rintro e w15 ⟨rfl, hb⟩
 refine ⟨_, rfl, ?_⟩
 replace BK218 := bb_ BK218 hb
 replace BK219 := bb_ BK219 hb
 replace BK220 := bb_ BK220 hb
 replace HB := hs_ hb
 (try clear hb)
 refine hK.out _ _ ⟨bC_ BK218.out 0, bC_ BK218.out 1, bC_ BK218.out 2, bC_ BK218.out 3, bC_ BK219.out 0, bC_ BK219.out 1, bC_ BK219.out 2, bC_ BK219.out 3⟩ (fun hHeld => ?_)
 clear hK K
 refine norm_ (a' := ?_) ?_ ?_
 rotate_left
 ·show Act.put _ (some 11) _ = _
  simp only [Act.put, sp_, i64_w, i32_w]
  rfl
 refine one_ (i := 9) (N := some 16) #[true, true, true, true, true, true, true, true, true, true, false, true, false, true, true, true, true, false, true, true, true, true, false, true, false, false, false] rfl rfl (one_of HT_.out (by kernel_rfl)) (by decide) (fun K hK => ?_)
 refine goes_ Tryz.func34 (by kernel_rfl) rfl #[.agg #[.int .i64 a0_2, .bool a0_3], .agg #[.int .i64 a1_2, .bool a1_3]] (by rfl) rfl rfl (am_ rfl) ?_
 with_reducible refine (special_side_times.calls a0_2 a0_3 a1_2 a1_3 t223 t224 _ A5.out).mono ?_
 rintro e w16 ⟨rfl, hb⟩
 refine ⟨_, rfl, ?_⟩
 replace BK218 := bb_ BK218 hb
 replace BK219 := bb_ BK219 hb
 replace BK220 := bb_ BK220 hb
 replace HB := hs_ hb
 (try clear hb)
 refine hK.out _ _ ⟨bC_ BK218.out 0, bC_ BK218.out 1, bC_ BK218.out 2, bC_ BK218.out 3, bC_ BK219.out 0, bC_ BK219.out 1, bC_ BK219.out 2, bC_ BK219.out 3⟩ (fun hHeld => ?_)
 clear hK K
 refine norm_ (a' := ?_) ?_ ?_
 rotate_left
 ·show Act.put _ (some 16) _ = _
  simp only [Act.put, sp_, i64_w, i32_w]
  rfl
 refine one_ (i := 10) (N := some 17) #[true, true, true, true, true, true, true, true, true, true, true, true, false, true, true, true, true, false, true, true, true, true, false, true, false, false, false] rfl rfl (one_of HT_.out (by kernel_rfl)) (by decide) (fun K hK => ?_)
 refine goes_ Tryz.func12 (by kernel_rfl) rfl #[.agg #[.int .i64 t223, .bool t224]] (by rfl) rfl rfl (am_ rfl) ?_
 with_reducible refine (special_side_minus.calls t223 t224 t225 t226 _ A6.out).mono ?_
 rintro e w17 ⟨rfl, hb⟩
 refine ⟨_, rfl, ?_⟩
 replace BK218 := bb_ BK218 hb
 replace BK219 := bb_ BK219 hb
 replace BK220 := bb_ BK220 hb
 replace HB := hs_ hb
 (try clear hb)
 refine hK.out _ _ ⟨bC_ BK218.out 0, bC_ BK218.out 1, bC_ BK218.out 2, bC_ BK218.out 3, bC_ BK219.out 0, bC_ BK219.out 1, bC_ BK219.out 2, bC_ BK219.out 3⟩ (fun hHeld => ?_)
 clear hK K
 refine norm_ (a' := ?_) ?_ ?_
 rotate_left
 ·show Act.put _ (some 17) _ = _
  simp only [Act.put, sp_, i64_w, i32_w]
  rfl
 refine one_ (i := 12) (N := some 19) #[true, true, true, true, true, true, true, true, true, true, true, true, true, true, true, true, true, false, true, true, true, true, false, true, false, false, false] rfl rfl (one_of HT_.out (by kernel_rfl)) (by decide) (fun K hK => ?_)
 refine goes_ Tryz.func35 (by kernel_rfl) rfl #[.agg #[.int .i64 t221, .bool t222], .agg #[.int .i64 t225, .bool t226], .int .u8 a2] (by rfl) rfl rfl (am_ rfl) ?_
 with_reducible refine (special_side_plus.calls t221 t222 t225 t226 a2 t227 t228 _ A7.out).mono ?_
 rintro e w18 ⟨rfl, hb⟩
 refine ⟨_, rfl, ?_⟩
 replace BK218 := bb_ BK218 hb
 replace BK219 := bb_ BK219 hb
 replace BK220 := bb_ BK220 hb
 replace HB := hs_ hb
 (try clear hb)
 refine hK.out _ _ ⟨bC_ BK218.out 0, bC_ BK218.out 1, bC_ BK218.out 2, bC_ BK218.out 3, bC_ BK219.out 0, bC_ BK219.out 1, bC_ BK219.out 2, bC_ BK219.out 3⟩ (fun hHeld => ?_)
 clear hK K
 refine norm_ (a' := ?_) ?_ ?_
 rotate_left
 ·show Act.put _ (some 19) _ = _
  simp only [Act.put, sp_, i64_w, i32_w]
  rfl
 refine one_ (i := 17) (N := some 24) #[true, true, true, true, true, true, true, true, true, true, true, true, true, true, true, true, true, true, true, true, true, true, false, true, false, false, false] rfl rfl (one_of HT_.out (by kernel_rfl)) (by decide) (fun K hK => ?_)
 refine goes_ Tryz.func34 (by kernel_rfl) rfl #[.agg #[.int .i64 a0_0, .bool a0_1], .agg #[.int .i64 a1_2, .bool a1_3]] (by rfl) rfl rfl (am_ rfl) ?_
 with_reducible refine (special_side_times.calls a0_0 a0_1 a1_2 a1_3 t229 t230 _ A8.out).mono ?_
 rintro e w19 ⟨rfl, hb⟩
 refine ⟨_, rfl, ?_⟩
 replace BK218 := bb_ BK218 hb
 replace BK219 := bb_ BK219 hb
 replace BK220 := bb_ BK220 hb
 replace HB := hs_ hb
 (try clear hb)
 refine hK.out _ _ ⟨bC_ BK218.out 0, bC_ BK218.out 1, bC_ BK218.out 2, bC_ BK218.out 3, bC_ BK219.out 0, bC_ BK219.out 1, bC_ BK219.out 2, bC_ BK219.out 3⟩ (fun hHeld => ?_)
 clear hK K
 refine norm_ (a' := ?_) ?_ ?_
 rotate_left
 ·show Act.put _ (some 24) _ = _
  simp only [Act.put, sp_, i64_w, i32_w]
  rfl
 refine one_ (i := 22) (N := some 29) #[true, true, true, true, true, true, true, true, true, true, true, true, true, true, true, true, true, true, true, true, true, true, true, true, false, false, false] rfl rfl (one_of HT_.out (by kernel_rfl)) (by decide) (fun K hK => ?_)
 refine goes_ Tryz.func34 (by kernel_rfl) rfl #[.agg #[.int .i64 a0_2, .bool a0_3], .agg #[.int .i64 a1_0, .bool a1_1]] (by rfl) rfl rfl (am_ rfl) ?_
 with_reducible refine (special_side_times.calls a0_2 a0_3 a1_0 a1_1 t231 t232 _ A9.out).mono ?_
 rintro e w20 ⟨rfl, hb⟩
 refine ⟨_, rfl, ?_⟩
 replace BK218 := bb_ BK218 hb
 replace BK219 := bb_ BK219 hb
 replace BK220 := bb_ BK220 hb
 replace HB := hs_ hb
 (try clear hb)
 refine hK.out _ _ ⟨bC_ BK218.out 0, bC_ BK218.out 1, bC_ BK218.out 2, bC_ BK218.out 3, bC_ BK219.out 0, bC_ BK219.out 1, bC_ BK219.out 2, bC_ BK219.out 3⟩ (fun hHeld => ?_)
 clear hK K
 refine norm_ (a' := ?_) ?_ ?_
 rotate_left
 ·show Act.put _ (some 29) _ = _
  simp only [Act.put, sp_, i64_w, i32_w]
  rfl
 refine one_ (i := 24) (N := some 31) #[true, true, true, true, true, true, true, true, true, true, true, true, true, true, true, true, true, true, true, true, true, true, true, true, true, false, false] rfl rfl (one_of HT_.out (by kernel_rfl)) (by decide) (fun K hK => ?_)
 refine goes_ Tryz.func35 (by kernel_rfl) rfl #[.agg #[.int .i64 t229, .bool t230], .agg #[.int .i64 t231, .bool t232], .int .u8 a2] (by rfl) rfl rfl (am_ rfl) ?_
 with_reducible refine (special_side_plus.calls t229 t230 t231 t232 a2 t233 t234 _ A10.out).mono ?_
 rintro e w21 ⟨rfl, hb⟩
 refine ⟨_, rfl, ?_⟩
 replace BK218 := bb_ BK218 hb
 replace BK219 := bb_ BK219 hb
 replace BK220 := bb_ BK220 hb
 replace HB := hs_ hb
 (try clear hb)
 refine hK.out _ _ ⟨bC_ BK218.out 0, bC_ BK218.out 1, bC_ BK218.out 2, bC_ BK218.out 3, bC_ BK219.out 0, bC_ BK219.out 1, bC_ BK219.out 2, bC_ BK219.out 3⟩ (fun hHeld => ?_)
 clear hK K
 refine norm_ (a' := ?_) ?_ ?_
 rotate_left
 ·show Act.put _ (some 31) _ = _
  simp only [Act.put, sp_, i64_w, i32_w]
  rfl
 refine pure_ (i := 25) (N := some 32) (v := ?_) (a' := ?_) #[true, true, true, true, true, true, true, true, true, true, true, true, true, true, true, true, true, true, true, true, true, true, true, true, true, true, false] rfl rfl (any_of HT_.out (by kernel_rfl)) (fun _ _ _ h => h) (Or.inl ⟨by rfl, ?_⟩) ?_ ?_
 rotate_left
 ·intro w'
  go_simp
  with_reducible rfl
 rotate_left
 ·simp only [Act.put, sp_, i64_w, i32_w]
  rfl
 refine one_ (i := 26) (N := none) #[true, true, true, true, true, true, true, true, true, true, true, true, true, true, true, true, true, true, true, true, true, true, true, true, true, true, true] rfl rfl (one_of HT_.out (by kernel_rfl)) (by decide) (fun K hK => ?_)
 have hs22 : w21.cell? ⟨gb220, 0, none⟩ = some (.int .i64 0) := (blk_cell BK220.out 0).trans rfl
 have hfs22 := blk_frozen BK220.out 0
 have hns22_0 := NB218_220.out
 have hns22_1 := NB219_220.out
 have hms22_0 := NB220_218.out
 have hms22_1 := NB220_219.out
 have hs23 : w21.cell? ⟨gb220, 1, none⟩ = some (.bool false) := (blk_cell BK220.out 1).trans rfl
 have hfs23 := blk_frozen BK220.out 1
 have hns23_0 := NB218_220.out
 have hns23_1 := NB219_220.out
 have hms23_0 := NB220_218.out
 have hms23_1 := NB220_219.out
 have hs24 : w21.cell? ⟨gb220, 2, none⟩ = some (.int .i64 0) := (blk_cell BK220.out 2).trans rfl
 have hfs24 := blk_frozen BK220.out 2
 have hns24_0 := NB218_220.out
 have hns24_1 := NB219_220.out
 have hms24_0 := NB220_218.out
 have hms24_1 := NB220_219.out
 have hs25 : w21.cell? ⟨gb220, 3, none⟩ = some (.bool false) := (blk_cell BK220.out 3).trans rfl
 have hfs25 := blk_frozen BK220.out 3
 have hns25_0 := NB218_220.out
 have hns25_1 := NB219_220.out
 have hms25_0 := NB220_218.out
 have hms25_1 := NB220_219.out
 refine skip_ (w1 := ?_) (by rfl) rfl ?_ ?_
 rotate_left
 ·go_simp
  rfl
 refine hK.out _ _ ⟨((cell_far (p := ⟨gb220, _, none⟩) NB218_220.out _).trans (((cell_far (p := ⟨gb220, _, none⟩) NB218_220.out _).trans (((cell_far (p := ⟨gb220, _, none⟩) NB218_220.out _).trans (((cell_far (p := ⟨gb220, _, none⟩) NB218_220.out _).trans (hHeld.1)))))))), ((cell_far (p := ⟨gb220, _, none⟩) NB218_220.out _).trans (((cell_far (p := ⟨gb220, _, none⟩) NB218_220.out _).trans (((cell_far (p := ⟨gb220, _, none⟩) NB218_220.out _).trans (((cell_far (p := ⟨gb220, _, none⟩) NB218_220.out _).trans (hHeld.2.1)))))))), ((cell_far (p := ⟨gb220, _, none⟩) NB218_220.out _).trans (((cell_far (p := ⟨gb220, _, none⟩) NB218_220.out _).trans (((cell_far (p := ⟨gb220, _, none⟩) NB218_220.out _).trans (((cell_far (p := ⟨gb220, _, none⟩) NB218_220.out _).trans (hHeld.2.2.1)))))))), ((cell_far (p := ⟨gb220, _, none⟩) NB218_220.out _).trans (((cell_far (p := ⟨gb220, _, none⟩) NB218_220.out _).trans (((cell_far (p := ⟨gb220, _, none⟩) NB218_220.out _).trans (((cell_far (p := ⟨gb220, _, none⟩) NB218_220.out _).trans (hHeld.2.2.2.1)))))))), ((cell_far (p := ⟨gb220, _, none⟩) NB219_220.out _).trans (((cell_far (p := ⟨gb220, _, none⟩) NB219_220.out _).trans (((cell_far (p := ⟨gb220, _, none⟩) NB219_220.out _).trans (((cell_far (p := ⟨gb220, _, none⟩) NB219_220.out _).trans (hHeld.2.2.2.2.1)))))))), ((cell_far (p := ⟨gb220, _, none⟩) NB219_220.out _).trans (((cell_far (p := ⟨gb220, _, none⟩) NB219_220.out _).trans (((cell_far (p := ⟨gb220, _, none⟩) NB219_220.out _).trans (((cell_far (p := ⟨gb220, _, none⟩) NB219_220.out _).trans (hHeld.2.2.2.2.2.1)))))))), ((cell_far (p := ⟨gb220, _, none⟩) NB219_220.out _).trans (((cell_far (p := ⟨gb220, _, none⟩) NB219_220.out _).trans (((cell_far (p := ⟨gb220, _, none⟩) NB219_220.out _).trans (((cell_far (p := ⟨gb220, _, none⟩) NB219_220.out _).trans (hHeld.2.2.2.2.2.2.1)))))))), ((cell_far (p := ⟨gb220, _, none⟩) NB219_220.out _).trans (((cell_far (p := ⟨gb220, _, none⟩) NB219_220.out _).trans (((cell_far (p := ⟨gb220, _, none⟩) NB219_220.out _).trans (((cell_far (p := ⟨gb220, _, none⟩) NB219_220.out _).trans (hHeld.2.2.2.2.2.2.2))))))))⟩ (fun hHeld => ?_)
 clear hK K
 refine done_ (done_of HT_.out (by kernel_rfl)) ?_
 try go_wp2
 refine bodyPost_ret (results_cell_row rfl _ _ gb220 48 #[.int .i64 t227, .bool t228, .int .i64 t233, .bool t234] (0, 0) _ rfl (by (with_reducible repeat first | apply bN_ | apply bD_ | apply bA_); refine blk_put (cs := #[.int .i64 t227, .bool t228, .int .i64 t233, .bool false]) ?_ 3 _ rfl; refine blk_put (cs := #[.int .i64 t227, .bool t228, .int .i64 0, .bool false]) ?_ 2 _ rfl; refine blk_put (cs := #[.int .i64 t227, .bool false, .int .i64 0, .bool false]) ?_ 1 _ rfl; refine blk_put (cs := #[.int .i64 0, .bool false, .int .i64 0, .bool false]) ?_ 0 _ rfl; exact bm_ BK220.out) Tryz.underlying48 rfl (by kernel_rfl)) rfl ?_
 exact ⟨by first | rfl | (simp [errW_none, errW_some] <;> rfl) | (simp [*, errW_none, errW_some] <;> rfl), qz_⟩
end Go.Proofs.YtlgapmhjaaajfaaGreat.PA
end

section
namespace Go.Proofs.YtlgapmhjaaajfaaGreat.PA
open Go.RowKit Go.Proofs.YtlgapmhjaaajfaaGreatW.PrintWords Go.Proofs.YtlgapmhjaaajfaaGreatW.PrintLast Go.Proofs.YtlgapmhjaaajfaaGreatW.PrintMore
attribute [local go_sem] max2_int min2_int max_two min_two max_three min_three max_four min_four   -- for this text's walks alone
set_option linter.unusedVariables false
set_option linter.unusedSimpArgs false
def word_turned.f (k : Nat) (a0 : Int) (a1 : Int) (a2 : Int → Int → Int → Option (Int)) : Option (Int × Int) := (word_open.f k a0 (([a1] : List Int))).bind fun bt238 => (if bt238.2.2.2 = 0 then ((word_shape_class.f bt238.1 bt238.2.1 bt238.2.2.1 a1).bind fun t243 => (if t243 = 5 then ((word_shape_none.f bt238.1 bt238.2.1 bt238.2.2.1).bind fun t244 => (some (t244, 0))) else ((a2 bt238.1 bt238.2.1 bt238.2.2.1).bind fun t245 => (some (t245, 0))))) else (some (0, bt238.2.2.2)))
theorem word_turned.mono : ∀ a0 a1 a2 k, LeO (word_turned.f k a0 a1 a2) (word_turned.f (k + 1) a0 a1 a2) := by
 intro a0 a1 a2 k
 unfold word_turned.f
 repeat' first
   | (with_reducible exact word_open.mono _ _ _)
   | (with_reducible exact LeO.refl _)
   | (with_reducible exact LeO.none _)
   | (with_reducible refine LeO.ite ?_ ?_)
   | (with_reducible refine LeO.bind ?_ (fun _ => ?_))
   | exact word_open.mono _ _ _
   | exact LeO.none _
   | refine LeO.ite ?_ ?_
   | refine LeO.bind ?_ (fun _ => ?_)
theorem word_turned.calls (k : Nat) (a0 : Int) (a1 : Int) (a2 : Int → Int → Int → Option (Int)) (r1 : Int) (r2 : Int) (w : World) (fg2 : Nat) (fn2 : Func) (fc2 : List Value) (FV2 : Aside0 (Tryz.prog.funcs[fg2]? = some fn2 ∧ (fn2.name == "runtime.NumGoroutine") = false ∧ fn2.body.isSome = true ∧ ∀ (s0_ : Int) (s1_ : Int) (s2_ : Int) (q0_ : Int) (w_ : World), Below w.heap.size w w_ → a2 s0_ s1_ s2_ = some q0_ → Calls Tryz.prog fg2 (List.toArray ([.agg #[.int .i64 s0_, .int .i64 s1_, .int .u64 s2_]] ++ fc2)) w_ fun e w' => e = .returned (.int .u64 q0_) ∧ Below w_.heap.size w_ w')) (h : word_turned.f k a0 a1 a2 = some (r1, r2)) :
  Calls Tryz.prog 60 #[.int .u8 a0, .int .u64 a1, .func (.func fg2) #[] fc2.toArray] w fun e w' => e = .returned (.tuple #[.int .u64 r1, .int .i64 r2]) ∧ Below w.heap.size w w' := by
 have hu72 := Tryz.underlying72
 have HB := A0_ (Below.refl w.heap.size w)
 have H := h
 clear h
 unfold word_turned.f at H
 obtain ⟨y235, hy235⟩ : ∃ y_ : List Int, y_ = (([a1] : List Int)) := ⟨_, rfl⟩
 replace H : ((word_open.f k a0 y235).bind fun bt238 => (if bt238.2.2.2 = 0 then ((word_shape_class.f bt238.1 bt238.2.1 bt238.2.2.1 a1).bind fun t243 => (if t243 = 5 then ((word_shape_none.f bt238.1 bt238.2.1 bt238.2.2.1).bind fun t244 => (some (t244, 0))) else ((a2 bt238.1 bt238.2.1 bt238.2.2.1).bind fun t245 => (some (t245, 0))))) else (some (0, bt238.2.2.2)))) = some (r1, r2) := by first | (rw [hy235]; with_reducible exact H) | (have H2_ := (Option.bind_some _ _).symm.trans H; rw [hy235]; with_reducible exact H2_) | (have H2_ := (Option.bind_some _ _).symm.trans H; with_reducible exact H2_) | with_reducible exact H | (rw [hy235]; exact H) | exact H
 have Ny235 := A0_ hy235
 clear hy235
 obtain ⟨⟨t238, t239, t240, t241⟩, A4, H⟩ := bs_ H
 try dsimp -simprocs only at H
 by_cases c5 : t241 = 0
 ·rw [if_pos c5] at H
  have c5b0 : (t241 == 0) = true := beq_iff_eq.mpr c5
  have c5b1 : (t241 != 0) = false := bne_eq_false_iff_eq.mpr c5
  clear c5
  obtain ⟨t243, A6, H⟩ := bs_ H
  try dsimp -simprocs only at H
  by_cases c7 : t243 = 5
  ·rw [if_pos c7] at H
   have c7b0 : (t243 == 5) = true := beq_iff_eq.mpr c7
   have c7b1 : (t243 != 5) = false := bne_eq_false_iff_eq.mpr c7
   clear c7
   obtain ⟨t244, A8, H⟩ := bs_ H
   try dsimp -simprocs only at H
   simp only [Option.some.injEq, Prod.mk.injEq] at H
   obtain ⟨rfl, rfl⟩ := H
   go_enter Tryz.func60, Tryz.ntmps60
   go_wp2_with (first | ((with_reducible refine gate_dst (N := 13) rfl ?_); refine Kd.R_lit (Kd.int .u64) _ 24 ?hg (N := 13) ?hd (xs := ([a1] : List Int)) (inner := [.int .u64 a1]) (ok := fun _ => True) (okp := fun _ => True) ?hr ?hp (fun _ hk => hk) trivial (Below.refl _ _) (Nat.le_refl _) (by simp) ?_; (case hd => rfl); (case hg => rfl); (case hr => first | (go_simp; done) | (go_simp; rfl)); (case hp => exact (Reps.one (show Kd.M (Kd.int .u64) _ _ _ a1 [.int .u64 a1] from rfl) (Reps.none _ _))); intro v236 w9 ho10 hb hg_ hnew_; clear hg_ hnew_; (first | rw [← Ny235.out] at ho10 | (simp only [Int.reduceToNat] at ho10; rw [← Ny235.out] at ho10)); have HO237 := A0_ (Kd.R_lower ho10 (below_size (qm_ HB.out))); replace HB := hs_ hb; clear hb ho10; obtain ⟨Ao11, co11, eo11⟩ := Kd.R_slice HO237.out; subst eo11) | ((with_reducible refine gate_callee (f := 57) rfl ?_); refine goesL_ (some 14) rfl rfl Tryz.func57 (by kernel_rfl) rfl #[.int .u8 a0, .slice Ao11 y235.length co11] rfl (am_ rfl) ?_; (with_reducible refine (word_open.calls k a0 _ _ y235 t238 t239 t240 t241 _ ?side1 ?side2 A4.out).mono ?_); (case side1 => repeat (first | exact (Kd.R_reads' HO237.out).2.2 | (with_reducible refine Kd.C_alloc ?_ _) | (with_reducible refine Kd.C_drewN ?_ _) | (with_reducible refine Kd.C_drew ?_))); (case side2 => exact (Kd.R_reads' HO237.out).2.1); rintro e w12 ⟨rfl, hb⟩; refine ⟨_, rfl, ?_⟩; replace HO237 := A0_ (Kd.R_below (by exact rm_ HO237.out) hb); replace HB := hs_ hb; (try clear hb)) | ((with_reducible refine gate_dst (N := 8) rfl ?_); refine box_event ?hg (N := 8) ?hd (cs := #[.int .i64 0, .int .i64 0, .int .u64 0]) (t := 72) ?hr ?_; (case hd => rfl); (case hg => rfl); (case hr => first | (go_simp; done) | (go_simp; rfl)); intro gb242 hg w13 hbox hb; replace HO237 := A0_ (Kd.R_below (by exact rm_ HO237.out) hb); have BK242 := A0_ (hbox); have GW242 := A0_ ((by rw [hg]; exact (below_size (qm_ HB.out)) : w.heap.size ≤ gb242)); have GE242 := GW242; replace HB := hs_ hb; clear hb hbox hg; have hcz14 := bc3_ BK242.out; have hfz14 := bf3_ BK242.out) | ((with_reducible refine gate_callee (f := 75) rfl ?_); refine goesL_ (some 22) rfl rfl Tryz.func75 (by kernel_rfl) rfl #[.agg #[.int .i64 t238, .int .i64 t239, .int .u64 t240], .int .u64 a1] rfl (am_ rfl) ?_; (with_reducible refine (word_shape_class.calls t238 t239 t240 a1 t243 _ A6.out).mono ?_); rintro e w15 ⟨rfl, hb⟩; refine ⟨_, rfl, ?_⟩; replace HO237 := A0_ (Kd.R_below (by (with_reducible repeat (first | apply Kd.R_alloc | apply Kd.R_drewN | apply Kd.R_drew)); exact (Kd.R_mono (Kd.R_far (p := ⟨gb242, 2, none⟩) (Kd.R_far (p := ⟨gb242, 1, none⟩) (Kd.R_far (p := ⟨gb242, 0, none⟩) (Kd.R_types HO237.out BK242.out (by decide)) (fun _ hk => hk.2) (.int .i64 t238)) (fun _ hk => hk.2) (.int .i64 t239)) (fun _ hk => hk.2) (.int .u64 t240)) (fun _ h_ => h_.1))) hb); replace BK242 := A0_ (blk_below (g := gb242) (o := .cells #[.int .i64 t238, .int .i64 t239, .int .u64 t240] 72 (0, 0)) (by (with_reducible repeat first | apply bN_ | apply bD_ | apply bA_); refine blk_put (cs := #[.int .i64 t238, .int .i64 t239, .int .u64 0]) ?_ 2 _ rfl; refine blk_put (cs := #[.int .i64 t238, .int .i64 0, .int .u64 0]) ?_ 1 _ rfl; refine blk_put (cs := #[.int .i64 0, .int .i64 0, .int .u64 0]) ?_ 0 _ rfl; exact bm_ BK242.out) hb); replace HB := hs_ hb; (try clear hb); have hcz16 := bc3_ BK242.out; have hfz16 := bf3_ BK242.out) | ((with_reducible refine gate_callee (f := 58) rfl ?_); refine goesL_ (some 25) rfl rfl Tryz.func58 (by kernel_rfl) rfl #[.agg #[.int .i64 t238, .int .i64 t239, .int .u64 t240]] rfl (am_ rfl) ?_; (with_reducible refine (word_shape_none.calls t238 t239 t240 t244 _ A8.out).mono ?_); rintro e w17 ⟨rfl, hb⟩; refine ⟨_, rfl, ?_⟩; replace HO237 := A0_ (Kd.R_below (by exact rm_ HO237.out) hb); replace BK242 := bb_ BK242 hb; replace HB := hs_ hb; (try clear hb)))
   go_ret2
   exact ⟨by first | rfl | (simp [errW_none, errW_some] <;> rfl) | (simp [*, errW_none, errW_some] <;> rfl), qz_⟩
  ·rw [if_neg c7] at H
   have c7b0 : (t243 == 5) = false := beq_eq_false_iff_ne.mpr c7
   have c7b1 : (t243 != 5) = true := bne_iff_ne.mpr c7
   obtain ⟨t245, A18, H⟩ := bs_ H
   try dsimp -simprocs only at H
   simp only [Option.some.injEq, Prod.mk.injEq] at H
   obtain ⟨rfl, rfl⟩ := H
   go_enter Tryz.func60, Tryz.ntmps60
   go_wp2_with (first | ((with_reducible refine gate_dst (N := 13) rfl ?_); refine Kd.R_lit (Kd.int .u64) _ 24 ?hg (N := 13) ?hd (xs := ([a1] : List Int)) (inner := [.int .u64 a1]) (ok := fun _ => True) (okp := fun _ => True) ?hr ?hp (fun _ hk => hk) trivial (Below.refl _ _) (Nat.le_refl _) (by simp) ?_; (case hd => rfl); (case hg => rfl); (case hr => first | (go_simp; done) | (go_simp; rfl)); (case hp => exact (Reps.one (show Kd.M (Kd.int .u64) _ _ _ a1 [.int .u64 a1] from rfl) (Reps.none _ _))); intro v236 w19 ho20 hb hg_ hnew_; clear hg_ hnew_; (first | rw [← Ny235.out] at ho20 | (simp only [Int.reduceToNat] at ho20; rw [← Ny235.out] at ho20)); have HO237 := A0_ (Kd.R_lower ho20 (below_size (qm_ HB.out))); replace HB := hs_ hb; clear hb ho20; obtain ⟨Ao21, co21, eo21⟩ := Kd.R_slice HO237.out; subst eo21) | ((with_reducible refine gate_callee (f := 57) rfl ?_); refine goesL_ (some 14) rfl rfl Tryz.func57 (by kernel_rfl) rfl #[.int .u8 a0, .slice Ao21 y235.length co21] rfl (am_ rfl) ?_; (with_reducible refine (word_open.calls k a0 _ _ y235 t238 t239 t240 t241 _ ?side1 ?side2 A4.out).mono ?_); (case side1 => repeat (first | exact (Kd.R_reads' HO237.out).2.2 | (with_reducible refine Kd.C_alloc ?_ _) | (with_reducible refine Kd.C_drewN ?_ _) | (with_reducible refine Kd.C_drew ?_))); (case side2 => exact (Kd.R_reads' HO237.out).2.1); rintro e w22 ⟨rfl, hb⟩; refine ⟨_, rfl, ?_⟩; replace HO237 := A0_ (Kd.R_below (by exact rm_ HO237.out) hb); replace HB := hs_ hb; (try clear hb)) | ((with_reducible refine gate_dst (N := 8) rfl ?_); refine box_event ?hg (N := 8) ?hd (cs := #[.int .i64 0, .int .i64 0, .int .u64 0]) (t := 72) ?hr ?_; (case hd => rfl); (case hg => rfl); (case hr => first | (go_simp; done) | (go_simp; rfl)); intro gb242 hg w23 hbox hb; replace HO237 := A0_ (Kd.R_below (by exact rm_ HO237.out) hb); have BK242 := A0_ (hbox); have GW242 := A0_ ((by rw [hg]; exact (below_size (qm_ HB.out)) : w.heap.size ≤ gb242)); have GE242 := GW242; replace HB := hs_ hb; clear hb hbox hg; have hcz24 := bc3_ BK242.out; have hfz24 := bf3_ BK242.out) | ((with_reducible refine gate_callee (f := 75) rfl ?_); refine goesL_ (some 22) rfl rfl Tryz.func75 (by kernel_rfl) rfl #[.agg #[.int .i64 t238, .int .i64 t239, .int .u64 t240], .int .u64 a1] rfl (am_ rfl) ?_; (with_reducible refine (word_shape_class.calls t238 t239 t240 a1 t243 _ A6.out).mono ?_); rintro e w25 ⟨rfl, hb⟩; refine ⟨_, rfl, ?_⟩; replace HO237 := A0_ (Kd.R_below (by (with_reducible repeat (first | apply Kd.R_alloc | apply Kd.R_drewN | apply Kd.R_drew)); exact (Kd.R_mono (Kd.R_far (p := ⟨gb242, 2, none⟩) (Kd.R_far (p := ⟨gb242, 1, none⟩) (Kd.R_far (p := ⟨gb242, 0, none⟩) (Kd.R_types HO237.out BK242.out (by decide)) (fun _ hk => hk.2) (.int .i64 t238)) (fun _ hk => hk.2) (.int .i64 t239)) (fun _ hk => hk.2) (.int .u64 t240)) (fun _ h_ => h_.1))) hb); replace BK242 := A0_ (blk_below (g := gb242) (o := .cells #[.int .i64 t238, .int .i64 t239, .int .u64 t240] 72 (0, 0)) (by (with_reducible repeat first | apply bN_ | apply bD_ | apply bA_); refine blk_put (cs := #[.int .i64 t238, .int .i64 t239, .int .u64 0]) ?_ 2 _ rfl; refine blk_put (cs := #[.int .i64 t238, .int .i64 0, .int .u64 0]) ?_ 1 _ rfl; refine blk_put (cs := #[.int .i64 0, .int .i64 0, .int .u64 0]) ?_ 0 _ rfl; exact bm_ BK242.out) hb); replace HB := hs_ hb; (try clear hb); have hcz26 := bc3_ BK242.out; have hfz26 := bf3_ BK242.out) | ((with_reducible refine gate_value rfl ?_); refine goesV_ (some 28) rfl rfl FV2.out.1 FV2.out.2.1 FV2.out.2.2.1 [.agg #[.int .i64 t238, .int .i64 t239, .int .u64 t240]] fc2 rfl rfl (by (try simp only [List.map_toArray, List.map_cons, List.map_nil]); first | done | rfl) ?_; (refine (FV2.out.2.2.2 t238 t239 t240 t245 _ qz_ A18.out).mono ?_); rintro e w27 ⟨rfl, hb⟩; refine ⟨_, rfl, ?_⟩; replace HO237 := A0_ (Kd.R_below (by exact rm_ HO237.out) hb); replace BK242 := bb_ BK242 hb; replace HB := hs_ hb; (try clear hb)))
   go_ret2
   exact ⟨by first | rfl | (simp [errW_none, errW_some] <;> rfl) | (simp [*, errW_none, errW_some] <;> rfl), qz_⟩
 ·rw [if_neg c5] at H
  have c5b0 : (t241 == 0) = false := beq_eq_false_iff_ne.mpr c5
  have c5b1 : (t241 != 0) = true := bne_iff_ne.mpr c5
  simp only [Option.some.injEq, Prod.mk.injEq] at H
  obtain ⟨rfl, rfl⟩ := H
  go_enter Tryz.func60, Tryz.ntmps60
  go_wp2_with (first | ((with_reducible refine gate_dst (N := 13) rfl ?_); refine Kd.R_lit (Kd.int .u64) _ 24 ?hg (N := 13) ?hd (xs := ([a1] : List Int)) (inner := [.int .u64 a1]) (ok := fun _ => True) (okp := fun _ => True) ?hr ?hp (fun _ hk => hk) trivial (Below.refl _ _) (Nat.le_refl _) (by simp) ?_; (case hd => rfl); (case hg => rfl); (case hr => first | (go_simp; done) | (go_simp; rfl)); (case hp => exact (Reps.one (show Kd.M (Kd.int .u64) _ _ _ a1 [.int .u64 a1] from rfl) (Reps.none _ _))); intro v236 w28 ho29 hb hg_ hnew_; clear hg_ hnew_; (first | rw [← Ny235.out] at ho29 | (simp only [Int.reduceToNat] at ho29; rw [← Ny235.out] at ho29)); have HO237 := A0_ (Kd.R_lower ho29 (below_size (qm_ HB.out))); replace HB := hs_ hb; clear hb ho29; obtain ⟨Ao30, co30, eo30⟩ := Kd.R_slice HO237.out; subst eo30) | ((with_reducible refine gate_callee (f := 57) rfl ?_); refine goesL_ (some 14) rfl rfl Tryz.func57 (by kernel_rfl) rfl #[.int .u8 a0, .slice Ao30 y235.length co30] rfl (am_ rfl) ?_; (with_reducible refine (word_open.calls k a0 _ _ y235 t238 t239 t240 t241 _ ?side1 ?side2 A4.out).mono ?_); (case side1 => repeat (first | exact (Kd.R_reads' HO237.out).2.2 | (with_reducible refine Kd.C_alloc ?_ _) | (with_reducible refine Kd.C_drewN ?_ _) | (with_reducible refine Kd.C_drew ?_))); (case side2 => exact (Kd.R_reads' HO237.out).2.1); rintro e w31 ⟨rfl, hb⟩; refine ⟨_, rfl, ?_⟩; replace HO237 := A0_ (Kd.R_below (by exact rm_ HO237.out) hb); replace HB := hs_ hb; (try clear hb)) | ((with_reducible refine gate_dst (N := 8) rfl ?_); refine box_event ?hg (N := 8) ?hd (cs := #[.int .i64 0, .int .i64 0, .int .u64 0]) (t := 72) ?hr ?_; (case hd => rfl); (case hg => rfl); (case hr => first | (go_simp; done) | (go_simp; rfl)); intro gb242 hg w32 hbox hb; replace HO237 := A0_ (Kd.R_below (by exact rm_ HO237.out) hb); have BK242 := A0_ (hbox); have GW242 := A0_ ((by rw [hg]; exact (below_size (qm_ HB.out)) : w.heap.size ≤ gb242)); have GE242 := GW242; replace HB := hs_ hb; clear hb hbox hg; have hcz33 := bc3_ BK242.out; have hfz33 := bf3_ BK242.out))
  go_ret2
  exact ⟨by first | rfl | (simp [errW_none, errW_some] <;> rfl) | (simp [*, errW_none, errW_some] <;> rfl), qz_⟩
def word_Neg_1.f (a0 a1 a2 c0 : Int) : Option Int := some (Go.bits .xor .u64 c0 a2)
set_option maxRecDepth 100000 in
theorem word_Neg_1.calls (a0 a1 a2 c0 : Int) (b0 : Nat) (r : Int) (w : World) (hc0 : w.cell? ⟨b0, 0, none⟩ = some (.int .u64 c0)) (h : word_Neg_1.f a0 a1 a2 c0 = some r) :
  Calls Tryz.prog 61 #[.agg #[.int .i64 a0, .int .i64 a1, .int .u64 a2], .pointer (some ⟨b0, 0, none⟩)] w fun e w' => e = .returned (.int .u64 r) ∧ Below w.heap.size w w' := by
 obtain rfl := Option.some.inj h
 have hlt : b0 < w.heap.size := World.block_lt_of_cell? w (a := ⟨b0, 0, none⟩) hc0
 have hc1 : ∀ o, (w.alloc o).cell? ⟨b0, 0, none⟩ = some (.int .u64 c0) := fun o => (World.cell?_alloc_lt (a := ⟨b0, 0, none⟩) _ _ hlt).trans hc0
 clear hc0
 go_enter Tryz.func61, Tryz.ntmps61
 go_wp2
 go_ret
 exact ⟨rfl, below_alloc (Below.refl _ _) _⟩
def word_Neg.f (k : Nat) (a0 : Int) (a1 : Int) : Option (Int × Int) := (word_turned.f k a0 a1 (fun s0_ s1_ s2_ => word_Neg_1.f s0_ s1_ s2_ (a1))).bind fun bt247 => (some (bt247.1, bt247.2))
theorem word_Neg.mono : ∀ a0 a1 k, LeO (word_Neg.f k a0 a1) (word_Neg.f (k + 1) a0 a1) := by
 intro a0 a1 k
 unfold word_Neg.f
 repeat' first
   | (with_reducible exact word_turned.mono _ _ _ _)
   | (with_reducible exact LeO.refl _)
   | (with_reducible exact LeO.none _)
   | (with_reducible refine LeO.ite ?_ ?_)
   | (with_reducible refine LeO.bind ?_ (fun _ => ?_))
   | exact word_turned.mono _ _ _ _
   | exact LeO.none _
   | refine LeO.ite ?_ ?_
   | refine LeO.bind ?_ (fun _ => ?_)
theorem word_Neg.calls (k : Nat) (a0 : Int) (a1 : Int) (r1 : Int) (r2 : Int) (w : World) (h : word_Neg.f k a0 a1 = some (r1, r2)) :
  Calls Tryz.prog 36 #[.int .u8 a0, .int .u64 a1] w fun e w' => e = .returned (.tuple #[.int .u64 r1, .int .i64 r2]) ∧ Below w.heap.size w w' := by
 have HB := A0_ (Below.refl w.heap.size w)
 have H := h
 clear h
 unfold word_Neg.f at H
 obtain ⟨⟨t247, t248⟩, A3, H⟩ := bs_ H
 try dsimp -simprocs only at H
 simp only [Option.some.injEq, Prod.mk.injEq] at H
 obtain ⟨rfl, rfl⟩ := H
 go_enter Tryz.func36, Tryz.ntmps36
 go_wp2_with (first | ((with_reducible refine gate_dst (N := 3) rfl ?_); refine box_event ?hg (N := 3) ?hd (cs := #[.int .u64 a1]) (t := 24) ?hr ?_; (case hd => rfl); (case hg => rfl); (case hr => first | (go_simp; done) | (go_simp; rfl)); intro gb246 hg w4 hbox hb; have BK246 := A0_ (hbox); have GW246 := A0_ ((by rw [hg]; exact (below_size (qm_ HB.out)) : w.heap.size ≤ gb246)); have GE246 := GW246; replace HB := hs_ hb; clear hb hbox hg; have hcz5_0 : w4.cell? ⟨gb246, 0, none⟩ = some (.int .u64 a1) := (blk_cell BK246.out 0).trans rfl; have hfz5_0 := blk_frozen BK246.out 0) | ((with_reducible refine gate_callee (f := 60) rfl ?_); refine goesL_ (some 9) rfl rfl Tryz.func60 (by kernel_rfl) rfl #[.int .u8 a0, .int .u64 a1, .func (.func 61) #[] #[.pointer (some ⟨gb246, 0, none⟩)]] rfl (am_ rfl) ?_; (refine (word_turned.calls (fg2 := 61) (fn2 := Tryz.f61) (fc2 := [.pointer (some ⟨gb246, 0, none⟩)]) (FV2 := A0_ ⟨Tryz.func61, by kernel_rfl, rfl, fun s0_ s1_ s2_ q0_ w_ hbw_ hh_ => word_Neg_1.calls s0_ s1_ s2_ (a1) gb246 q0_  w_ (by exact (blk_cell (blk_below (bm_ BK246.out) hbw_) 0).trans rfl) hh_⟩) k a0 a1 (fun s0_ s1_ s2_ => word_Neg_1.f s0_ s1_ s2_ (a1)) t247 t248 _ A3.out).mono ?_); rintro e w6 ⟨rfl, hb⟩; refine ⟨_, rfl, ?_⟩; replace BK246 := bb_ BK246 hb; replace HB := hs_ hb; (try clear hb)))
 go_ret2
 exact ⟨by first | rfl | (simp [errW_none, errW_some] <;> rfl) | (simp [*, errW_none, errW_some] <;> rfl), qz_⟩
end Go.Proofs.YtlgapmhjaaajfaaGreat.PA
end

section
namespace Go.Proofs.YtlgapmhjaaajfaaGreat.PA
open Go.RowKit Go.Proofs.YtlgapmhjaaajfaaGreatW.PrintWords Go.Proofs.YtlgapmhjaaajfaaGreatW.PrintLast Go.Proofs.YtlgapmhjaaajfaaGreatW.PrintMore
attribute [local go_sem] max2_int min2_int max_two min_two max_three min_three max_four min_four   -- for this text's walks alone
set_option linter.unusedVariables false
set_option linter.unusedSimpArgs false
/-- a part of the number: what is not nought becomes a word of the size -/
def special_box_words.p (k : Nat) (f n : Int) (g : Bool) (size : Int) : Option Int := if g then (word_Neg.f k f (if n = 0 then 0 else size)).bind fun x => some x.1 else some (if n = 0 then 0 else size)
def special_box_words.f (k : Nat) (a0_0 : Int) (a0_1 : Bool) (a0_2 : Int) (a0_3 : Bool) (a1 a2 : Int) : Option (Int × Int) := (special_box_words.p k a1 a0_0 a0_1 a2).bind fun x => (special_box_words.p k a1 a0_2 a0_3 a2).bind fun y => some (x, y)
theorem special_box_words.mono_p (k : Nat) (f n : Int) (g : Bool) (size : Int) : LeO (special_box_words.p k f n g size) (special_box_words.p (k + 1) f n g size) := by
 unfold special_box_words.p
 exact LeO.ite (LeO.bind (word_Neg.mono _ _ _) (fun _ => LeO.refl _)) (LeO.refl _)
theorem special_box_words.mono : ∀ a0 a1 a2 a3 a4 a5 k, LeO (special_box_words.f k a0 a1 a2 a3 a4 a5) (special_box_words.f (k + 1) a0 a1 a2 a3 a4 a5) := by
 intro a0 a1 a2 a3 a4 a5 k
 unfold special_box_words.f
 exact LeO.bind (special_box_words.mono_p _ _ _ _ _) (fun _ => LeO.bind (special_box_words.mono_p _ _ _ _ _) (fun _ => LeO.refl _))
set_option maxHeartbeats 4000000 in
set_option maxRecDepth 100000 in
theorem special_box_words.calls (k : Nat) (a0_0 : Int) (a0_1 : Bool) (a0_2 : Int) (a0_3 : Bool) (a1 : Int) (a2 : Int) (r1 : Int) (r2 : Int) (w : World) (h : special_box_words.f k a0_0 a0_1 a0_2 a0_3 a1 a2 = some (r1, r2)) :
  Calls Tryz.prog 14 #[.agg #[.int .i64 a0_0, .bool a0_1, .int .i64 a0_2, .bool a0_3], .int .u8 a1, .int .u64 a2] w fun e w' => e = .returned (.agg #[.int .u64 r1, .int .u64 r2]) ∧ Below w.heap.size w w' := by
 have hix0 : ∀ w : World, (Instr.index 48 (.agg #[.int .i64 a0_0, .bool a0_1, .int .i64 a0_2, .bool a0_3]) (.int .i64 0)).run Tryz.prog w = .ok (.agg #[.int .i64 a0_0, .bool a0_1]) w := fun _ => by kernel_rfl
 have hix1 : ∀ w : World, (Instr.index 48 (.agg #[.int .i64 a0_0, .bool a0_1, .int .i64 a0_2, .bool a0_3]) (.int .i64 1)).run Tryz.prog w = .ok (.agg #[.int .i64 a0_2, .bool a0_3]) w := fun _ => by kernel_rfl
 have hia0 : ∀ (g : Nat) (w : World), (Instr.indexAt 77 (.pointer (some ⟨g, 0, none⟩)) (.int .i64 0)).run Tryz.prog w = .ok (.pointer (some ⟨g, 0, none⟩)) w := fun _ _ => by kernel_rfl
 have hia1 : ∀ (g : Nat) (w : World), (Instr.indexAt 77 (.pointer (some ⟨g, 0, none⟩)) (.int .i64 1)).run Tryz.prog w = .ok (.pointer (some ⟨g, 1, none⟩)) w := fun _ _ => by kernel_rfl
 have HB := A0_ (Below.refl w.heap.size w)
 unfold special_box_words.f at h
 obtain ⟨p0, hp0, h⟩ := Option.bind_eq_some_iff.mp h
 obtain ⟨p1, hp1, h⟩ := Option.bind_eq_some_iff.mp h
 simp only [Option.some.injEq, Prod.mk.injEq] at h
 obtain ⟨rfl, rfl⟩ := h
 have HP0 := A0_ hp0
 have HP1 := A0_ hp1
 clear hp0 hp1
 go_enter Tryz.func14, Tryz.ntmps14
 go_wp2_with (first | ((with_reducible refine gate_dst (N := 3) rfl ?_); refine box_event ?hg (N := 3) ?hd (cs := #[.int .i64 a0_0, .bool a0_1, .int .i64 a0_2, .bool a0_3]) (t := 48) ?hr ?_; (case hd => rfl); (case hg => rfl); (case hr => first | (go_simp; done) | (go_simp; rfl)); intro gb3 hg w3 hbox hb;  have BK3 := A0_ hbox; have GE3 := A0_ ((by rw [hg]; exact (below_size (qm_ HB.out))) : w.heap.size ≤ gb3); replace HB := hs_ hb; clear hb hbox hg; have hcz3 := bc4_ BK3.out) | ((with_reducible refine gate_dst (N := 6) rfl ?_); refine box_event ?hg (N := 6) ?hd (cs := #[.int .u64 0, .int .u64 0]) (t := 26) ?hr ?_; (case hd => rfl); (case hg => rfl); (case hr => first | (go_simp; done) | (go_simp; rfl)); intro gb6 hg w6 hbox hb; clear hcz3; have nb_ := A0_ (blk_below BK3.out hb); clear BK3; have BK3 := nb_; clear nb_;  have BK6 := A0_ hbox; have GE6 := A0_ ((by rw [hg]; exact (below_size (qm_ HB.out))) : w.heap.size ≤ gb6); replace HB := hs_ hb; clear hb hbox hg; have hcz3 := bc4_ BK3.out) | ((with_reducible refine gate_dst (N := 7) rfl ?_); refine box_event ?hg (N := 7) ?hd (cs := #[.int .u64 0, .int .u64 0]) (t := 77) ?hr ?_; (case hd => rfl); (case hg => rfl); (case hr => first | (go_simp; done) | (go_simp; rfl)); intro gb7 hg w7 hbox hb; have LT6 := blk_lt BK6.out; clear hcz3; have nb_ := A0_ (blk_below BK3.out hb); clear BK3; have BK3 := nb_; clear nb_; have nb_ := A0_ (blk_below BK6.out hb); clear BK6; have BK6 := nb_; clear nb_; have BK7 := A0_ hbox; have GE7 := A0_ ((by rw [hg]; exact (below_size (qm_ HB.out))) : w.heap.size ≤ gb7); replace HB := hs_ hb; have NE67 := A0_ ((by rw [hg]; exact Nat.ne_of_lt LT6) : gb6 ≠ gb7); clear LT6 hb hbox hg; have hcz3 := bc4_ BK3.out))
 clear hcz3 BK3
 go_loopg [11] 2 (fun kq v11 w' => ∃ (i l0 l1 : Int), v11 = .int .i64 i ∧ Aside0 ((i = 0 ∧ kq = 2 ∧ l0 = 0 ∧ l1 = 0) ∨ (i = 1 ∧ kq = 1 ∧ l0 = p0 ∧ l1 = 0) ∨ (i = 2 ∧ kq = 0 ∧ l0 = p0 ∧ l1 = p1)) ∧ Aside0 (w'.heap[gb6]? = some (.cells #[.int .u64 0, .int .u64 0] 26 (0, 0))) ∧ Aside0 (w'.heap[gb7]? = some (.cells #[.int .u64 l0, .int .u64 l1] 77 (0, 0))) ∧ Aside0 (Below w.heap.size w w'))
 case atStart => exact ⟨0, 0, 0, rfl, ⟨.inl ⟨rfl, rfl, rfl, rfl⟩⟩, BK6, BK7, HB⟩
 case round =>
  clear BK6 BK7 HB
  obtain ⟨i, l0, l1, rfl, HI, BK6, BK7, HB⟩ := hrel
  rcases HI.out with ⟨rfl, rfl, rfl, rfl⟩ | ⟨rfl, rfl, rfl, rfl⟩ | ⟨rfl, rfl, rfl, rfl⟩
  ·clear HI
   by_cases c : a0_0 = 0 <;> cases a0_1
   ·have hz_ : (a0_0 != 0) = false := by rw [c]; rfl
    have H := HP0.out
    simp only [special_box_words.p, Bool.false_eq_true, if_true, if_false, c] at H
    have HX := A0_ (Option.some.inj H)
    clear H
    have C_ := A0_ c
    clear c
    go_upto_region 9 with (first | ((with_reducible refine gate_dst (N := 9) rfl ?_); refine box_event ?hg (N := 9) ?hd (cs := #[.int .i64 0, .bool false]) (t := 46) ?hr ?_; (case hd => rfl); (case hg => rfl); (case hr => first | (go_simp; done) | (go_simp; rfl)); intro gb9 hg w9 hbox hb; have LT7 := blk_lt BK7.out; have LT6 := blk_lt BK6.out; have nb_ := A0_ (blk_below BK6.out hb); clear BK6; have BK6 := nb_; clear nb_; have nb_ := A0_ (blk_below BK7.out hb); clear BK7; have BK7 := nb_; clear nb_; have BK9 := A0_ hbox; have GE9 := A0_ ((by rw [hg]; exact (below_size (qm_ HB.out))) : w.heap.size ≤ gb9); replace HB := hs_ hb; have NE79 := A0_ ((by rw [hg]; exact Nat.ne_of_lt LT7) : gb7 ≠ gb9); have NE69 := A0_ ((by rw [hg]; exact Nat.ne_of_lt LT6) : gb6 ≠ gb9); clear LT6 LT7 hb hbox hg; have h97 := Ne.symm NE79.out; have h79 := NE79.out; have hcz9_0 : w9.cell? ⟨gb9, 0, none⟩ = some (.int .i64 0) := (blk_cell BK9.out 0).trans rfl; have hfz9_0 := blk_frozen BK9.out 0; have hcz9_1 : w9.cell? ⟨gb9, 1, none⟩ = some (.bool false) := (blk_cell BK9.out 1).trans rfl; have hfz9_1 := blk_frozen BK9.out 1;have hcz7_0 : w9.cell? ⟨gb7, 0, none⟩ = some (.int .u64 0) := (blk_cell BK7.out 0).trans rfl; have hfz7_0 := blk_frozen BK7.out 0; have hcz7_1 : w9.cell? ⟨gb7, 1, none⟩ = some (.int .u64 0) := (blk_cell BK7.out 1).trans rfl; have hfz7_1 := blk_frozen BK7.out 1))
    have f7_ := (blk_far (blk_far BK7.out (p := ⟨gb9, 0, none⟩) NE79.out (.int .i64 a0_0)) (p := ⟨gb9, 1, none⟩) NE79.out (.bool false))
    have f6_ := (blk_far (blk_far BK6.out (p := ⟨gb9, 0, none⟩) NE69.out (.int .i64 a0_0)) (p := ⟨gb9, 1, none⟩) NE69.out (.bool false))
    have fb_ := (below_set (below_set HB.out GE9.out (j := 0) (v := .int .i64 a0_0)) GE9.out (j := 1) (v := .bool false))
    go_wp2
    go_roundg 1
    case measure => omega
    case rel => exact ⟨1, _, _, rfl, ⟨.inr (.inl ⟨rfl, rfl, rfl, rfl⟩)⟩, ⟨f6_⟩, ⟨by rw [← HX.out]; exact f7_⟩, ⟨fb_⟩⟩
   ·have hz_ : (a0_0 != 0) = false := by rw [c]; rfl
    have H := HP0.out
    simp only [special_box_words.p, Bool.false_eq_true, if_true, if_false, c] at H
    obtain ⟨⟨x_, xe_⟩, AX_, HX_⟩ := Option.bind_eq_some_iff.mp H
    have HX := A0_ (Option.some.inj HX_)
    have AX := A0_ AX_
    clear AX_ HX_ H
    have C_ := A0_ c
    clear c
    go_upto_region 9 with (first | ((with_reducible refine gate_dst (N := 9) rfl ?_); refine box_event ?hg (N := 9) ?hd (cs := #[.int .i64 0, .bool false]) (t := 46) ?hr ?_; (case hd => rfl); (case hg => rfl); (case hr => first | (go_simp; done) | (go_simp; rfl)); intro gb9 hg w9 hbox hb; have LT7 := blk_lt BK7.out; have LT6 := blk_lt BK6.out; have nb_ := A0_ (blk_below BK6.out hb); clear BK6; have BK6 := nb_; clear nb_; have nb_ := A0_ (blk_below BK7.out hb); clear BK7; have BK7 := nb_; clear nb_; have BK9 := A0_ hbox; have GE9 := A0_ ((by rw [hg]; exact (below_size (qm_ HB.out))) : w.heap.size ≤ gb9); replace HB := hs_ hb; have NE79 := A0_ ((by rw [hg]; exact Nat.ne_of_lt LT7) : gb7 ≠ gb9); have NE69 := A0_ ((by rw [hg]; exact Nat.ne_of_lt LT6) : gb6 ≠ gb9); clear LT6 LT7 hb hbox hg; have h97 := Ne.symm NE79.out; have h79 := NE79.out; have hcz9_0 : w9.cell? ⟨gb9, 0, none⟩ = some (.int .i64 0) := (blk_cell BK9.out 0).trans rfl; have hfz9_0 := blk_frozen BK9.out 0; have hcz9_1 : w9.cell? ⟨gb9, 1, none⟩ = some (.bool false) := (blk_cell BK9.out 1).trans rfl; have hfz9_1 := blk_frozen BK9.out 1;have hcz7_0 : w9.cell? ⟨gb7, 0, none⟩ = some (.int .u64 0) := (blk_cell BK7.out 0).trans rfl; have hfz7_0 := blk_frozen BK7.out 0; have hcz7_1 : w9.cell? ⟨gb7, 1, none⟩ = some (.int .u64 0) := (blk_cell BK7.out 1).trans rfl; have hfz7_1 := blk_frozen BK7.out 1) | (go_at_call 36; (with_reducible refine (word_Neg.calls k a1 0 x_ xe_ _ AX.out).mono ?_); rintro e wn ⟨rfl, hb⟩; have n7_ := A0_ (blk_below (blk_far (blk_far BK7.out (p := ⟨gb9, 0, none⟩) NE79.out (.int .i64 a0_0)) (p := ⟨gb9, 1, none⟩) NE79.out (.bool true)) hb); have n6_ := A0_ (blk_below (blk_far (blk_far BK6.out (p := ⟨gb9, 0, none⟩) NE69.out (.int .i64 a0_0)) (p := ⟨gb9, 1, none⟩) NE69.out (.bool true)) hb); have n1_ := A0_ (below_step (below_set (below_set HB.out GE9.out (j := 0) (v := .int .i64 a0_0)) GE9.out (j := 1) (v := .bool true)) hb); clear BK7 BK6 HB; have BK7 := n7_; have BK6 := n6_; have HB := n1_; clear n1_ n6_ n7_ hb hcz7_0 hfz7_0 hcz7_1 hfz7_1 hcz9_0 hfz9_0 hcz9_1 hfz9_1; have hcz7_0 : wn.cell? ⟨gb7, 0, none⟩ = some (.int .u64 0) := (blk_cell BK7.out 0).trans rfl; have hfz7_0 := blk_frozen BK7.out 0))
    have f7_ := (blk_set BK7.out 0 (.int .u64 x_))
    have f6_ := (blk_far BK6.out (p := ⟨gb7, 0, none⟩) NE67.out (.int .u64 x_))
    have fb_ := (below_set HB.out GE7.out (j := 0) (v := .int .u64 x_))
    have ex_ := HX.out
    clear HX
    subst ex_
    go_wp2
    go_roundg 1
    case measure => omega
    case rel => exact ⟨1, _, _, rfl, ⟨.inr (.inl ⟨rfl, rfl, rfl, rfl⟩)⟩, ⟨f6_⟩, ⟨f7_⟩, ⟨fb_⟩⟩
   ·have hz_ : (a0_0 != 0) = true := bne_iff_ne.mpr c
    have H := HP0.out
    simp only [special_box_words.p, Bool.false_eq_true, if_true, if_false, c] at H
    have HX := A0_ (Option.some.inj H)
    clear H
    have C_ := A0_ c
    clear c
    go_upto_region 9 with (first | ((with_reducible refine gate_dst (N := 9) rfl ?_); refine box_event ?hg (N := 9) ?hd (cs := #[.int .i64 0, .bool false]) (t := 46) ?hr ?_; (case hd => rfl); (case hg => rfl); (case hr => first | (go_simp; done) | (go_simp; rfl)); intro gb9 hg w9 hbox hb; have LT7 := blk_lt BK7.out; have LT6 := blk_lt BK6.out; have nb_ := A0_ (blk_below BK6.out hb); clear BK6; have BK6 := nb_; clear nb_; have nb_ := A0_ (blk_below BK7.out hb); clear BK7; have BK7 := nb_; clear nb_; have BK9 := A0_ hbox; have GE9 := A0_ ((by rw [hg]; exact (below_size (qm_ HB.out))) : w.heap.size ≤ gb9); replace HB := hs_ hb; have NE79 := A0_ ((by rw [hg]; exact Nat.ne_of_lt LT7) : gb7 ≠ gb9); have NE69 := A0_ ((by rw [hg]; exact Nat.ne_of_lt LT6) : gb6 ≠ gb9); clear LT6 LT7 hb hbox hg; have h97 := Ne.symm NE79.out; have h79 := NE79.out; have hcz9_0 : w9.cell? ⟨gb9, 0, none⟩ = some (.int .i64 0) := (blk_cell BK9.out 0).trans rfl; have hfz9_0 := blk_frozen BK9.out 0; have hcz9_1 : w9.cell? ⟨gb9, 1, none⟩ = some (.bool false) := (blk_cell BK9.out 1).trans rfl; have hfz9_1 := blk_frozen BK9.out 1;have hcz7_0 : w9.cell? ⟨gb7, 0, none⟩ = some (.int .u64 0) := (blk_cell BK7.out 0).trans rfl; have hfz7_0 := blk_frozen BK7.out 0; have hcz7_1 : w9.cell? ⟨gb7, 1, none⟩ = some (.int .u64 0) := (blk_cell BK7.out 1).trans rfl; have hfz7_1 := blk_frozen BK7.out 1))
    have f7_ := (blk_set (blk_far (blk_far BK7.out (p := ⟨gb9, 0, none⟩) NE79.out (.int .i64 a0_0)) (p := ⟨gb9, 1, none⟩) NE79.out (.bool false)) 0 (.int .u64 a2))
    have f6_ := (blk_far (blk_far (blk_far BK6.out (p := ⟨gb9, 0, none⟩) NE69.out (.int .i64 a0_0)) (p := ⟨gb9, 1, none⟩) NE69.out (.bool false)) (p := ⟨gb7, 0, none⟩) NE67.out (.int .u64 a2))
    have fb_ := (below_set (below_set (below_set HB.out GE9.out (j := 0) (v := .int .i64 a0_0)) GE9.out (j := 1) (v := .bool false)) GE7.out (j := 0) (v := .int .u64 a2))
    go_wp2
    go_roundg 1
    case measure => omega
    case rel => exact ⟨1, _, _, rfl, ⟨.inr (.inl ⟨rfl, rfl, rfl, rfl⟩)⟩, ⟨f6_⟩, ⟨by rw [← HX.out]; exact f7_⟩, ⟨fb_⟩⟩
   ·have hz_ : (a0_0 != 0) = true := bne_iff_ne.mpr c
    have H := HP0.out
    simp only [special_box_words.p, Bool.false_eq_true, if_true, if_false, c] at H
    obtain ⟨⟨x_, xe_⟩, AX_, HX_⟩ := Option.bind_eq_some_iff.mp H
    have HX := A0_ (Option.some.inj HX_)
    have AX := A0_ AX_
    clear AX_ HX_ H
    have C_ := A0_ c
    clear c
    go_upto_region 9 with (first | ((with_reducible refine gate_dst (N := 9) rfl ?_); refine box_event ?hg (N := 9) ?hd (cs := #[.int .i64 0, .bool false]) (t := 46) ?hr ?_; (case hd => rfl); (case hg => rfl); (case hr => first | (go_simp; done) | (go_simp; rfl)); intro gb9 hg w9 hbox hb; have LT7 := blk_lt BK7.out; have LT6 := blk_lt BK6.out; have nb_ := A0_ (blk_below BK6.out hb); clear BK6; have BK6 := nb_; clear nb_; have nb_ := A0_ (blk_below BK7.out hb); clear BK7; have BK7 := nb_; clear nb_; have BK9 := A0_ hbox; have GE9 := A0_ ((by rw [hg]; exact (below_size (qm_ HB.out))) : w.heap.size ≤ gb9); replace HB := hs_ hb; have NE79 := A0_ ((by rw [hg]; exact Nat.ne_of_lt LT7) : gb7 ≠ gb9); have NE69 := A0_ ((by rw [hg]; exact Nat.ne_of_lt LT6) : gb6 ≠ gb9); clear LT6 LT7 hb hbox hg; have h97 := Ne.symm NE79.out; have h79 := NE79.out; have hcz9_0 : w9.cell? ⟨gb9, 0, none⟩ = some (.int .i64 0) := (blk_cell BK9.out 0).trans rfl; have hfz9_0 := blk_frozen BK9.out 0; have hcz9_1 : w9.cell? ⟨gb9, 1, none⟩ = some (.bool false) := (blk_cell BK9.out 1).trans rfl; have hfz9_1 := blk_frozen BK9.out 1;have hcz7_0 : w9.cell? ⟨gb7, 0, none⟩ = some (.int .u64 0) := (blk_cell BK7.out 0).trans rfl; have hfz7_0 := blk_frozen BK7.out 0; have hcz7_1 : w9.cell? ⟨gb7, 1, none⟩ = some (.int .u64 0) := (blk_cell BK7.out 1).trans rfl; have hfz7_1 := blk_frozen BK7.out 1) | (go_at_call 36; (with_reducible refine (word_Neg.calls k a1 a2 x_ xe_ _ AX.out).mono ?_); rintro e wn ⟨rfl, hb⟩; have n7_ := A0_ (blk_below (blk_set (blk_far (blk_far BK7.out (p := ⟨gb9, 0, none⟩) NE79.out (.int .i64 a0_0)) (p := ⟨gb9, 1, none⟩) NE79.out (.bool true)) 0 (.int .u64 a2)) hb); have n6_ := A0_ (blk_below (blk_far (blk_far (blk_far BK6.out (p := ⟨gb9, 0, none⟩) NE69.out (.int .i64 a0_0)) (p := ⟨gb9, 1, none⟩) NE69.out (.bool true)) (p := ⟨gb7, 0, none⟩) NE67.out (.int .u64 a2)) hb); have n1_ := A0_ (below_step (below_set (below_set (below_set HB.out GE9.out (j := 0) (v := .int .i64 a0_0)) GE9.out (j := 1) (v := .bool true)) GE7.out (j := 0) (v := .int .u64 a2)) hb); clear BK7 BK6 HB; have BK7 := n7_; have BK6 := n6_; have HB := n1_; clear n1_ n6_ n7_ hb hcz7_0 hfz7_0 hcz7_1 hfz7_1 hcz9_0 hfz9_0 hcz9_1 hfz9_1; have hcz7_0 : wn.cell? ⟨gb7, 0, none⟩ = some (.int .u64 a2) := (blk_cell BK7.out 0).trans rfl; have hfz7_0 := blk_frozen BK7.out 0))
    have f7_ := (blk_set BK7.out 0 (.int .u64 x_))
    have f6_ := (blk_far BK6.out (p := ⟨gb7, 0, none⟩) NE67.out (.int .u64 x_))
    have fb_ := (below_set HB.out GE7.out (j := 0) (v := .int .u64 x_))
    have ex_ := HX.out
    clear HX
    subst ex_
    go_wp2
    go_roundg 1
    case measure => omega
    case rel => exact ⟨1, _, _, rfl, ⟨.inr (.inl ⟨rfl, rfl, rfl, rfl⟩)⟩, ⟨f6_⟩, ⟨f7_⟩, ⟨fb_⟩⟩
  ·clear HI
   by_cases c : a0_2 = 0 <;> cases a0_3
   ·have hz_ : (a0_2 != 0) = false := by rw [c]; rfl
    have H := HP1.out
    simp only [special_box_words.p, Bool.false_eq_true, if_true, if_false, c] at H
    have HX := A0_ (Option.some.inj H)
    clear H
    have C_ := A0_ c
    clear c
    go_upto_region 9 with (first | ((with_reducible refine gate_dst (N := 9) rfl ?_); refine box_event ?hg (N := 9) ?hd (cs := #[.int .i64 0, .bool false]) (t := 46) ?hr ?_; (case hd => rfl); (case hg => rfl); (case hr => first | (go_simp; done) | (go_simp; rfl)); intro gb9 hg w9 hbox hb; have LT7 := blk_lt BK7.out; have LT6 := blk_lt BK6.out; have nb_ := A0_ (blk_below BK6.out hb); clear BK6; have BK6 := nb_; clear nb_; have nb_ := A0_ (blk_below BK7.out hb); clear BK7; have BK7 := nb_; clear nb_; have BK9 := A0_ hbox; have GE9 := A0_ ((by rw [hg]; exact (below_size (qm_ HB.out))) : w.heap.size ≤ gb9); replace HB := hs_ hb; have NE79 := A0_ ((by rw [hg]; exact Nat.ne_of_lt LT7) : gb7 ≠ gb9); have NE69 := A0_ ((by rw [hg]; exact Nat.ne_of_lt LT6) : gb6 ≠ gb9); clear LT6 LT7 hb hbox hg; have h97 := Ne.symm NE79.out; have h79 := NE79.out; have hcz9_0 : w9.cell? ⟨gb9, 0, none⟩ = some (.int .i64 0) := (blk_cell BK9.out 0).trans rfl; have hfz9_0 := blk_frozen BK9.out 0; have hcz9_1 : w9.cell? ⟨gb9, 1, none⟩ = some (.bool false) := (blk_cell BK9.out 1).trans rfl; have hfz9_1 := blk_frozen BK9.out 1;have hcz7_0 : w9.cell? ⟨gb7, 0, none⟩ = some (.int .u64 l0) := (blk_cell BK7.out 0).trans rfl; have hfz7_0 := blk_frozen BK7.out 0; have hcz7_1 : w9.cell? ⟨gb7, 1, none⟩ = some (.int .u64 0) := (blk_cell BK7.out 1).trans rfl; have hfz7_1 := blk_frozen BK7.out 1))
    have f7_ := (blk_far (blk_far BK7.out (p := ⟨gb9, 0, none⟩) NE79.out (.int .i64 a0_2)) (p := ⟨gb9, 1, none⟩) NE79.out (.bool false))
    have f6_ := (blk_far (blk_far BK6.out (p := ⟨gb9, 0, none⟩) NE69.out (.int .i64 a0_2)) (p := ⟨gb9, 1, none⟩) NE69.out (.bool false))
    have fb_ := (below_set (below_set HB.out GE9.out (j := 0) (v := .int .i64 a0_2)) GE9.out (j := 1) (v := .bool false))
    go_wp2
    go_roundg 0
    case measure => omega
    case rel => exact ⟨2, _, _, rfl, ⟨.inr (.inr ⟨rfl, rfl, rfl, rfl⟩)⟩, ⟨f6_⟩, ⟨by rw [← HX.out]; exact f7_⟩, ⟨fb_⟩⟩
   ·have hz_ : (a0_2 != 0) = false := by rw [c]; rfl
    have H := HP1.out
    simp only [special_box_words.p, Bool.false_eq_true, if_true, if_false, c] at H
    obtain ⟨⟨x_, xe_⟩, AX_, HX_⟩ := Option.bind_eq_some_iff.mp H
    have HX := A0_ (Option.some.inj HX_)
    have AX := A0_ AX_
    clear AX_ HX_ H
    have C_ := A0_ c
    clear c
    go_upto_region 9 with (first | ((with_reducible refine gate_dst (N := 9) rfl ?_); refine box_event ?hg (N := 9) ?hd (cs := #[.int .i64 0, .bool false]) (t := 46) ?hr ?_; (case hd => rfl); (case hg => rfl); (case hr => first | (go_simp; done) | (go_simp; rfl)); intro gb9 hg w9 hbox hb; have LT7 := blk_lt BK7.out; have LT6 := blk_lt BK6.out; have nb_ := A0_ (blk_below BK6.out hb); clear BK6; have BK6 := nb_; clear nb_; have nb_ := A0_ (blk_below BK7.out hb); clear BK7; have BK7 := nb_; clear nb_; have BK9 := A0_ hbox; have GE9 := A0_ ((by rw [hg]; exact (below_size (qm_ HB.out))) : w.heap.size ≤ gb9); replace HB := hs_ hb; have NE79 := A0_ ((by rw [hg]; exact Nat.ne_of_lt LT7) : gb7 ≠ gb9); have NE69 := A0_ ((by rw [hg]; exact Nat.ne_of_lt LT6) : gb6 ≠ gb9); clear LT6 LT7 hb hbox hg; have h97 := Ne.symm NE79.out; have h79 := NE79.out; have hcz9_0 : w9.cell? ⟨gb9, 0, none⟩ = some (.int .i64 0) := (blk_cell BK9.out 0).trans rfl; have hfz9_0 := blk_frozen BK9.out 0; have hcz9_1 : w9.cell? ⟨gb9, 1, none⟩ = some (.bool false) := (blk_cell BK9.out 1).trans rfl; have hfz9_1 := blk_frozen BK9.out 1;have hcz7_0 : w9.cell? ⟨gb7, 0, none⟩ = some (.int .u64 l0) := (blk_cell BK7.out 0).trans rfl; have hfz7_0 := blk_frozen BK7.out 0; have hcz7_1 : w9.cell? ⟨gb7, 1, none⟩ = some (.int .u64 0) := (blk_cell BK7.out 1).trans rfl; have hfz7_1 := blk_frozen BK7.out 1) | (go_at_call 36; (with_reducible refine (word_Neg.calls k a1 0 x_ xe_ _ AX.out).mono ?_); rintro e wn ⟨rfl, hb⟩; have n7_ := A0_ (blk_below (blk_far (blk_far BK7.out (p := ⟨gb9, 0, none⟩) NE79.out (.int .i64 a0_2)) (p := ⟨gb9, 1, none⟩) NE79.out (.bool true)) hb); have n6_ := A0_ (blk_below (blk_far (blk_far BK6.out (p := ⟨gb9, 0, none⟩) NE69.out (.int .i64 a0_2)) (p := ⟨gb9, 1, none⟩) NE69.out (.bool true)) hb); have n1_ := A0_ (below_step (below_set (below_set HB.out GE9.out (j := 0) (v := .int .i64 a0_2)) GE9.out (j := 1) (v := .bool true)) hb); clear BK7 BK6 HB; have BK7 := n7_; have BK6 := n6_; have HB := n1_; clear n1_ n6_ n7_ hb hcz7_0 hfz7_0 hcz7_1 hfz7_1 hcz9_0 hfz9_0 hcz9_1 hfz9_1; have hcz7_1 : wn.cell? ⟨gb7, 1, none⟩ = some (.int .u64 0) := (blk_cell BK7.out 1).trans rfl; have hfz7_1 := blk_frozen BK7.out 1))
    have f7_ := (blk_set BK7.out 1 (.int .u64 x_))
    have f6_ := (blk_far BK6.out (p := ⟨gb7, 1, none⟩) NE67.out (.int .u64 x_))
    have fb_ := (below_set HB.out GE7.out (j := 1) (v := .int .u64 x_))
    have ex_ := HX.out
    clear HX
    subst ex_
    go_wp2
    go_roundg 0
    case measure => omega
    case rel => exact ⟨2, _, _, rfl, ⟨.inr (.inr ⟨rfl, rfl, rfl, rfl⟩)⟩, ⟨f6_⟩, ⟨f7_⟩, ⟨fb_⟩⟩
   ·have hz_ : (a0_2 != 0) = true := bne_iff_ne.mpr c
    have H := HP1.out
    simp only [special_box_words.p, Bool.false_eq_true, if_true, if_false, c] at H
    have HX := A0_ (Option.some.inj H)
    clear H
    have C_ := A0_ c
    clear c
    go_upto_region 9 with (first | ((with_reducible refine gate_dst (N := 9) rfl ?_); refine box_event ?hg (N := 9) ?hd (cs := #[.int .i64 0, .bool false]) (t := 46) ?hr ?_; (case hd => rfl); (case hg => rfl); (case hr => first | (go_simp; done) | (go_simp; rfl)); intro gb9 hg w9 hbox hb; have LT7 := blk_lt BK7.out; have LT6 := blk_lt BK6.out; have nb_ := A0_ (blk_below BK6.out hb); clear BK6; have BK6 := nb_; clear nb_; have nb_ := A0_ (blk_below BK7.out hb); clear BK7; have BK7 := nb_; clear nb_; have BK9 := A0_ hbox; have GE9 := A0_ ((by rw [hg]; exact (below_size (qm_ HB.out))) : w.heap.size ≤ gb9); replace HB := hs_ hb; have NE79 := A0_ ((by rw [hg]; exact Nat.ne_of_lt LT7) : gb7 ≠ gb9); have NE69 := A0_ ((by rw [hg]; exact Nat.ne_of_lt LT6) : gb6 ≠ gb9); clear LT6 LT7 hb hbox hg; have h97 := Ne.symm NE79.out; have h79 := NE79.out; have hcz9_0 : w9.cell? ⟨gb9, 0, none⟩ = some (.int .i64 0) := (blk_cell BK9.out 0).trans rfl; have hfz9_0 := blk_frozen BK9.out 0; have hcz9_1 : w9.cell? ⟨gb9, 1, none⟩ = some (.bool false) := (blk_cell BK9.out 1).trans rfl; have hfz9_1 := blk_frozen BK9.out 1;have hcz7_0 : w9.cell? ⟨gb7, 0, none⟩ = some (.int .u64 l0) := (blk_cell BK7.out 0).trans rfl; have hfz7_0 := blk_frozen BK7.out 0; have hcz7_1 : w9.cell? ⟨gb7, 1, none⟩ = some (.int .u64 0) := (blk_cell BK7.out 1).trans rfl; have hfz7_1 := blk_frozen BK7.out 1))
    have f7_ := (blk_set (blk_far (blk_far BK7.out (p := ⟨gb9, 0, none⟩) NE79.out (.int .i64 a0_2)) (p := ⟨gb9, 1, none⟩) NE79.out (.bool false)) 1 (.int .u64 a2))
    have f6_ := (blk_far (blk_far (blk_far BK6.out (p := ⟨gb9, 0, none⟩) NE69.out (.int .i64 a0_2)) (p := ⟨gb9, 1, none⟩) NE69.out (.bool false)) (p := ⟨gb7, 1, none⟩) NE67.out (.int .u64 a2))
    have fb_ := (below_set (below_set (below_set HB.out GE9.out (j := 0) (v := .int .i64 a0_2)) GE9.out (j := 1) (v := .bool false)) GE7.out (j := 1) (v := .int .u64 a2))
    go_wp2
    go_roundg 0
    case measure => omega
    case rel => exact ⟨2, _, _, rfl, ⟨.inr (.inr ⟨rfl, rfl, rfl, rfl⟩)⟩, ⟨f6_⟩, ⟨by rw [← HX.out]; exact f7_⟩, ⟨fb_⟩⟩
   ·have hz_ : (a0_2 != 0) = true := bne_iff_ne.mpr c
    have H := HP1.out
    simp only [special_box_words.p, Bool.false_eq_true, if_true, if_false, c] at H
    obtain ⟨⟨x_, xe_⟩, AX_, HX_⟩ := Option.bind_eq_some_iff.mp H
    have HX := A0_ (Option.some.inj HX_)
    have AX := A0_ AX_
    clear AX_ HX_ H
    have C_ := A0_ c
    clear c
    go_upto_region 9 with (first | ((with_reducible refine gate_dst (N := 9) rfl ?_); refine box_event ?hg (N := 9) ?hd (cs := #[.int .i64 0, .bool false]) (t := 46) ?hr ?_; (case hd => rfl); (case hg => rfl); (case hr => first | (go_simp; done) | (go_simp; rfl)); intro gb9 hg w9 hbox hb; have LT7 := blk_lt BK7.out; have LT6 := blk_lt BK6.out; have nb_ := A0_ (blk_below BK6.out hb); clear BK6; have BK6 := nb_; clear nb_; have nb_ := A0_ (blk_below BK7.out hb); clear BK7; have BK7 := nb_; clear nb_; have BK9 := A0_ hbox; have GE9 := A0_ ((by rw [hg]; exact (below_size (qm_ HB.out))) : w.heap.size ≤ gb9); replace HB := hs_ hb; have NE79 := A0_ ((by rw [hg]; exact Nat.ne_of_lt LT7) : gb7 ≠ gb9); have NE69 := A0_ ((by rw [hg]; exact Nat.ne_of_lt LT6) : gb6 ≠ gb9); clear LT6 LT7 hb hbox hg; have h97 := Ne.symm NE79.out; have h79 := NE79.out; have hcz9_0 : w9.cell? ⟨gb9, 0, none⟩ = some (.int .i64 0) := (blk_cell BK9.out 0).trans rfl; have hfz9_0 := blk_frozen BK9.out 0; have hcz9_1 : w9.cell? ⟨gb9, 1, none⟩ = some (.bool false) := (blk_cell BK9.out 1).trans rfl; have hfz9_1 := blk_frozen BK9.out 1;have hcz7_0 : w9.cell? ⟨gb7, 0, none⟩ = some (.int .u64 l0) := (blk_cell BK7.out 0).trans rfl; have hfz7_0 := blk_frozen BK7.out 0; have hcz7_1 : w9.cell? ⟨gb7, 1, none⟩ = some (.int .u64 0) := (blk_cell BK7.out 1).trans rfl; have hfz7_1 := blk_frozen BK7.out 1) | (go_at_call 36; (with_reducible refine (word_Neg.calls k a1 a2 x_ xe_ _ AX.out).mono ?_); rintro e wn ⟨rfl, hb⟩; have n7_ := A0_ (blk_below (blk_set (blk_far (blk_far BK7.out (p := ⟨gb9, 0, none⟩) NE79.out (.int .i64 a0_2)) (p := ⟨gb9, 1, none⟩) NE79.out (.bool true)) 1 (.int .u64 a2)) hb); have n6_ := A0_ (blk_below (blk_far (blk_far (blk_far BK6.out (p := ⟨gb9, 0, none⟩) NE69.out (.int .i64 a0_2)) (p := ⟨gb9, 1, none⟩) NE69.out (.bool true)) (p := ⟨gb7, 1, none⟩) NE67.out (.int .u64 a2)) hb); have n1_ := A0_ (below_step (below_set (below_set (below_set HB.out GE9.out (j := 0) (v := .int .i64 a0_2)) GE9.out (j := 1) (v := .bool true)) GE7.out (j := 1) (v := .int .u64 a2)) hb); clear BK7 BK6 HB; have BK7 := n7_; have BK6 := n6_; have HB := n1_; clear n1_ n6_ n7_ hb hcz7_0 hfz7_0 hcz7_1 hfz7_1 hcz9_0 hfz9_0 hcz9_1 hfz9_1; have hcz7_1 : wn.cell? ⟨gb7, 1, none⟩ = some (.int .u64 a2) := (blk_cell BK7.out 1).trans rfl; have hfz7_1 := blk_frozen BK7.out 1))
    have f7_ := (blk_set BK7.out 1 (.int .u64 x_))
    have f6_ := (blk_far BK6.out (p := ⟨gb7, 1, none⟩) NE67.out (.int .u64 x_))
    have fb_ := (below_set HB.out GE7.out (j := 1) (v := .int .u64 x_))
    have ex_ := HX.out
    clear HX
    subst ex_
    go_wp2
    go_roundg 0
    case measure => omega
    case rel => exact ⟨2, _, _, rfl, ⟨.inr (.inr ⟨rfl, rfl, rfl, rfl⟩)⟩, ⟨f6_⟩, ⟨f7_⟩, ⟨fb_⟩⟩
  ·clear HI
   have hcz7_0 : wr.cell? ⟨gb7, 0, none⟩ = some (.int .u64 l0) := (blk_cell BK7.out 0).trans rfl
   have hfz7_0 := blk_frozen BK7.out 0
   have hcz7_1 : wr.cell? ⟨gb7, 1, none⟩ = some (.int .u64 l1) := (blk_cell BK7.out 1).trans rfl
   have hfz7_1 := blk_frozen BK7.out 1
   have hcz6_0 : wr.cell? ⟨gb6, 0, none⟩ = some (.int .u64 0) := (blk_cell BK6.out 0).trans rfl
   have hfz6_0 := blk_frozen BK6.out 0
   have hcz6_1 : wr.cell? ⟨gb6, 1, none⟩ = some (.int .u64 0) := (blk_cell BK6.out 1).trans rfl
   have hfz6_1 := blk_frozen BK6.out 1
   go_wp2
   refine bodyPost_ret (v := .agg #[.int .u64 l0, .int .u64 l1]) ?_ rfl ⟨rfl, below_set (below_set HB.out GE6.out) GE6.out⟩
   simp [results, Tryz.results14, go_sem, hcz6_0, hcz6_1]
end Go.Proofs.YtlgapmhjaaajfaaGreat.PA
end
