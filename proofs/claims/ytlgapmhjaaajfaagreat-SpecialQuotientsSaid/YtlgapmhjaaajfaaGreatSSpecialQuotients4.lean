/- Steps of Go functions that the law SpecialQuotients uses, told as plain Lean functions, each with the proof that its call comes to what it tells; words on memory; plain facts. No condition beyond those that each text names. -/
import Derived.Test.YtlgapmhjaaajfaaGreatProg
import Derived.WalkMore
import Derived.Test.YtlgapmhjaaajfaaGreatSSpecialQuotients0
import Derived.Test.YtlgapmhjaaajfaaGreatSSpecialQuotients1
import Derived.Test.YtlgapmhjaaajfaaGreatSSpecialQuotients2
import Derived.Test.YtlgapmhjaaajfaaGreatSSpecialQuotients3
set_option maxHeartbeats 16000000
set_option maxRecDepth 100000
section
namespace Go.Proofs.YtlgapmhjaaajfaaGreat.PA
open Go.RowKit Go.Proofs.YtlgapmhjaaajfaaGreatW.PrintWords Go.Proofs.YtlgapmhjaaajfaaGreatW.PrintLast Go.Proofs.YtlgapmhjaaajfaaGreatW.PrintMore
attribute [local go_sem] max2_int min2_int max_two min_two max_three min_three max_four min_four   -- for this text's walks alone
set_option linter.unusedVariables false
set_option linter.unusedSimpArgs false
mutual
def special_Div.j0 : Nat → Int → Int → Int → Int → Int → Bool → Int → Int → Int → Int → Option (Int × Int × Int × Int × Bool × Int)
 | 0, _, _, _, _, _, _, _, _, _, _ => none
 | k + 1, x0, x1, x13, x14, x15, x43, x250000, x250001, x251000, x251001 => if x43 = true then (some (0, 0, 0, 0, false, 0)) else (if x13 = 4 then (special_Div.j1 k x0 x1 x13 x14 x15 true x250000 x250001 x251000 x251001) else (special_Div.j1 k x0 x1 x13 x14 x15 (x14 == 4) x250000 x250001 x251000 x251001))
def special_Div.j1 : Nat → Int → Int → Int → Int → Int → Bool → Int → Int → Int → Int → Option (Int × Int × Int × Int × Bool × Int)
 | 0, _, _, _, _, _, _, _, _, _, _ => none
 | k + 1, x0, x1, x13, x14, x15, x51, x250000, x250001, x251000, x251001 => if x51 = true then ((special_none.f k x0 0).bind fun bt263 => (some (bt263.1, bt263.2.1, bt263.2.2.1, bt263.2.2.2, true, 0))) else (if x13 = x14 then ((special_none.f k x0 1).bind fun bt267 => (some (bt267.1, bt267.2.1, bt267.2.2.1, bt267.2.2.2, true, 0))) else ((special_boxOf.f k x0 x251000 x251001 x14).bind fun bt271 => (if x14 = 1 then (if bt271.2.1 = true then (special_Div.j2 k x0 x1 x13 x14 x15 x250000 x250001 (-1) bt271.2.1 bt271.2.2.1 bt271.2.2.2) else (special_Div.j2 k x0 x1 x13 x14 x15 x250000 x250001 1 bt271.2.1 bt271.2.2.1 bt271.2.2.2)) else (special_Div.j2 k x0 x1 x13 x14 x15 x250000 x250001 bt271.1 bt271.2.1 bt271.2.2.1 bt271.2.2.2))))
def special_Div.j2 : Nat → Int → Int → Int → Int → Int → Int → Int → Int → Bool → Int → Bool → Option (Int × Int × Int × Int × Bool × Int)
 | 0, _, _, _, _, _, _, _, _, _, _, _ => none
 | k + 1, x0, x1, x13, x14, x15, x250000, x250001, x276000, x276001, x276002, x276003 => (special_side_minus.f x276002 x276003).bind fun bt276 => ((special_boxOf.f k x0 x250000 x250001 x13).bind fun bt278 => ((special_box_times.f bt278.1 bt278.2.1 bt278.2.2.1 bt278.2.2.2 x276000 x276001 bt276.1 bt276.2 x1).bind fun bt282 => (if x14 = 3 then ((special_box_words.f k bt282.1 bt282.2.1 bt282.2.2.1 bt282.2.2.2 x0 0).bind fun bt287 => (some (bt287.1, bt287.2, 0, 0, true, 0))) else (if x13 = 3 then ((special_box_words.f k bt282.1 bt282.2.1 bt282.2.2.1 bt282.2.2.2 x0 x15).bind fun bt289 => (some (bt289.1, bt289.2, 0, 0, true, 0))) else ((special_box_words.f k bt282.1 bt282.2.1 bt282.2.2.1 bt282.2.2.2 x0 x15).bind fun bt291 => (some (bt291.1, bt291.2, 2, 2, true, 0)))))))
end
def special_Div.f (k : Nat) (a0 : Int) (a1 : Int) (a2_0 : Int) (a2_1 : Int) (a3_0 : Int) (a3_1 : Int) : Option (Int × Int × Int × Int × Bool × Int) := (special_open.f k a0 a1 (([(⟨a2_0, a2_1⟩ : S26), (⟨a3_0, a3_1⟩ : S26)] : List (S26)))).bind fun bt255 => (if bt255.2 = 0 then (if 0 < (bt255.1.length : Int) then (if 1 < (bt255.1.length : Int) then ((word_Inf.f k a0 false).bind fun bt261 => (if (rd bt255.1 0) ≤ 2 then (special_Div.j0 k a0 a1 (rd bt255.1 0) (rd bt255.1 1) bt261.1 ((rd bt255.1 1) == 2) a2_0 a2_1 a3_0 a3_1) else (special_Div.j0 k a0 a1 (rd bt255.1 0) (rd bt255.1 1) bt261.1 false a2_0 a2_1 a3_0 a3_1))) else (none)) else (none)) else (some (0, 0, 0, 0, false, bt255.2)))
def special_Div.T4 : Bool × List (List Nat × List Nat) := (true, [([], []), ([0], [0]), ([1], [1]), ([], []), ([3], [3]), ([4], [4]), ([2, 0, 1, 2], [2]), ([5, 6, 0, 1, 2, 3, 4, 5, 6], [5])])
def special_Div.B4 : List Nat := [0, 1, 3, 0, 8, 24, 7, 127]
theorem special_Div.tab4 : rtab .any (opsOf Tryz.f4 4) = special_Div.T4 := by kernel_rfl
theorem special_Div.bits4 : waitsOk special_Div.T4.2 special_Div.B4 = true := by kernel_rfl
def special_Div.T18 : Bool × List (List Nat × List Nat) := (true, [([], []), ([], []), ([], []), ([0, 1, 2], [0, 1, 2]), ([], []), ([], []), ([3, 4, 5, 3], [3, 4, 5]), ([], []), ([7, 6, 6, 0, 1, 2, 3, 4, 5, 6, 7], [6, 7])])
def special_Div.B18 : List Nat := [0, 0, 0, 7, 0, 0, 63, 0, 255]
theorem special_Div.tab18 : rtab .any (opsOf Tryz.f4 18) = special_Div.T18 := by kernel_rfl
theorem special_Div.bits18 : waitsOk special_Div.T18.2 special_Div.B18 = true := by kernel_rfl
theorem special_Div.calls (k : Nat) (a0 : Int) (a1 : Int) (a2_0 : Int) (a2_1 : Int) (a3_0 : Int) (a3_1 : Int) (r1 : Int) (r2 : Int) (r3 : Int) (r4 : Int) (r5 : Bool) (r6 : Int) (w : World) (h : special_Div.f k a0 a1 a2_0 a2_1 a3_0 a3_1 = some (r1, r2, r3, r4, r5, r6)) :
  Calls Tryz.prog 4 #[.int .u8 a0, .int .u8 a1, .agg #[.int .u64 a2_0, .int .u64 a2_1], .agg #[.int .u64 a3_0, .int .u64 a3_1]] w fun e w' => e = .returned (.tuple #[.agg #[.int .u64 r1, .int .u64 r2, .int .u8 r3, .int .u8 r4], .bool r5, .int .i64 r6]) ∧ Below w.heap.size w w' := by
 have hap48_0 : ∀ (g : Nat) (w : World), (Instr.indexAt 48 (.pointer (some ⟨g, 0, none⟩)) (.int .i64 0)).run Tryz.prog w = .ok (.pointer (some ⟨g, 0, none⟩)) w := fun _ _ => by kernel_rfl
 have hap48_1 : ∀ (g : Nat) (w : World), (Instr.indexAt 48 (.pointer (some ⟨g, 0, none⟩)) (.int .i64 1)).run Tryz.prog w = .ok (.pointer (some ⟨g, 2, none⟩)) w := fun _ _ => by kernel_rfl
 have hu26 := Tryz.underlying26
 have hu29 := Tryz.underlying29
 have hu48 := Tryz.underlying48
 have hu46 := Tryz.underlying46
 have HB := A0_ (Below.refl w.heap.size w)
 have H := h
 clear h
 unfold special_Div.f at H
 obtain ⟨y252, hy252⟩ : ∃ y_ : List (S26), y_ = (([(⟨a2_0, a2_1⟩ : S26), (⟨a3_0, a3_1⟩ : S26)] : List (S26))) := ⟨_, rfl⟩
 replace H : ((special_open.f k a0 a1 y252).bind fun bt255 => (if bt255.2 = 0 then (if 0 < (bt255.1.length : Int) then (if 1 < (bt255.1.length : Int) then ((word_Inf.f k a0 false).bind fun bt261 => (if (rd bt255.1 0) ≤ 2 then (special_Div.j0 k a0 a1 (rd bt255.1 0) (rd bt255.1 1) bt261.1 ((rd bt255.1 1) == 2) a2_0 a2_1 a3_0 a3_1) else (special_Div.j0 k a0 a1 (rd bt255.1 0) (rd bt255.1 1) bt261.1 false a2_0 a2_1 a3_0 a3_1))) else (none)) else (none)) else (some (0, 0, 0, 0, false, bt255.2)))) = some (r1, r2, r3, r4, r5, r6) := by first | (rw [hy252]; with_reducible exact H) | (have H2_ := (Option.bind_some _ _).symm.trans H; rw [hy252]; with_reducible exact H2_) | (have H2_ := (Option.bind_some _ _).symm.trans H; with_reducible exact H2_) | with_reducible exact H | (rw [hy252]; exact H) | exact H
 have Ny252 := A0_ hy252
 clear hy252
 obtain ⟨⟨t255, t256⟩, A5, H⟩ := bs_ H
 try dsimp -simprocs only at H
 by_cases c6 : t256 = 0
 ·rw [if_pos c6] at H
  have c6b0 : (t256 == 0) = true := beq_iff_eq.mpr c6
  have c6b1 : (t256 != 0) = false := bne_eq_false_iff_eq.mpr c6
  clear c6
  obtain ⟨(c7 : 0 < (t255.length : Int)), H⟩ := ic_ H
  have c7b0 : decide (0 < (t255.length : Int)) = true := decide_eq_true c7
  have c7b1 : decide (0 < t255.length) = true := decide_eq_true (by omega)
  clear c7
  obtain ⟨(c8 : 1 < (t255.length : Int)), H⟩ := ic_ H
  have c8b0 : decide (1 < (t255.length : Int)) = true := decide_eq_true c8
  have c8b1 : decide (1 < t255.length) = true := decide_eq_true (by omega)
  clear c8
  obtain ⟨⟨t261, t262⟩, A9, H⟩ := bs_ H
  try dsimp -simprocs only at H
  have HC10 := A0_ H
  clear H
  go_enter Tryz.func4, Tryz.ntmps4
  try go_wp2_with (first | ((with_reducible refine gate_dst (N := 6) rfl ?_); refine box_event ?hg (N := 6) ?hd (cs := #[.int .u64 a2_0, .int .u64 a2_1]) (t := 26) ?hr ?_; (case hd => rfl); (case hg => rfl); (case hr => first | (go_simp; done) | (go_simp; rfl)); intro gb249 hg w11 hbox hb; have BK249 := A0_ (hbox); have GW249 := A0_ ((by rw [hg]; exact (below_size (qm_ HB.out)) : w.heap.size ≤ gb249)); have GE249 := GW249; replace HB := hs_ hb; clear hb hbox hg) | ((with_reducible refine gate_dst (N := 7) rfl ?_); refine box_event ?hg (N := 7) ?hd (cs := #[.int .u64 a3_0, .int .u64 a3_1]) (t := 26) ?hr ?_; (case hd => rfl); (case hg => rfl); (case hr => first | (go_simp; done) | (go_simp; rfl)); intro gb250 hg w12 hbox hb; have BK250 := A0_ (hbox); have GW250 := A0_ ((by rw [hg]; exact (below_size qz_) : w.heap.size ≤ gb250)); have GE250 := GW250; replace HB := hs_ hb; have NB249_250 := nl_ hg BK249; have NB250_249 := ng_ hg BK249; replace BK249 := bb_ BK249 hb; clear hb hbox hg) | ((with_reducible refine gate_dst (N := 8) rfl ?_); refine box_event ?hg (N := 8) ?hd (cs := #[.int .u64 0, .int .u64 0, .int .u8 0, .int .u8 0]) (t := 29) ?hr ?_; (case hd => rfl); (case hg => rfl); (case hr => first | (go_simp; done) | (go_simp; rfl)); intro gb251 hg w13 hbox hb; have BK251 := A0_ (hbox); have GW251 := A0_ ((by rw [hg]; exact (below_size qz_) : w.heap.size ≤ gb251)); have GE251 := GW251; replace HB := hs_ hb; have NB249_251 := nl_ hg BK249; have NB251_249 := ng_ hg BK249; replace BK249 := bb_ BK249 hb; have NB250_251 := nl_ hg BK250; have NB251_250 := ng_ hg BK250; replace BK250 := bb_ BK250 hb; clear hb hbox hg; have hnb14 := NB249_250.out; have hnc14 := NB250_249.out; have hnb15 := NB249_251.out; have hnc15 := NB251_249.out; have hcz16 := bc2_ BK249.out; have hfz16 := bf2_ BK249.out; have hnb17 := NB250_251.out; have hnc17 := NB251_250.out; have hcz18 := bc2_ BK250.out; have hfz18 := bf2_ BK250.out) | ((with_reducible refine gate_dst (N := 24) rfl ?_); refine Kd.R_lit k26 _ 26 ?hg (N := 24) ?hd (xs := ([(⟨a2_0, a2_1⟩ : S26), (⟨a3_0, a3_1⟩ : S26)] : List (S26))) (inner := [.int .u64 a2_0, .int .u64 a2_1, .int .u64 a3_0, .int .u64 a3_1]) (ok := fun _ => True) (okp := fun _ => True) ?hr ?hp (fun _ hk => hk) trivial (Below.refl _ _) (Nat.le_refl _) (by simp) ?_; (case hd => rfl); (case hg => rfl); (case hr => first | (go_simp; done) | (go_simp; rfl)); (case hp => exact (Reps.c2 (show Kd.M k26 _ _ _ (⟨a2_0, a2_1⟩ : S26) [.int .u64 a2_0, .int .u64 a2_1] from (k26_mkM _ _ _ (⟨a2_0, a2_1⟩ : S26) )) (Reps.c2 (show Kd.M k26 _ _ _ (⟨a3_0, a3_1⟩ : S26) [.int .u64 a3_0, .int .u64 a3_1] from (k26_mkM _ _ _ (⟨a3_0, a3_1⟩ : S26) )) (Reps.none _ _)))); intro v253 w19 ho20 hb hg_ hnew_; clear hg_ hnew_; (first | rw [← Ny252.out] at ho20 | (simp only [Int.reduceToNat] at ho20; rw [← Ny252.out] at ho20)); have HO254 := A0_ (Kd.R_lower (Kd.R_newB (Kd.R_newB ho20 (bm_ BK249.out)) (bm_ BK250.out)) (below_size qz_)); replace BK249 := bb_ BK249 hb; replace BK250 := bb_ BK250 hb; replace BK251 := bb_ BK251 hb; replace HB := hs_ hb; clear hb ho20; obtain ⟨Ao21, co21, eo21⟩ := Kd.R_slice HO254.out; subst eo21) | ((with_reducible refine gate_callee (f := 8) rfl ?_); refine goesL_ (some 25) rfl rfl Tryz.func8 (by kernel_rfl) rfl #[.int .u8 a0, .int .u8 a1, .slice Ao21 y252.length co21] rfl (am_ rfl) ?_; (with_reducible refine (special_open.calls k a0 a1 _ _ y252 t255 t256 _ ?side1 ?side2 A5.out).mono ?_); (case side1 => repeat (first | exact (Kd.R_reads' HO254.out).2.2 | (with_reducible refine Kd.C_alloc ?_ _) | (with_reducible refine Kd.C_drewN ?_ _) | (with_reducible refine Kd.C_drew ?_))); (case side2 => exact (Kd.R_reads' HO254.out).2.1); rintro e w22 ⟨v257, rfl, ho0, hb⟩; refine ⟨_, rfl, ?_⟩; replace HO254 := A0_ (Kd.R_below (by exact rm_ HO254.out) hb); have HO258 := A0_ (Kd.R_lower ho0 (below_size qz_)); replace BK249 := bb_ BK249 hb; replace BK250 := bb_ BK250 hb; replace BK251 := bb_ BK251 hb; replace HB := hs_ hb; (try clear hb); (try clear ho0)))
  replace HO254 := A0_ (Kd.R_drew HO254.out)
  replace HO258 := A0_ (Kd.R_drew HO258.out)
  replace BK249 := A0_ (blk_drew BK249.out)
  replace BK250 := A0_ (blk_drew BK250.out)
  replace BK251 := A0_ (blk_drew BK251.out)
  replace HB := A0_ (below_drew1 HB.out)
  obtain ⟨Ao24, co24, eo24⟩ := Kd.R_slice HO258.out
  (first | subst eo24 | (injection eo24 with f1_ f2_ f3_; have f4_ := f1_.symm; have f5_ := f3_.symm; clear f1_ f2_ f3_; subst f4_; subst f5_))
  have p259 : 0 ≤ (0 : Int) := (by omega)
  have q259 : 0 < (t255.length : Int) := of_decide_eq_true (by first | (with_reducible assumption) | assumption)
  obtain ⟨ad259, e259, hx259_0⟩ := Kd.at_int (Kd.R_reads' HO258.out).2.2 0 p259 q259
  cases e259
  have qi259 : (0 < t255.length) = True := eq_true (by omega)
  (try rw [show ((0 : Int)).toNat = 0 from rfl] at hx259_0)
  (try rw [Addr.add_zero'] at hx259_0)
  replace p259 := eq_true p259
  replace q259 := eq_true q259
  have p260 : 0 ≤ (1 : Int) := (by omega)
  have q260 : 1 < (t255.length : Int) := of_decide_eq_true (by first | (with_reducible assumption) | assumption)
  obtain ⟨ad260, e260, hx260_0⟩ := Kd.at_int (Kd.R_reads' HO258.out).2.2 1 p260 q260
  obtain rfl : ad259 = ad260 := (by injection e260)
  (try simp only [show (1 : Int).toNat = 1 from rfl, Nat.reduceMul, Nat.reduceEqDiff, Go.Addr.add, ↓reduceIte] at hx260_0)
  have qi260 : (1 < t255.length) = True := eq_true (by omega)
  (try rw [show ((1 : Int)).toNat = 1 from rfl] at hx260_0)
  replace p260 := eq_true p260
  replace q260 := eq_true q260
  refine start_ (n := 8) (S := fun w' => w'.cell? ad259 = some (.int .u8 (rd t255 0)) ∧ w'.cell? ⟨ad259.block, ad259.off + 1, none⟩ = some (.int .u8 (rd t255 1))) (ds := []) #[false, false, false, false, false, false, false, false] (by kernel_rfl) rfl rfl ⟨hx259_0, hx260_0⟩ (fun hHeld => ?_); refine with_tabW special_Div.tab4 special_Div.bits4 (fun HT_ HW_ => ?_)
  generalize w22.drew = w23 at HO254 HO258 BK249 BK250 BK251 HB hx259_0 hx260_0 hHeld ⊢
  refine pure_ (i := 0) (N := some 32) (v := ?_) (a' := ?_) #[true, false, false, false, false, false, false, false] rfl rfl (any_of HT_.out (by kernel_rfl)) (fun _ _ _ h => h) (Or.inl ⟨by rfl, ?_⟩) ?_ ?_
  rotate_left
  ·intro w'
   go_simp
   with_reducible rfl
  rotate_left
  ·simp only [Act.put, sp_, i64_w, i32_w]
   rfl
  refine pure_ (i := 1) (N := some 33) (v := ?_) (a' := ?_) #[true, true, false, false, false, false, false, false] rfl rfl (any_of HT_.out (by kernel_rfl)) (fun _ _ _ h => h) (Or.inl ⟨by rfl, ?_⟩) ?_ ?_
  rotate_left
  ·intro w'
   go_simp
   with_reducible rfl
  rotate_left
  ·simp only [Act.put, sp_, i64_w, i32_w]
   rfl
  refine pure_ (i := 3) (N := some 35) (v := ?_) (a' := ?_) #[true, true, false, true, false, false, false, false] rfl rfl (any_of HT_.out (by kernel_rfl)) (fun _ _ _ h => h) (Or.inl ⟨by rfl, ?_⟩) ?_ ?_
  rotate_left
  ·intro w'
   go_simp
   with_reducible rfl
  rotate_left
  ·simp only [Act.put, sp_, i64_w, i32_w]
   rfl
  refine pure_ (i := 4) (N := some 36) (v := ?_) (a' := ?_) #[true, true, false, true, true, false, false, false] rfl rfl (any_of HT_.out (by kernel_rfl)) (fun _ _ _ h => h) (Or.inl ⟨by rfl, ?_⟩) ?_ ?_
  rotate_left
  ·intro w'
   go_simp
   with_reducible rfl
  rotate_left
  ·simp only [Act.put, sp_, i64_w, i32_w]
   rfl
  refine take_ (i := 2) (N := some 34) (v := ?_) (a' := ?_) #[true, true, true, true, true, false, false, false] rfl rfl (take_ofW HT_.out HW_.out (by kernel_rfl)) (fun _ _ _ h => h) (Or.inl ⟨by rfl, ?_⟩) hHeld ?_ ?_
  rotate_left
  ·rintro w' ⟨s0, s1⟩
   go_simp
   with_reducible rfl
  rotate_left
  ·simp only [Act.put, sp_, i64_w, i32_w]
   rfl
  refine pure_ (i := 6) (N := some 13) (v := ?_) (a' := ?_) #[true, true, true, true, true, false, true, false] rfl rfl (any_of HT_.out (by kernel_rfl)) (fun _ _ _ h => h) (Or.inl ⟨by rfl, ?_⟩) ?_ ?_
  rotate_left
  ·intro w'
   go_simp
   with_reducible rfl
  rotate_left
  ·simp only [Act.put, sp_, i64_w, i32_w]
   rfl
  refine take_ (i := 5) (N := some 37) (v := ?_) (a' := ?_) #[true, true, true, true, true, true, true, false] rfl rfl (take_ofW HT_.out HW_.out (by kernel_rfl)) (fun _ _ _ h => h) (Or.inl ⟨by rfl, ?_⟩) hHeld ?_ ?_
  rotate_left
  ·rintro w' ⟨s0, s1⟩
   go_simp
   with_reducible rfl
  rotate_left
  ·simp only [Act.put, sp_, i64_w, i32_w]
   rfl
  refine pure_ (i := 7) (N := some 14) (v := ?_) (a' := ?_) #[true, true, true, true, true, true, true, true] rfl rfl (any_of HT_.out (by kernel_rfl)) (fun _ _ _ h => h) (Or.inl ⟨by rfl, ?_⟩) ?_ ?_
  rotate_left
  ·intro w'
   go_simp
   with_reducible rfl
  rotate_left
  ·simp only [Act.put, sp_, i64_w, i32_w]
   rfl
  refine done_ (done_of HT_.out (by kernel_rfl)) ?_
  go_upto_region 6 with (first | ((with_reducible refine gate_callee (f := 9) rfl ?_); refine goesL_ (some 40) rfl rfl Tryz.func9 (by kernel_rfl) rfl #[.int .u8 a0, .bool false] rfl (am_ rfl) ?_; (with_reducible refine (word_Inf.calls k a0 false t261 t262 _ A9.out).mono ?_); rintro e w25 ⟨rfl, hb⟩; refine ⟨_, rfl, ?_⟩; replace HO254 := A0_ (Kd.R_below (by exact rm_ HO254.out) hb); replace HO258 := A0_ (Kd.R_below (by exact rm_ HO258.out) hb); replace BK249 := bb_ BK249 hb; replace BK250 := bb_ BK250 hb; replace BK251 := bb_ BK251 hb; replace HB := hs_ hb; (try clear hb)))
  (try simp only [Act.put, sp_])
  go_cut [43] (fun v43 wc => ∃ (kq : Nat) (x43_9 : Bool), v43 = .bool x43_9 ∧ Aside0 (special_Div.j0 kq a0 a1 (rd t255 0) (rd t255 1) t261 x43_9 a2_0 a2_1 a3_0 a3_1 = some (r1, r2, r3, r4, r5, r6)) ∧ Aside0 (kq ≤ k) ∧ Aside0 (wc.heap[gb249]? = some (.cells #[.int .u64 a2_0, .int .u64 a2_1] 26 (0, 0))) ∧ Aside0 (wc.heap[gb250]? = some (.cells #[.int .u64 a3_0, .int .u64 a3_1] 26 (0, 0))) ∧ Aside0 (wc.heap[gb251]? = some (.cells #[.int .u64 0, .int .u64 0, .int .u8 0, .int .u8 0] 29 (0, 0))) ∧ Aside0 (Below w.heap.size w wc))
  case first =>
   have H := HC10.out
   clear HC10
   by_cases c26 : (rd t255 0) ≤ 2
   ·rw [if_pos c26] at H
    have c26b0 : decide ((rd t255 0) ≤ 2) = true := decide_eq_true c26
    clear c26
    (first | rw [c26b0] | (simp only [i64_w, i32_w]; rw [c26b0]) | skip)
    have H' := A0_ H
    clear H
    go_wp2
    go_meet
    case rel => exact ⟨_, (((rd t255 1) == 2)), (by first | rfl | (simp; done) | (simp [*]; done)), H', ⟨by first | omega | exact Nat.le_refl _⟩, ⟨bm_ BK249.out⟩, ⟨bm_ BK250.out⟩, ⟨bm_ BK251.out⟩, ⟨qz_⟩⟩
   ·rw [if_neg c26] at H
    have c26b0 : decide ((rd t255 0) ≤ 2) = false := decide_eq_false c26
    clear c26
    (first | rw [c26b0] | (simp only [i64_w, i32_w]; rw [c26b0]) | skip)
    have H' := A0_ H
    clear H
    go_wp2
    go_meet
    case rel => exact ⟨_, (false), (by first | rfl | (simp; done) | (simp [*]; done)), H', ⟨by first | omega | exact Nat.le_refl _⟩, ⟨bm_ BK249.out⟩, ⟨bm_ BK250.out⟩, ⟨bm_ BK251.out⟩, ⟨qz_⟩⟩
  case rest =>
   clear HC10
   try clear c1
   try clear c2
   try clear p2
   try clear q2
   try clear hx2
   try clear qi2
   try clear c4
   try clear c6
   try clear c6b0
   try clear c6b1
   try clear c7
   try clear c7b0
   try clear c7b1
   try clear c8
   try clear c8b0
   try clear c8b1
   try clear c9
   try clear c14
   try clear c15
   try clear c17
   try clear p25
   try clear q25
   try clear hx25
   try clear qi25
   try clear c26
   try clear c26b0
   try clear p26
   try clear q26
   try clear hx26
   try clear qi26
   try clear hcz16
   try clear hcz18
   try clear hfz16
   try clear hfz18
   try clear hx259_0
   try clear hx260_0
   try clear p259
   try clear p260
   try clear q259
   try clear q260
   obtain ⟨kq, x43_9, rfl, HA, HJ9, BK249, BK250, BK251, HB⟩ := hcut
   cases kq with
   | zero => exact absurd HA.out (by simp [special_Div.j0])
   | succ kj9 =>
    have H := HA.out
    clear HA
    simp only [special_Div.j0] at H
    by_cases c27 : x43_9 = true
    ·subst c27
     rw [if_pos rfl] at H
     simp only [Option.some.injEq, Prod.mk.injEq] at H
     obtain ⟨rfl, rfl, rfl, rfl, rfl, rfl⟩ := H
     have hnb28 := NB251_249.out
     have hnc28 := NB249_251.out
     have hnb29 := NB251_250.out
     have hnc29 := NB250_251.out
     have hcz30 := bc4_ BK251.out
     have hfz30 := bf4_ BK251.out
     go_wp2
     refine bodyPost_ret (results_ctt rfl _ _ gb251 29 #[.int .u64 0, .int .u64 0, .int .u8 0, .int .u8 0] (0, 0) _ rfl (by (with_reducible repeat first | apply bN_ | apply bD_ | apply bA_); refine blk_put (cs := #[.int .u64 0, .int .u64 0, .int .u8 0, .int .u8 0]) ?_ 3 _ rfl; refine blk_put (cs := #[.int .u64 0, .int .u64 0, .int .u8 0, .int .u8 0]) ?_ 2 _ rfl; refine blk_put (cs := #[.int .u64 0, .int .u64 0, .int .u8 0, .int .u8 0]) ?_ 1 _ rfl; refine blk_put (cs := #[.int .u64 0, .int .u64 0, .int .u8 0, .int .u8 0]) ?_ 0 _ rfl; exact bm_ BK251.out) Tryz.underlying29 rfl (by kernel_rfl)) rfl ?_
     exact ⟨by first | rfl | (simp [errW_none, errW_some] <;> rfl) | (simp [*, errW_none, errW_some] <;> rfl), qz_⟩
    ·replace c27 := Bool.eq_false_iff.mpr c27
     subst c27
     rw [if_neg (show ¬ (false = true) by decide)] at H
     have HC31 := A0_ H
     clear H
     go_upto_region 8 with (fail)
     go_cut [51] (fun v51 wc => ∃ (kq : Nat) (x51_30 : Bool), v51 = .bool x51_30 ∧ Aside0 (special_Div.j1 kq a0 a1 (rd t255 0) (rd t255 1) t261 x51_30 a2_0 a2_1 a3_0 a3_1 = some (r1, r2, r3, r4, r5, r6)) ∧ Aside0 (kq ≤ kj9) ∧ Aside0 (wc.heap[gb249]? = some (.cells #[.int .u64 a2_0, .int .u64 a2_1] 26 (0, 0))) ∧ Aside0 (wc.heap[gb250]? = some (.cells #[.int .u64 a3_0, .int .u64 a3_1] 26 (0, 0))) ∧ Aside0 (wc.heap[gb251]? = some (.cells #[.int .u64 0, .int .u64 0, .int .u8 0, .int .u8 0] 29 (0, 0))) ∧ Aside0 (Below w.heap.size w wc))
     case first =>
      have H := HC31.out
      clear HC31
      by_cases c32 : (rd t255 0) = 4
      ·rw [if_pos c32] at H
       have c32b0 : ((rd t255 0) == 4) = true := beq_iff_eq.mpr c32
       have c32b1 : ((rd t255 0) != 4) = false := bne_eq_false_iff_eq.mpr c32
       clear c32
       (first | rw [c32b0] | (simp only [i64_w, i32_w]; rw [c32b0]) | skip)
       have H' := A0_ H
       clear H
       go_wp2
       go_meet
       case rel => exact ⟨_, (true), (by first | rfl | (simp; done) | (simp [*]; done)), H', ⟨by have := HJ9.out; first | omega | exact Nat.le_refl _⟩, ⟨bm_ BK249.out⟩, ⟨bm_ BK250.out⟩, ⟨bm_ BK251.out⟩, ⟨qz_⟩⟩
      ·rw [if_neg c32] at H
       have c32b0 : ((rd t255 0) == 4) = false := beq_eq_false_iff_ne.mpr c32
       have c32b1 : ((rd t255 0) != 4) = true := bne_iff_ne.mpr c32
       (first | rw [c32b0] | (simp only [i64_w, i32_w]; rw [c32b0]) | skip)
       have H' := A0_ H
       clear H
       go_wp2
       go_meet
       case rel => exact ⟨_, (((rd t255 1) == 4)), (by first | rfl | (simp; done) | (simp [*]; done)), H', ⟨by have := HJ9.out; first | omega | exact Nat.le_refl _⟩, ⟨bm_ BK249.out⟩, ⟨bm_ BK250.out⟩, ⟨bm_ BK251.out⟩, ⟨qz_⟩⟩
     case rest =>
      clear HC31
      try clear c1
      try clear c2
      try clear p2
      try clear q2
      try clear hx2
      try clear qi2
      try clear c3
      try clear c4
      try clear c6
      try clear c6b0
      try clear c6b1
      try clear c7
      try clear c7b0
      try clear c7b1
      try clear c8
      try clear c8b0
      try clear c8b1
      try clear c9
      try clear c14
      try clear c15
      try clear c17
      try clear p25
      try clear q25
      try clear hx25
      try clear qi25
      try clear c26
      try clear c26b0
      try clear p26
      try clear q26
      try clear hx26
      try clear qi26
      try clear c27
      try clear c28
      try clear c29
      try clear c32
      try clear c32b0
      try clear c32b1
      try clear hcz16
      try clear hcz18
      try clear hcz30
      try clear hfz16
      try clear hfz18
      try clear hfz30
      try clear hx259_0
      try clear hx260_0
      try clear p2
      try clear p25
      try clear p259
      try clear p26
      try clear p260
      try clear q2
      try clear q25
      try clear q259
      try clear q26
      try clear q260
      obtain ⟨kq, x51_30, rfl, HA, HJ30, BK249, BK250, BK251, HB⟩ := hcut
      cases kq with
      | zero => exact absurd HA.out (by simp [special_Div.j1])
      | succ kj30 =>
       have H := HA.out
       clear HA
       simp only [special_Div.j1] at H
       by_cases c33 : x51_30 = true
       ·subst c33
        rw [if_pos rfl] at H
        obtain ⟨⟨t263, t264, t265, t266⟩, A34, H⟩ := bs_ H
        try dsimp -simprocs only at H
        simp only [Option.some.injEq, Prod.mk.injEq] at H
        obtain ⟨rfl, rfl, rfl, rfl, rfl, rfl⟩ := H
        go_wp2_with (first | ((with_reducible refine gate_callee (f := 10) rfl ?_); refine goesL_ (some 59) rfl rfl Tryz.func10 (by kernel_rfl) rfl #[.int .u8 a0, .int .u8 0] rfl (am_ rfl) ?_; (with_reducible refine (special_none.calls kj30 a0 0 t263 t264 t265 t266 _ A34.out).mono ?_); rintro e w35 ⟨rfl, hb⟩; refine ⟨_, rfl, ?_⟩; replace BK249 := bb_ BK249 hb; replace BK250 := bb_ BK250 hb; replace BK251 := bb_ BK251 hb; replace HB := hs_ hb; (try clear hb); have hnb36 := NB251_249.out; have hnc36 := NB249_251.out; have hnb37 := NB251_250.out; have hnc37 := NB250_251.out; have hcz38 := bc4_ BK251.out; have hfz38 := bf4_ BK251.out))
        refine bodyPost_ret (results_ctt rfl _ _ gb251 29 #[.int .u64 t263, .int .u64 t264, .int .u8 t265, .int .u8 t266] (0, 0) _ rfl (by (with_reducible repeat first | apply bN_ | apply bD_ | apply bA_); refine blk_put (cs := #[.int .u64 t263, .int .u64 t264, .int .u8 t265, .int .u8 0]) ?_ 3 _ rfl; refine blk_put (cs := #[.int .u64 t263, .int .u64 t264, .int .u8 0, .int .u8 0]) ?_ 2 _ rfl; refine blk_put (cs := #[.int .u64 t263, .int .u64 0, .int .u8 0, .int .u8 0]) ?_ 1 _ rfl; refine blk_put (cs := #[.int .u64 0, .int .u64 0, .int .u8 0, .int .u8 0]) ?_ 0 _ rfl; exact bm_ BK251.out) Tryz.underlying29 rfl (by kernel_rfl)) rfl ?_
        exact ⟨by first | rfl | (simp [errW_none, errW_some] <;> rfl) | (simp [*, errW_none, errW_some] <;> rfl), qz_⟩
       ·replace c33 := Bool.eq_false_iff.mpr c33
        subst c33
        rw [if_neg (show ¬ (false = true) by decide)] at H
        by_cases c39 : (rd t255 0) = (rd t255 1)
        ·rw [if_pos c39] at H
         have c39b0 : ((rd t255 0) == (rd t255 1)) = true := beq_iff_eq.mpr c39
         have c39b1 : ((rd t255 0) != (rd t255 1)) = false := bne_eq_false_iff_eq.mpr c39
         clear c39
         obtain ⟨⟨t267, t268, t269, t270⟩, A40, H⟩ := bs_ H
         try dsimp -simprocs only at H
         simp only [Option.some.injEq, Prod.mk.injEq] at H
         obtain ⟨rfl, rfl, rfl, rfl, rfl, rfl⟩ := H
         go_wp2_with (first | ((with_reducible refine gate_callee (f := 10) rfl ?_); refine goesL_ (some 65) rfl rfl Tryz.func10 (by kernel_rfl) rfl #[.int .u8 a0, .int .u8 1] rfl (am_ rfl) ?_; (with_reducible refine (special_none.calls kj30 a0 1 t267 t268 t269 t270 _ A40.out).mono ?_); rintro e w41 ⟨rfl, hb⟩; refine ⟨_, rfl, ?_⟩; replace BK249 := bb_ BK249 hb; replace BK250 := bb_ BK250 hb; replace BK251 := bb_ BK251 hb; replace HB := hs_ hb; (try clear hb); have hnb42 := NB251_249.out; have hnc42 := NB249_251.out; have hnb43 := NB251_250.out; have hnc43 := NB250_251.out; have hcz44 := bc4_ BK251.out; have hfz44 := bf4_ BK251.out))
         refine bodyPost_ret (results_ctt rfl _ _ gb251 29 #[.int .u64 t267, .int .u64 t268, .int .u8 t269, .int .u8 t270] (0, 0) _ rfl (by (with_reducible repeat first | apply bN_ | apply bD_ | apply bA_); refine blk_put (cs := #[.int .u64 t267, .int .u64 t268, .int .u8 t269, .int .u8 0]) ?_ 3 _ rfl; refine blk_put (cs := #[.int .u64 t267, .int .u64 t268, .int .u8 0, .int .u8 0]) ?_ 2 _ rfl; refine blk_put (cs := #[.int .u64 t267, .int .u64 0, .int .u8 0, .int .u8 0]) ?_ 1 _ rfl; refine blk_put (cs := #[.int .u64 0, .int .u64 0, .int .u8 0, .int .u8 0]) ?_ 0 _ rfl; exact bm_ BK251.out) Tryz.underlying29 rfl (by kernel_rfl)) rfl ?_
         exact ⟨by first | rfl | (simp [errW_none, errW_some] <;> rfl) | (simp [*, errW_none, errW_some] <;> rfl), qz_⟩
        ·rw [if_neg c39] at H
         have c39b0 : ((rd t255 0) == (rd t255 1)) = false := beq_eq_false_iff_ne.mpr c39
         have c39b1 : ((rd t255 0) != (rd t255 1)) = true := bne_iff_ne.mpr c39
         obtain ⟨⟨t271, t272, t273, t274⟩, A45, H⟩ := bs_ H
         try dsimp -simprocs only at H
         have HC46 := A0_ H
         clear H
         have hnb47 := NB250_249.out
         have hnc47 := NB249_250.out
         have hnb48 := NB250_251.out
         have hnc48 := NB251_250.out
         have hcz49 := bc2_ BK250.out
         have hfz49 := bf2_ BK250.out
         go_upto_if 71 with (first | ((with_reducible refine gate_callee (f := 11) rfl ?_); refine goesL_ (some 69) rfl rfl Tryz.func11 (by kernel_rfl) rfl #[.int .u8 a0, .agg #[.int .u64 a3_0, .int .u64 a3_1], .int .u8 (rd t255 1)] rfl (am_ rfl) ?_; (with_reducible refine (special_boxOf.calls kj30 a0 a3_0 a3_1 (rd t255 1) t271 t272 t273 t274 _ A45.out).mono ?_); rintro e w50 ⟨rfl, hb⟩; refine ⟨_, rfl, ?_⟩; replace BK249 := bb_ BK249 hb; replace BK250 := bb_ BK250 hb; replace BK251 := bb_ BK251 hb; replace HB := hs_ hb; (try clear hb)) | ((with_reducible refine gate_dst (N := 17) rfl ?_); refine box_event ?hg (N := 17) ?hd (cs := #[.int .i64 0, .bool false, .int .i64 0, .bool false]) (t := 48) ?hr ?_; (case hd => rfl); (case hg => rfl); (case hr => first | (go_simp; done) | (go_simp; rfl)); intro gb275 hg w51 hbox hb; have BK275 := A0_ (hbox); have GW275 := A0_ ((by rw [hg]; exact (below_size qz_) : w.heap.size ≤ gb275)); have GE275 := GW275; replace HB := hs_ hb; have NB249_275 := nl_ hg BK249; have NB275_249 := ng_ hg BK249; replace BK249 := bb_ BK249 hb; have NB250_275 := nl_ hg BK250; have NB275_250 := ng_ hg BK250; replace BK250 := bb_ BK250 hb; have NB251_275 := nl_ hg BK251; have NB275_251 := ng_ hg BK251; replace BK251 := bb_ BK251 hb; clear hb hbox hg; have hnb52 := NB275_249.out; have hnc52 := NB249_275.out; have hnb53 := NB275_250.out; have hnc53 := NB250_275.out; have hnb54 := NB275_251.out; have hnc54 := NB251_275.out; have hcz55 := bc4_ BK275.out; have hfz55 := bf4_ BK275.out))
         (try simp only [Act.put, sp_])
         go_cut [] (fun wc => ∃ (kq : Nat) (x276000_45 : Int), Aside0 (special_Div.j2 kq a0 a1 (rd t255 0) (rd t255 1) t261 a2_0 a2_1 x276000_45 t272 t273 t274 = some (r1, r2, r3, r4, r5, r6)) ∧ Aside0 (kq ≤ kj30) ∧ Aside0 (wc.heap[gb249]? = some (.cells #[.int .u64 a2_0, .int .u64 a2_1] 26 (0, 0))) ∧ Aside0 (wc.heap[gb250]? = some (.cells #[.int .u64 a3_0, .int .u64 a3_1] 26 (0, 0))) ∧ Aside0 (wc.heap[gb251]? = some (.cells #[.int .u64 0, .int .u64 0, .int .u8 0, .int .u8 0] 29 (0, 0))) ∧ Aside0 (wc.heap[gb275]? = some (.cells #[.int .i64 x276000_45, .bool t272, .int .i64 t273, .bool t274] 48 (0, 0))) ∧ Aside0 (Below w.heap.size w wc))
         case first =>
          have H := HC46.out
          clear HC46
          by_cases c56 : (rd t255 1) = 1
          ·rw [if_pos c56] at H
           have c56b0 : ((rd t255 1) == 1) = true := beq_iff_eq.mpr c56
           have c56b1 : ((rd t255 1) != 1) = false := bne_eq_false_iff_eq.mpr c56
           clear c56
           (first | rw [c56b0] | (simp only [i64_w, i32_w]; rw [c56b0]) | skip)
           by_cases c57 : t272 = true
           ·subst c57
            rw [if_pos rfl] at H
            have H' := A0_ H
            clear H
            have hnb58 := NB275_249.out
            have hnc58 := NB249_275.out
            have hnb59 := NB275_250.out
            have hnc59 := NB250_275.out
            have hnb60 := NB275_251.out
            have hnc60 := NB251_275.out
            have hcz61 := bc4_ BK275.out
            have hfz61 := bf4_ BK275.out
            go_wp2
            go_meet
            case rel => exact ⟨_, ((-1)), H', ⟨by have := HJ9.out; have := HJ30.out; first | omega | exact Nat.le_refl _⟩, ⟨by (with_reducible repeat first | apply bN_ | apply bD_ | apply bA_); refine blk_far ?_ NB249_275.out _; refine blk_far ?_ NB249_275.out _; refine blk_far ?_ NB249_275.out _; refine blk_far ?_ NB249_275.out _; refine blk_far ?_ NB249_275.out _; refine blk_far ?_ NB249_275.out _; exact bm_ BK249.out⟩, ⟨by (with_reducible repeat first | apply bN_ | apply bD_ | apply bA_); refine blk_far ?_ NB250_275.out _; refine blk_far ?_ NB250_275.out _; refine blk_far ?_ NB250_275.out _; refine blk_far ?_ NB250_275.out _; refine blk_far ?_ NB250_275.out _; refine blk_far ?_ NB250_275.out _; exact bm_ BK250.out⟩, ⟨by (with_reducible repeat first | apply bN_ | apply bD_ | apply bA_); refine blk_far ?_ NB251_275.out _; refine blk_far ?_ NB251_275.out _; refine blk_far ?_ NB251_275.out _; refine blk_far ?_ NB251_275.out _; refine blk_far ?_ NB251_275.out _; refine blk_far ?_ NB251_275.out _; exact bm_ BK251.out⟩, ⟨by (with_reducible repeat first | apply bN_ | apply bD_ | apply bA_); refine blk_put (cs := #[.int .i64 1, .bool true, .int .i64 t273, .bool t274]) ?_ 0 _ rfl; refine blk_put (cs := #[.int .i64 t271, .bool true, .int .i64 t273, .bool t274]) ?_ 0 _ rfl; refine blk_put (cs := #[.int .i64 t271, .bool true, .int .i64 t273, .bool false]) ?_ 3 _ rfl; refine blk_put (cs := #[.int .i64 t271, .bool true, .int .i64 0, .bool false]) ?_ 2 _ rfl; refine blk_put (cs := #[.int .i64 t271, .bool false, .int .i64 0, .bool false]) ?_ 1 _ rfl; refine blk_put (cs := #[.int .i64 0, .bool false, .int .i64 0, .bool false]) ?_ 0 _ rfl; exact bm_ BK275.out⟩, ⟨qz_⟩⟩
           ·replace c57 := Bool.eq_false_iff.mpr c57
            subst c57
            rw [if_neg (show ¬ (false = true) by decide)] at H
            have H' := A0_ H
            clear H
            have hnb62 := NB275_249.out
            have hnc62 := NB249_275.out
            have hnb63 := NB275_250.out
            have hnc63 := NB250_275.out
            have hnb64 := NB275_251.out
            have hnc64 := NB251_275.out
            have hcz65 := bc4_ BK275.out
            have hfz65 := bf4_ BK275.out
            go_wp2
            go_meet
            case rel => exact ⟨_, (1), H', ⟨by have := HJ9.out; have := HJ30.out; first | omega | exact Nat.le_refl _⟩, ⟨by (with_reducible repeat first | apply bN_ | apply bD_ | apply bA_); refine blk_far ?_ NB249_275.out _; refine blk_far ?_ NB249_275.out _; refine blk_far ?_ NB249_275.out _; refine blk_far ?_ NB249_275.out _; refine blk_far ?_ NB249_275.out _; exact bm_ BK249.out⟩, ⟨by (with_reducible repeat first | apply bN_ | apply bD_ | apply bA_); refine blk_far ?_ NB250_275.out _; refine blk_far ?_ NB250_275.out _; refine blk_far ?_ NB250_275.out _; refine blk_far ?_ NB250_275.out _; refine blk_far ?_ NB250_275.out _; exact bm_ BK250.out⟩, ⟨by (with_reducible repeat first | apply bN_ | apply bD_ | apply bA_); refine blk_far ?_ NB251_275.out _; refine blk_far ?_ NB251_275.out _; refine blk_far ?_ NB251_275.out _; refine blk_far ?_ NB251_275.out _; refine blk_far ?_ NB251_275.out _; exact bm_ BK251.out⟩, ⟨by (with_reducible repeat first | apply bN_ | apply bD_ | apply bA_); refine blk_put (cs := #[.int .i64 t271, .bool false, .int .i64 t273, .bool t274]) ?_ 0 _ rfl; refine blk_put (cs := #[.int .i64 t271, .bool false, .int .i64 t273, .bool false]) ?_ 3 _ rfl; refine blk_put (cs := #[.int .i64 t271, .bool false, .int .i64 0, .bool false]) ?_ 2 _ rfl; refine blk_put (cs := #[.int .i64 t271, .bool false, .int .i64 0, .bool false]) ?_ 1 _ rfl; refine blk_put (cs := #[.int .i64 0, .bool false, .int .i64 0, .bool false]) ?_ 0 _ rfl; exact bm_ BK275.out⟩, ⟨qz_⟩⟩
          ·rw [if_neg c56] at H
           have c56b0 : ((rd t255 1) == 1) = false := beq_eq_false_iff_ne.mpr c56
           have c56b1 : ((rd t255 1) != 1) = true := bne_iff_ne.mpr c56
           (first | rw [c56b0] | (simp only [i64_w, i32_w]; rw [c56b0]) | skip)
           have H' := A0_ H
           clear H
           go_wp2
           go_meet
           case rel => exact ⟨_, (t271), H', ⟨by have := HJ9.out; have := HJ30.out; first | omega | exact Nat.le_refl _⟩, ⟨by (with_reducible repeat first | apply bN_ | apply bD_ | apply bA_); refine blk_far ?_ NB249_275.out _; refine blk_far ?_ NB249_275.out _; refine blk_far ?_ NB249_275.out _; refine blk_far ?_ NB249_275.out _; exact bm_ BK249.out⟩, ⟨by (with_reducible repeat first | apply bN_ | apply bD_ | apply bA_); refine blk_far ?_ NB250_275.out _; refine blk_far ?_ NB250_275.out _; refine blk_far ?_ NB250_275.out _; refine blk_far ?_ NB250_275.out _; exact bm_ BK250.out⟩, ⟨by (with_reducible repeat first | apply bN_ | apply bD_ | apply bA_); refine blk_far ?_ NB251_275.out _; refine blk_far ?_ NB251_275.out _; refine blk_far ?_ NB251_275.out _; refine blk_far ?_ NB251_275.out _; exact bm_ BK251.out⟩, ⟨by (with_reducible repeat first | apply bN_ | apply bD_ | apply bA_); refine blk_put (cs := #[.int .i64 t271, .bool t272, .int .i64 t273, .bool false]) ?_ 3 _ rfl; refine blk_put (cs := #[.int .i64 t271, .bool t272, .int .i64 0, .bool false]) ?_ 2 _ rfl; refine blk_put (cs := #[.int .i64 t271, .bool false, .int .i64 0, .bool false]) ?_ 1 _ rfl; refine blk_put (cs := #[.int .i64 0, .bool false, .int .i64 0, .bool false]) ?_ 0 _ rfl; exact bm_ BK275.out⟩, ⟨qz_⟩⟩
         case rest =>
          clear HC46
          try clear c1
          try clear c2
          try clear p2
          try clear q2
          try clear hx2
          try clear qi2
          try clear c3
          try clear c4
          try clear c5
          try clear c6
          try clear c6b0
          try clear c6b1
          try clear c7
          try clear c7b0
          try clear c7b1
          try clear c8
          try clear c8b0
          try clear c8b1
          try clear c9
          try clear c10
          try clear c11
          try clear c14
          try clear c15
          try clear c17
          try clear p25
          try clear q25
          try clear hx25
          try clear qi25
          try clear c26
          try clear c26b0
          try clear p26
          try clear q26
          try clear hx26
          try clear qi26
          try clear c27
          try clear c28
          try clear c29
          try clear c32
          try clear c32b0
          try clear c32b1
          try clear c33
          try clear c36
          try clear c37
          try clear c39
          try clear c39b0
          try clear c39b1
          try clear c42
          try clear c43
          try clear c47
          try clear c48
          try clear c52
          try clear c53
          try clear c54
          try clear c56
          try clear c56b0
          try clear c56b1
          try clear c57
          try clear c58
          try clear c59
          try clear c60
          try clear c62
          try clear c63
          try clear c64
          try clear hcz16
          try clear hcz18
          try clear hcz30
          try clear hcz38
          try clear hcz44
          try clear hcz49
          try clear hcz55
          try clear hcz61
          try clear hcz65
          try clear hfz16
          try clear hfz18
          try clear hfz30
          try clear hfz38
          try clear hfz44
          try clear hfz49
          try clear hfz55
          try clear hfz61
          try clear hfz65
          try clear hx259_0
          try clear hx260_0
          try clear p2
          try clear p25
          try clear p259
          try clear p26
          try clear p260
          try clear q2
          try clear q25
          try clear q259
          try clear q26
          try clear q260
          obtain ⟨kq, x276000_45, HA, HJ45, BK249, BK250, BK251, BK275, HB⟩ := hcut
          cases kq with
          | zero => exact absurd HA.out (by simp [special_Div.j2])
          | succ kj45 =>
           have H := HA.out
           clear HA
           simp only [special_Div.j2] at H
           obtain ⟨⟨t276, t277⟩, A66, H⟩ := bs_ H
           try dsimp -simprocs only at H
           obtain ⟨⟨t278, t279, t280, t281⟩, A67, H⟩ := bs_ H
           try dsimp -simprocs only at H
           obtain ⟨⟨t282, t283, t284, t285⟩, A68, H⟩ := bs_ H
           try dsimp -simprocs only at H
           have HH_ := A0_ H
           clear H
           have hnb71 := NB275_249.out
           have hnc71 := NB249_275.out
           have hnb72 := NB275_250.out
           have hnc72 := NB250_275.out
           have hnb73 := NB275_251.out
           have hnc73 := NB251_275.out
           have hcz74 := bc4_ BK275.out
           have hfz74 := bf4_ BK275.out
           try go_wp2_with (first | ((with_reducible refine gate_callee (f := 12) rfl ?_); refine goesL_ (some 81) rfl rfl Tryz.func12 (by kernel_rfl) rfl #[.agg #[.int .i64 t273, .bool t274]] rfl (am_ rfl) ?_; (with_reducible refine (special_side_minus.calls t273 t274 t276 t277 _ A66.out).mono ?_); rintro e w75 ⟨rfl, hb⟩; refine ⟨_, rfl, ?_⟩; replace BK249 := bb_ BK249 hb; replace BK250 := bb_ BK250 hb; replace BK251 := bb_ BK251 hb; replace BK275 := bb_ BK275 hb; replace HB := hs_ hb; (try clear hb); have hcz76 := bc4_ BK275.out; have hfz76 := bf4_ BK275.out))
           have n0_ : Aside0 (((w75.setCell ⟨gb275, 2, none⟩ (.int .i64 t276)).setCell ⟨gb275, 3, none⟩ (.bool t277)).heap[gb249]? = some (.cells #[.int .u64 a2_0, .int .u64 a2_1] 26 (0, 0))) := ⟨by (with_reducible repeat first | apply bN_ | apply bD_ | apply bA_); refine blk_far ?_ NB249_275.out _; refine blk_far ?_ NB249_275.out _; exact bm_ BK249.out⟩
           have n1_ : Aside0 (((w75.setCell ⟨gb275, 2, none⟩ (.int .i64 t276)).setCell ⟨gb275, 3, none⟩ (.bool t277)).heap[gb250]? = some (.cells #[.int .u64 a3_0, .int .u64 a3_1] 26 (0, 0))) := ⟨by (with_reducible repeat first | apply bN_ | apply bD_ | apply bA_); refine blk_far ?_ NB250_275.out _; refine blk_far ?_ NB250_275.out _; exact bm_ BK250.out⟩
           have n2_ : Aside0 (((w75.setCell ⟨gb275, 2, none⟩ (.int .i64 t276)).setCell ⟨gb275, 3, none⟩ (.bool t277)).heap[gb251]? = some (.cells #[.int .u64 0, .int .u64 0, .int .u8 0, .int .u8 0] 29 (0, 0))) := ⟨by (with_reducible repeat first | apply bN_ | apply bD_ | apply bA_); refine blk_far ?_ NB251_275.out _; refine blk_far ?_ NB251_275.out _; exact bm_ BK251.out⟩
           have n3_ : Aside0 (((w75.setCell ⟨gb275, 2, none⟩ (.int .i64 t276)).setCell ⟨gb275, 3, none⟩ (.bool t277)).heap[gb275]? = some (.cells #[.int .i64 x276000_45, .bool t272, .int .i64 t276, .bool t277] 48 (0, 0))) := ⟨by (with_reducible repeat first | apply bN_ | apply bD_ | apply bA_); refine blk_put (cs := #[.int .i64 x276000_45, .bool t272, .int .i64 t276, .bool t274]) ?_ 3 _ rfl; refine blk_put (cs := #[.int .i64 x276000_45, .bool t272, .int .i64 t273, .bool t274]) ?_ 2 _ rfl; exact bm_ BK275.out⟩
           have n4_ : Aside0 (Below w.heap.size w ((w75.setCell ⟨gb275, 2, none⟩ (.int .i64 t276)).setCell ⟨gb275, 3, none⟩ (.bool t277))) := ⟨qz_⟩
           (try clear BK249)
           (try clear BK250)
           (try clear BK251)
           (try clear BK275)
           (try clear HB)
           generalize ((w75.setCell ⟨gb275, 2, none⟩ (.int .i64 t276)).setCell ⟨gb275, 3, none⟩ (.bool t277)) = w77 at n0_ n1_ n2_ n3_ n4_ ⊢
           have BK249 := n0_
           have BK250 := n1_
           have BK251 := n2_
           have BK275 := n3_
           have HB := n4_
           clear n0_ n1_ n2_ n3_ n4_
           replace BK249 := A0_ (blk_drew BK249.out)
           replace BK250 := A0_ (blk_drew BK250.out)
           replace BK251 := A0_ (blk_drew BK251.out)
           replace BK275 := A0_ (blk_drew BK275.out)
           replace HB := A0_ (below_drew1 HB.out)
           refine start_ (n := 9) (S := fun w' => w'.cell? ⟨gb249, 0, none⟩ = some (.int .u64 a2_0) ∧ w'.cell? ⟨gb249, 1, none⟩ = some (.int .u64 a2_1) ∧ w'.cell? ⟨gb275, 0, none⟩ = some (.int .i64 x276000_45) ∧ w'.cell? ⟨gb275, 1, none⟩ = some (.bool t272) ∧ w'.cell? ⟨gb275, 2, none⟩ = some (.int .i64 t276) ∧ w'.cell? ⟨gb275, 3, none⟩ = some (.bool t277)) (ds := []) #[false, false, false, false, false, false, false, false, false] (by kernel_rfl) rfl rfl ⟨bC_ BK249.out 0, bC_ BK249.out 1, bC_ BK275.out 0, bC_ BK275.out 1, bC_ BK275.out 2, bC_ BK275.out 3⟩ (fun hHeld => ?_); refine with_tabW special_Div.tab18 special_Div.bits18 (fun HT_ HW_ => ?_)
           generalize w77.drew = w78 at BK249 BK250 BK251 BK275 HB hHeld ⊢
           refine pure_ (i := 0) (N := some 83) (v := ?_) (a' := ?_) #[true, false, false, false, false, false, false, false, false] rfl rfl (any_of HT_.out (by kernel_rfl)) (fun _ _ _ h => h) (Or.inl ⟨by rfl, ?_⟩) ?_ ?_
           rotate_left
           ·intro w'
            go_simp
            with_reducible rfl
           rotate_left
           ·simp only [Act.put, sp_, i64_w, i32_w]
            rfl
           refine pure_ (i := 2) (N := some 85) (v := ?_) (a' := ?_) #[true, false, true, false, false, false, false, false, false] rfl rfl (any_of HT_.out (by kernel_rfl)) (fun _ _ _ h => h) (Or.inl ⟨by rfl, ?_⟩) ?_ ?_
           rotate_left
           ·intro w'
            go_simp
            with_reducible rfl
           rotate_left
           ·simp only [Act.put, sp_, i64_w, i32_w]
            rfl
           refine pure_ (i := 5) (N := some 88) (v := ?_) (a' := ?_) #[true, false, true, false, false, true, false, false, false] rfl rfl (any_of HT_.out (by kernel_rfl)) (fun _ _ _ h => h) (Or.inl ⟨by rfl, ?_⟩) ?_ ?_
           rotate_left
           ·intro w'
            go_simp
            with_reducible rfl
           rotate_left
           ·simp only [Act.put, sp_, i64_w, i32_w]
            rfl
           refine take_ (i := 1) (N := some 84) (v := ?_) (a' := ?_) #[true, true, true, false, false, true, false, false, false] rfl rfl (take_ofW HT_.out HW_.out (by kernel_rfl)) (fun _ _ _ h => h) (Or.inl ⟨by rfl, ?_⟩) hHeld ?_ ?_
           rotate_left
           ·rintro w' ⟨s0, s1, s2, s3, s4, s5⟩
            go_simp
            with_reducible rfl
           rotate_left
           ·simp only [Act.put, sp_, i64_w, i32_w]
            rfl
           refine take_ (i := 4) (N := some 87) (v := ?_) (a' := ?_) #[true, true, true, false, true, true, false, false, false] rfl rfl (take_ofW HT_.out HW_.out (by kernel_rfl)) (fun _ _ _ h => h) (Or.inl ⟨by rfl, ?_⟩) hHeld ?_ ?_
           rotate_left
           ·rintro w' ⟨s0, s1, s2, s3, s4, s5⟩
            go_simp
            with_reducible rfl
           rotate_left
           ·simp only [Act.put, sp_, i64_w, i32_w]
            rfl
           refine join_ (σ := Nat) 1 #[true, true, true, true, true, true, true, true, false] (fun s_ => [(86, .agg #[.int .i64 t278, .bool t279, .int .i64 t280, .bool t281]), (89, .agg #[.int .i64 t282, .bool t283, .int .i64 t284, .bool t285]), (18, .pointer (some ⟨s_, 0, none⟩))]) (fun s_ w' => (w'.cell? ⟨gb249, 0, none⟩ = some (.int .u64 a2_0) ∧ w'.cell? ⟨gb249, 1, none⟩ = some (.int .u64 a2_1) ∧ w'.cell? ⟨gb275, 0, none⟩ = some (.int .i64 x276000_45) ∧ w'.cell? ⟨gb275, 1, none⟩ = some (.bool t272) ∧ w'.cell? ⟨gb275, 2, none⟩ = some (.int .i64 t276) ∧ w'.cell? ⟨gb275, 3, none⟩ = some (.bool t277)) ∧ (w'.heap[gb249]? = some (.cells #[.int .u64 a2_0, .int .u64 a2_1] 26 (0, 0))) ∧ (w'.heap[gb250]? = some (.cells #[.int .u64 a3_0, .int .u64 a3_1] 26 (0, 0))) ∧ (w'.heap[gb251]? = some (.cells #[.int .u64 0, .int .u64 0, .int .u8 0, .int .u8 0] 29 (0, 0))) ∧ (w'.heap[gb275]? = some (.cells #[.int .i64 x276000_45, .bool t272, .int .i64 t276, .bool t277] 48 (0, 0))) ∧ (w'.heap[s_]? = some (.cells #[.int .i64 0, .bool false, .int .i64 0, .bool false] 48 (0, 0))) ∧ (w.heap.size ≤ s_) ∧ (w.heap.size ≤ s_) ∧ (gb249 ≠ s_) ∧ (s_ ≠ gb249) ∧ (gb250 ≠ s_) ∧ (s_ ≠ gb250) ∧ (gb251 ≠ s_) ∧ (s_ ≠ gb251) ∧ (gb275 ≠ s_) ∧ (s_ ≠ gb275) ∧ (Below w.heap.size w w')) ?_ ?_
           rotate_left
           ·intro hCont
            refine two_ (i := 3) (j := 7) (Ni := some 86) (Nj := some 18) #[true, true, true, true, true, true, false, false, false] #[true, true, true, false, true, true, false, true, false] rfl rfl rfl rfl (two_of HT_.out (by kernel_rfl)) (by decide) (by decide) (fun K hK => ?_) (fun K hK => ?_)
            ·skip
             refine goes_ Tryz.func11 (by kernel_rfl) rfl #[.int .u8 a0, .agg #[.int .u64 a2_0, .int .u64 a2_1], .int .u8 (rd t255 0)] (by rfl) rfl rfl (am_ rfl) ?_
             with_reducible refine (special_boxOf.calls kj45 a0 a2_0 a2_1 (rd t255 0) t278 t279 t280 t281 _ A67.out).mono ?_
             rintro e w79 ⟨rfl, hb⟩
             refine ⟨_, rfl, ?_⟩
             replace BK249 := bb_ BK249 hb
             replace BK250 := bb_ BK250 hb
             replace BK251 := bb_ BK251 hb
             replace BK275 := bb_ BK275 hb
             replace HB := hs_ hb
             (try clear hb)
             refine hK.out _ _ ⟨bC_ BK249.out 0, bC_ BK249.out 1, bC_ BK275.out 0, bC_ BK275.out 1, bC_ BK275.out 2, bC_ BK275.out 3⟩ (fun hHeld => ?_)
             clear hK K
             refine norm_ (a' := ?_) ?_ ?_
             rotate_left
             ·show Act.put _ (some 86) _ = _
              simp only [Act.put, sp_, i64_w, i32_w]
              rfl
             refine two_ (i := 6) (j := 7) (Ni := some 89) (Nj := some 18) #[true, true, true, true, true, true, true, false, false] #[true, true, true, true, true, true, false, true, false] rfl rfl rfl rfl (two_of HT_.out (by kernel_rfl)) (by decide) (by decide) (fun K hK => ?_) (fun K hK => ?_)
             ·skip
              refine goes_ Tryz.func13 (by kernel_rfl) rfl #[.agg #[.int .i64 t278, .bool t279, .int .i64 t280, .bool t281], .agg #[.int .i64 x276000_45, .bool t272, .int .i64 t276, .bool t277], .int .u8 a1] (by rfl) rfl rfl (am_ rfl) ?_
              with_reducible refine (special_box_times.calls t278 t279 t280 t281 x276000_45 t272 t276 t277 a1 t282 t283 t284 t285 _ A68.out).mono ?_
              rintro e w80 ⟨rfl, hb⟩
              refine ⟨_, rfl, ?_⟩
              replace BK249 := bb_ BK249 hb
              replace BK250 := bb_ BK250 hb
              replace BK251 := bb_ BK251 hb
              replace BK275 := bb_ BK275 hb
              replace HB := hs_ hb
              (try clear hb)
              refine hK.out _ _ ⟨bC_ BK249.out 0, bC_ BK249.out 1, bC_ BK275.out 0, bC_ BK275.out 1, bC_ BK275.out 2, bC_ BK275.out 3⟩ (fun hHeld => ?_)
              clear hK K
              refine norm_ (a' := ?_) ?_ ?_
              rotate_left
              ·show Act.put _ (some 89) _ = _
               simp only [Act.put, sp_, i64_w, i32_w]
               rfl
              refine one_ (i := 7) (N := some 18) #[true, true, true, true, true, true, true, true, false] rfl rfl (one_of HT_.out (by kernel_rfl)) (by decide) (fun K hK => ?_)
              refine box_step ?hg (N := 18) ?hd (cs := #[.int .i64 0, .bool false, .int .i64 0, .bool false]) (t := 48) ?hr ?_; (case hd => rfl); (case hg => rfl); (case hr => first | (go_simp; done) | (go_simp; rfl))
              intro gb286 hg w81 hbox hb
              have BK286 := A0_ (hbox)
              have GW286 := A0_ ((by rw [hg]; exact (below_size qz_) : w.heap.size ≤ gb286))
              have GE286 := GW286
              replace HB := hs_ hb
              have NB249_286 := nl_ hg BK249
              have NB286_249 := ng_ hg BK249
              replace BK249 := bb_ BK249 hb
              have NB250_286 := nl_ hg BK250
              have NB286_250 := ng_ hg BK250
              replace BK250 := bb_ BK250 hb
              have NB251_286 := nl_ hg BK251
              have NB286_251 := ng_ hg BK251
              replace BK251 := bb_ BK251 hb
              have NB275_286 := nl_ hg BK275
              have NB286_275 := ng_ hg BK275
              replace BK275 := bb_ BK275 hb
              clear hb hbox hg
              refine hK.out _ _ ⟨bC_ BK249.out 0, bC_ BK249.out 1, bC_ BK275.out 0, bC_ BK275.out 1, bC_ BK275.out 2, bC_ BK275.out 3⟩ (fun hHeld => ?_)
              clear hK K
              refine norm_ (a' := ?_) ?_ ?_
              rotate_left
              ·show Act.put _ (some 18) _ = _
               simp only [Act.put, sp_, i64_w, i32_w]
               rfl
              exact norm_ (by simp only [putAll, Act.put, sp_]) (hCont (gb286) _ ⟨hHeld, (bm_ BK249.out), (bm_ BK250.out), (bm_ BK251.out), (bm_ BK275.out), (bm_ BK286.out), GW286.out, GE286.out, NB249_286.out, NB286_249.out, NB250_286.out, NB286_250.out, NB251_286.out, NB286_251.out, NB275_286.out, NB286_275.out, qz_⟩)
             ·skip
              refine box_step ?hg (N := 18) ?hd (cs := #[.int .i64 0, .bool false, .int .i64 0, .bool false]) (t := 48) ?hr ?_; (case hd => rfl); (case hg => rfl); (case hr => first | (go_simp; done) | (go_simp; rfl))
              intro gb286 hg w80 hbox hb
              have BK286 := A0_ (hbox)
              have GW286 := A0_ ((by rw [hg]; exact (below_size qz_) : w.heap.size ≤ gb286))
              have GE286 := GW286
              replace HB := hs_ hb
              have NB249_286 := nl_ hg BK249
              have NB286_249 := ng_ hg BK249
              replace BK249 := bb_ BK249 hb
              have NB250_286 := nl_ hg BK250
              have NB286_250 := ng_ hg BK250
              replace BK250 := bb_ BK250 hb
              have NB251_286 := nl_ hg BK251
              have NB286_251 := ng_ hg BK251
              replace BK251 := bb_ BK251 hb
              have NB275_286 := nl_ hg BK275
              have NB286_275 := ng_ hg BK275
              replace BK275 := bb_ BK275 hb
              clear hb hbox hg
              refine hK.out _ _ ⟨bC_ BK249.out 0, bC_ BK249.out 1, bC_ BK275.out 0, bC_ BK275.out 1, bC_ BK275.out 2, bC_ BK275.out 3⟩ (fun hHeld => ?_)
              clear hK K
              refine norm_ (a' := ?_) ?_ ?_
              rotate_left
              ·show Act.put _ (some 18) _ = _
               simp only [Act.put, sp_, i64_w, i32_w]
               rfl
              refine one_ (i := 6) (N := some 89) #[true, true, true, true, true, true, true, true, false] rfl rfl (one_of HT_.out (by kernel_rfl)) (by decide) (fun K hK => ?_)
              refine goes_ Tryz.func13 (by kernel_rfl) rfl #[.agg #[.int .i64 t278, .bool t279, .int .i64 t280, .bool t281], .agg #[.int .i64 x276000_45, .bool t272, .int .i64 t276, .bool t277], .int .u8 a1] (by rfl) rfl rfl (am_ rfl) ?_
              with_reducible refine (special_box_times.calls t278 t279 t280 t281 x276000_45 t272 t276 t277 a1 t282 t283 t284 t285 _ A68.out).mono ?_
              rintro e w81 ⟨rfl, hb⟩
              refine ⟨_, rfl, ?_⟩
              replace BK249 := bb_ BK249 hb
              replace BK250 := bb_ BK250 hb
              replace BK251 := bb_ BK251 hb
              replace BK275 := bb_ BK275 hb
              replace BK286 := bb_ BK286 hb
              replace HB := hs_ hb
              (try clear hb)
              refine hK.out _ _ ⟨bC_ BK249.out 0, bC_ BK249.out 1, bC_ BK275.out 0, bC_ BK275.out 1, bC_ BK275.out 2, bC_ BK275.out 3⟩ (fun hHeld => ?_)
              clear hK K
              refine norm_ (a' := ?_) ?_ ?_
              rotate_left
              ·show Act.put _ (some 89) _ = _
               simp only [Act.put, sp_, i64_w, i32_w]
               rfl
              exact norm_ (by simp only [putAll, Act.put, sp_]) (hCont (gb286) _ ⟨hHeld, (bm_ BK249.out), (bm_ BK250.out), (bm_ BK251.out), (bm_ BK275.out), (bm_ BK286.out), GW286.out, GE286.out, NB249_286.out, NB286_249.out, NB250_286.out, NB286_250.out, NB251_286.out, NB286_251.out, NB275_286.out, NB286_275.out, qz_⟩)
            ·skip
             refine box_step ?hg (N := 18) ?hd (cs := #[.int .i64 0, .bool false, .int .i64 0, .bool false]) (t := 48) ?hr ?_; (case hd => rfl); (case hg => rfl); (case hr => first | (go_simp; done) | (go_simp; rfl))
             intro gb286 hg w79 hbox hb
             have BK286 := A0_ (hbox)
             have GW286 := A0_ ((by rw [hg]; exact (below_size qz_) : w.heap.size ≤ gb286))
             have GE286 := GW286
             replace HB := hs_ hb
             have NB249_286 := nl_ hg BK249
             have NB286_249 := ng_ hg BK249
             replace BK249 := bb_ BK249 hb
             have NB250_286 := nl_ hg BK250
             have NB286_250 := ng_ hg BK250
             replace BK250 := bb_ BK250 hb
             have NB251_286 := nl_ hg BK251
             have NB286_251 := ng_ hg BK251
             replace BK251 := bb_ BK251 hb
             have NB275_286 := nl_ hg BK275
             have NB286_275 := ng_ hg BK275
             replace BK275 := bb_ BK275 hb
             clear hb hbox hg
             refine hK.out _ _ ⟨bC_ BK249.out 0, bC_ BK249.out 1, bC_ BK275.out 0, bC_ BK275.out 1, bC_ BK275.out 2, bC_ BK275.out 3⟩ (fun hHeld => ?_)
             clear hK K
             refine norm_ (a' := ?_) ?_ ?_
             rotate_left
             ·show Act.put _ (some 18) _ = _
              simp only [Act.put, sp_, i64_w, i32_w]
              rfl
             refine one_ (i := 3) (N := some 86) #[true, true, true, true, true, true, false, true, false] rfl rfl (one_of HT_.out (by kernel_rfl)) (by decide) (fun K hK => ?_)
             refine goes_ Tryz.func11 (by kernel_rfl) rfl #[.int .u8 a0, .agg #[.int .u64 a2_0, .int .u64 a2_1], .int .u8 (rd t255 0)] (by rfl) rfl rfl (am_ rfl) ?_
             with_reducible refine (special_boxOf.calls kj45 a0 a2_0 a2_1 (rd t255 0) t278 t279 t280 t281 _ A67.out).mono ?_
             rintro e w80 ⟨rfl, hb⟩
             refine ⟨_, rfl, ?_⟩
             replace BK249 := bb_ BK249 hb
             replace BK250 := bb_ BK250 hb
             replace BK251 := bb_ BK251 hb
             replace BK275 := bb_ BK275 hb
             replace BK286 := bb_ BK286 hb
             replace HB := hs_ hb
             (try clear hb)
             refine hK.out _ _ ⟨bC_ BK249.out 0, bC_ BK249.out 1, bC_ BK275.out 0, bC_ BK275.out 1, bC_ BK275.out 2, bC_ BK275.out 3⟩ (fun hHeld => ?_)
             clear hK K
             refine norm_ (a' := ?_) ?_ ?_
             rotate_left
             ·show Act.put _ (some 86) _ = _
              simp only [Act.put, sp_, i64_w, i32_w]
              rfl
             refine one_ (i := 6) (N := some 89) #[true, true, true, true, true, true, true, true, false] rfl rfl (one_of HT_.out (by kernel_rfl)) (by decide) (fun K hK => ?_)
             refine goes_ Tryz.func13 (by kernel_rfl) rfl #[.agg #[.int .i64 t278, .bool t279, .int .i64 t280, .bool t281], .agg #[.int .i64 x276000_45, .bool t272, .int .i64 t276, .bool t277], .int .u8 a1] (by rfl) rfl rfl (am_ rfl) ?_
             with_reducible refine (special_box_times.calls t278 t279 t280 t281 x276000_45 t272 t276 t277 a1 t282 t283 t284 t285 _ A68.out).mono ?_
             rintro e w81 ⟨rfl, hb⟩
             refine ⟨_, rfl, ?_⟩
             replace BK249 := bb_ BK249 hb
             replace BK250 := bb_ BK250 hb
             replace BK251 := bb_ BK251 hb
             replace BK275 := bb_ BK275 hb
             replace BK286 := bb_ BK286 hb
             replace HB := hs_ hb
             (try clear hb)
             refine hK.out _ _ ⟨bC_ BK249.out 0, bC_ BK249.out 1, bC_ BK275.out 0, bC_ BK275.out 1, bC_ BK275.out 2, bC_ BK275.out 3⟩ (fun hHeld => ?_)
             clear hK K
             refine norm_ (a' := ?_) ?_ ?_
             rotate_left
             ·show Act.put _ (some 89) _ = _
              simp only [Act.put, sp_, i64_w, i32_w]
              rfl
             exact norm_ (by simp only [putAll, Act.put, sp_]) (hCont (gb286) _ ⟨hHeld, (bm_ BK249.out), (bm_ BK250.out), (bm_ BK251.out), (bm_ BK275.out), (bm_ BK286.out), GW286.out, GE286.out, NB249_286.out, NB286_249.out, NB250_286.out, NB286_250.out, NB251_286.out, NB286_251.out, NB275_286.out, NB286_275.out, qz_⟩)
           rintro gb286 w82 ⟨hS_, h0_, h1_, h2_, h3_, h4_, h5_, h6_, h7_, h8_, h9_, h10_, h11_, h12_, h13_, h14_, h15_⟩
           have n0_ : Aside0 (w82.heap[gb249]? = some (.cells #[.int .u64 a2_0, .int .u64 a2_1] 26 (0, 0))) := ⟨h0_⟩
           have n1_ : Aside0 (w82.heap[gb250]? = some (.cells #[.int .u64 a3_0, .int .u64 a3_1] 26 (0, 0))) := ⟨h1_⟩
           have n2_ : Aside0 (w82.heap[gb251]? = some (.cells #[.int .u64 0, .int .u64 0, .int .u8 0, .int .u8 0] 29 (0, 0))) := ⟨h2_⟩
           have n3_ : Aside0 (w82.heap[gb275]? = some (.cells #[.int .i64 x276000_45, .bool t272, .int .i64 t276, .bool t277] 48 (0, 0))) := ⟨h3_⟩
           have n4_ : Aside0 (w82.heap[gb286]? = some (.cells #[.int .i64 0, .bool false, .int .i64 0, .bool false] 48 (0, 0))) := ⟨h4_⟩
           have n5_ : Aside0 (w.heap.size ≤ gb286) := ⟨h5_⟩
           have n6_ : Aside0 (w.heap.size ≤ gb286) := ⟨h6_⟩
           have n7_ : Aside0 (gb249 ≠ gb286) := ⟨h7_⟩
           have n8_ : Aside0 (gb286 ≠ gb249) := ⟨h8_⟩
           have n9_ : Aside0 (gb250 ≠ gb286) := ⟨h9_⟩
           have n10_ : Aside0 (gb286 ≠ gb250) := ⟨h10_⟩
           have n11_ : Aside0 (gb251 ≠ gb286) := ⟨h11_⟩
           have n12_ : Aside0 (gb286 ≠ gb251) := ⟨h12_⟩
           have n13_ : Aside0 (gb275 ≠ gb286) := ⟨h13_⟩
           have n14_ : Aside0 (gb286 ≠ gb275) := ⟨h14_⟩
           have n15_ : Aside0 (Below w.heap.size w w82) := ⟨h15_⟩
           clear BK249 BK250 BK251 BK275 HB h0_ h1_ h2_ h3_ h4_ h5_ h6_ h7_ h8_ h9_ h10_ h11_ h12_ h13_ h14_ h15_
           have BK249 := n0_
           have BK250 := n1_
           have BK251 := n2_
           have BK275 := n3_
           have BK286 := n4_
           have GW286 := n5_
           have GE286 := n6_
           have NB249_286 := n7_
           have NB286_249 := n8_
           have NB250_286 := n9_
           have NB286_250 := n10_
           have NB251_286 := n11_
           have NB286_251 := n12_
           have NB275_286 := n13_
           have NB286_275 := n14_
           have HB := n15_
           clear n0_ n1_ n2_ n3_ n4_ n5_ n6_ n7_ n8_ n9_ n10_ n11_ n12_ n13_ n14_ n15_
           have hHeld : w82.cell? ⟨gb249, 0, none⟩ = some (.int .u64 a2_0) ∧ w82.cell? ⟨gb249, 1, none⟩ = some (.int .u64 a2_1) ∧ w82.cell? ⟨gb275, 0, none⟩ = some (.int .i64 x276000_45) ∧ w82.cell? ⟨gb275, 1, none⟩ = some (.bool t272) ∧ w82.cell? ⟨gb275, 2, none⟩ = some (.int .i64 t276) ∧ w82.cell? ⟨gb275, 3, none⟩ = some (.bool t277) := hS_
           refine norm_ (a' := ?_) ?_ ?_
           rotate_left
           ·simp only [putAll, Act.put, sp_]
            rfl
           refine one_ (i := 8) (N := none) #[true, true, true, true, true, true, true, true, true] rfl rfl (one_of HT_.out (by kernel_rfl)) (by decide) (fun K hK => ?_)
           have hs83 : w82.cell? ⟨gb286, 0, none⟩ = some (.int .i64 0) := (blk_cell BK286.out 0).trans rfl
           have hfs83 := blk_frozen BK286.out 0
           have hns83_0 := NB249_286.out
           have hns83_1 := NB250_286.out
           have hns83_2 := NB251_286.out
           have hns83_3 := NB275_286.out
           have hms83_0 := NB286_249.out
           have hms83_1 := NB286_250.out
           have hms83_2 := NB286_251.out
           have hms83_3 := NB286_275.out
           have hs84 : w82.cell? ⟨gb286, 1, none⟩ = some (.bool false) := (blk_cell BK286.out 1).trans rfl
           have hfs84 := blk_frozen BK286.out 1
           have hns84_0 := NB249_286.out
           have hns84_1 := NB250_286.out
           have hns84_2 := NB251_286.out
           have hns84_3 := NB275_286.out
           have hms84_0 := NB286_249.out
           have hms84_1 := NB286_250.out
           have hms84_2 := NB286_251.out
           have hms84_3 := NB286_275.out
           have hs85 : w82.cell? ⟨gb286, 2, none⟩ = some (.int .i64 0) := (blk_cell BK286.out 2).trans rfl
           have hfs85 := blk_frozen BK286.out 2
           have hns85_0 := NB249_286.out
           have hns85_1 := NB250_286.out
           have hns85_2 := NB251_286.out
           have hns85_3 := NB275_286.out
           have hms85_0 := NB286_249.out
           have hms85_1 := NB286_250.out
           have hms85_2 := NB286_251.out
           have hms85_3 := NB286_275.out
           have hs86 : w82.cell? ⟨gb286, 3, none⟩ = some (.bool false) := (blk_cell BK286.out 3).trans rfl
           have hfs86 := blk_frozen BK286.out 3
           have hns86_0 := NB249_286.out
           have hns86_1 := NB250_286.out
           have hns86_2 := NB251_286.out
           have hns86_3 := NB275_286.out
           have hms86_0 := NB286_249.out
           have hms86_1 := NB286_250.out
           have hms86_2 := NB286_251.out
           have hms86_3 := NB286_275.out
           refine skip_ (w1 := ?_) (by rfl) rfl ?_ ?_
           rotate_left
           ·go_simp
            rfl
           refine hK.out _ _ ⟨((cell_far (p := ⟨gb286, _, none⟩) NB249_286.out _).trans (((cell_far (p := ⟨gb286, _, none⟩) NB249_286.out _).trans (((cell_far (p := ⟨gb286, _, none⟩) NB249_286.out _).trans (((cell_far (p := ⟨gb286, _, none⟩) NB249_286.out _).trans (hHeld.1)))))))), ((cell_far (p := ⟨gb286, _, none⟩) NB249_286.out _).trans (((cell_far (p := ⟨gb286, _, none⟩) NB249_286.out _).trans (((cell_far (p := ⟨gb286, _, none⟩) NB249_286.out _).trans (((cell_far (p := ⟨gb286, _, none⟩) NB249_286.out _).trans (hHeld.2.1)))))))), ((cell_far (p := ⟨gb286, _, none⟩) NB275_286.out _).trans (((cell_far (p := ⟨gb286, _, none⟩) NB275_286.out _).trans (((cell_far (p := ⟨gb286, _, none⟩) NB275_286.out _).trans (((cell_far (p := ⟨gb286, _, none⟩) NB275_286.out _).trans (hHeld.2.2.1)))))))), ((cell_far (p := ⟨gb286, _, none⟩) NB275_286.out _).trans (((cell_far (p := ⟨gb286, _, none⟩) NB275_286.out _).trans (((cell_far (p := ⟨gb286, _, none⟩) NB275_286.out _).trans (((cell_far (p := ⟨gb286, _, none⟩) NB275_286.out _).trans (hHeld.2.2.2.1)))))))), ((cell_far (p := ⟨gb286, _, none⟩) NB275_286.out _).trans (((cell_far (p := ⟨gb286, _, none⟩) NB275_286.out _).trans (((cell_far (p := ⟨gb286, _, none⟩) NB275_286.out _).trans (((cell_far (p := ⟨gb286, _, none⟩) NB275_286.out _).trans (hHeld.2.2.2.2.1)))))))), ((cell_far (p := ⟨gb286, _, none⟩) NB275_286.out _).trans (((cell_far (p := ⟨gb286, _, none⟩) NB275_286.out _).trans (((cell_far (p := ⟨gb286, _, none⟩) NB275_286.out _).trans (((cell_far (p := ⟨gb286, _, none⟩) NB275_286.out _).trans (hHeld.2.2.2.2.2))))))))⟩ (fun hHeld => ?_)
           clear hK K
           refine done_ (done_of HT_.out (by kernel_rfl)) ?_
           have hnb87 := NB286_249.out
           have hnc87 := NB249_286.out
           have hnb88 := NB286_250.out
           have hnc88 := NB250_286.out
           have hnb89 := NB286_251.out
           have hnc89 := NB251_286.out
           have hnb90 := NB286_275.out
           have hnc90 := NB275_286.out
           have hcz91 := bc4_ BK286.out
           have hfz91 := bf4_ BK286.out
           have H := HH_.out
           clear HH_
           by_cases c69 : (rd t255 1) = 3
           ·rw [if_pos c69] at H
            have c69b0 : ((rd t255 1) == 3) = true := beq_iff_eq.mpr c69
            have c69b1 : ((rd t255 1) != 3) = false := bne_eq_false_iff_eq.mpr c69
            clear c69
            obtain ⟨⟨t287, t288⟩, A70, H⟩ := bs_ H
            try dsimp -simprocs only at H
            simp only [Option.some.injEq, Prod.mk.injEq] at H
            obtain ⟨rfl, rfl, rfl, rfl, rfl, rfl⟩ := H
            try go_wp2_with (first | ((with_reducible refine gate_callee (f := 14) rfl ?_); refine goesL_ (some 95) rfl rfl Tryz.func14 (by kernel_rfl) rfl #[.agg #[.int .i64 t282, .bool t283, .int .i64 t284, .bool t285], .int .u8 a0, .int .u64 0] rfl (am_ rfl) ?_; (with_reducible refine (special_box_words.calls kj45 t282 t283 t284 t285 a0 0 t287 t288 _ A70.out).mono ?_); rintro e w92 ⟨rfl, hb⟩; refine ⟨_, rfl, ?_⟩; replace BK249 := A0_ (blk_below (g := gb249) (o := .cells #[.int .u64 a2_0, .int .u64 a2_1] 26 (0, 0)) (by (with_reducible repeat first | apply bN_ | apply bD_ | apply bA_); refine blk_far ?_ NB249_286.out _; refine blk_far ?_ NB249_286.out _; refine blk_far ?_ NB249_286.out _; refine blk_far ?_ NB249_286.out _; exact bm_ BK249.out) hb); replace BK250 := A0_ (blk_below (g := gb250) (o := .cells #[.int .u64 a3_0, .int .u64 a3_1] 26 (0, 0)) (by (with_reducible repeat first | apply bN_ | apply bD_ | apply bA_); refine blk_far ?_ NB250_286.out _; refine blk_far ?_ NB250_286.out _; refine blk_far ?_ NB250_286.out _; refine blk_far ?_ NB250_286.out _; exact bm_ BK250.out) hb); replace BK251 := A0_ (blk_below (g := gb251) (o := .cells #[.int .u64 0, .int .u64 0, .int .u8 0, .int .u8 0] 29 (0, 0)) (by (with_reducible repeat first | apply bN_ | apply bD_ | apply bA_); refine blk_far ?_ NB251_286.out _; refine blk_far ?_ NB251_286.out _; refine blk_far ?_ NB251_286.out _; refine blk_far ?_ NB251_286.out _; exact bm_ BK251.out) hb); replace BK275 := A0_ (blk_below (g := gb275) (o := .cells #[.int .i64 x276000_45, .bool t272, .int .i64 t276, .bool t277] 48 (0, 0)) (by (with_reducible repeat first | apply bN_ | apply bD_ | apply bA_); refine blk_far ?_ NB275_286.out _; refine blk_far ?_ NB275_286.out _; refine blk_far ?_ NB275_286.out _; refine blk_far ?_ NB275_286.out _; exact bm_ BK275.out) hb); replace BK286 := A0_ (blk_below (g := gb286) (o := .cells #[.int .i64 t282, .bool t283, .int .i64 t284, .bool t285] 48 (0, 0)) (by (with_reducible repeat first | apply bN_ | apply bD_ | apply bA_); refine blk_put (cs := #[.int .i64 t282, .bool t283, .int .i64 t284, .bool false]) ?_ 3 _ rfl; refine blk_put (cs := #[.int .i64 t282, .bool t283, .int .i64 0, .bool false]) ?_ 2 _ rfl; refine blk_put (cs := #[.int .i64 t282, .bool false, .int .i64 0, .bool false]) ?_ 1 _ rfl; refine blk_put (cs := #[.int .i64 0, .bool false, .int .i64 0, .bool false]) ?_ 0 _ rfl; exact bm_ BK286.out) hb); replace HB := hs_ hb; (try clear hb); have hnb93 := NB251_249.out; have hnc93 := NB249_251.out; have hnb94 := NB251_250.out; have hnc94 := NB250_251.out; have hcz95 := bc4_ BK251.out; have hfz95 := bf4_ BK251.out))
            refine bodyPost_ret (results_ctt rfl _ _ gb251 29 #[.int .u64 t287, .int .u64 t288, .int .u8 0, .int .u8 0] (0, 0) _ rfl (by (with_reducible repeat first | apply bN_ | apply bD_ | apply bA_); refine blk_put (cs := #[.int .u64 t287, .int .u64 t288, .int .u8 0, .int .u8 0]) ?_ 3 _ rfl; refine blk_put (cs := #[.int .u64 t287, .int .u64 t288, .int .u8 0, .int .u8 0]) ?_ 2 _ rfl; refine blk_put (cs := #[.int .u64 t287, .int .u64 0, .int .u8 0, .int .u8 0]) ?_ 1 _ rfl; refine blk_put (cs := #[.int .u64 0, .int .u64 0, .int .u8 0, .int .u8 0]) ?_ 0 _ rfl; exact bm_ BK251.out) Tryz.underlying29 rfl (by kernel_rfl)) rfl ?_
            exact ⟨by first | rfl | (simp [errW_none, errW_some] <;> rfl) | (simp [*, errW_none, errW_some] <;> rfl), qz_⟩
           ·rw [if_neg c69] at H
            have c69b0 : ((rd t255 1) == 3) = false := beq_eq_false_iff_ne.mpr c69
            have c69b1 : ((rd t255 1) != 3) = true := bne_iff_ne.mpr c69
            have HH_ := A0_ H
            clear H
            have H := HH_.out
            clear HH_
            by_cases c96 : (rd t255 0) = 3
            ·rw [if_pos c96] at H
             have c96b0 : ((rd t255 0) == 3) = true := beq_iff_eq.mpr c96
             have c96b1 : ((rd t255 0) != 3) = false := bne_eq_false_iff_eq.mpr c96
             clear c96
             obtain ⟨⟨t289, t290⟩, A97, H⟩ := bs_ H
             try dsimp -simprocs only at H
             simp only [Option.some.injEq, Prod.mk.injEq] at H
             obtain ⟨rfl, rfl, rfl, rfl, rfl, rfl⟩ := H
             try go_wp2_with (first | ((with_reducible refine gate_callee (f := 14) rfl ?_); refine goesL_ (some 103) rfl rfl Tryz.func14 (by kernel_rfl) rfl #[.agg #[.int .i64 t282, .bool t283, .int .i64 t284, .bool t285], .int .u8 a0, .int .u64 t261] rfl (am_ rfl) ?_; (with_reducible refine (special_box_words.calls kj45 t282 t283 t284 t285 a0 t261 t289 t290 _ A97.out).mono ?_); rintro e w119 ⟨rfl, hb⟩; refine ⟨_, rfl, ?_⟩; replace BK249 := A0_ (blk_below (g := gb249) (o := .cells #[.int .u64 a2_0, .int .u64 a2_1] 26 (0, 0)) (by (with_reducible repeat first | apply bN_ | apply bD_ | apply bA_); refine blk_far ?_ NB249_286.out _; refine blk_far ?_ NB249_286.out _; refine blk_far ?_ NB249_286.out _; refine blk_far ?_ NB249_286.out _; exact bm_ BK249.out) hb); replace BK250 := A0_ (blk_below (g := gb250) (o := .cells #[.int .u64 a3_0, .int .u64 a3_1] 26 (0, 0)) (by (with_reducible repeat first | apply bN_ | apply bD_ | apply bA_); refine blk_far ?_ NB250_286.out _; refine blk_far ?_ NB250_286.out _; refine blk_far ?_ NB250_286.out _; refine blk_far ?_ NB250_286.out _; exact bm_ BK250.out) hb); replace BK251 := A0_ (blk_below (g := gb251) (o := .cells #[.int .u64 0, .int .u64 0, .int .u8 0, .int .u8 0] 29 (0, 0)) (by (with_reducible repeat first | apply bN_ | apply bD_ | apply bA_); refine blk_far ?_ NB251_286.out _; refine blk_far ?_ NB251_286.out _; refine blk_far ?_ NB251_286.out _; refine blk_far ?_ NB251_286.out _; exact bm_ BK251.out) hb); replace BK275 := A0_ (blk_below (g := gb275) (o := .cells #[.int .i64 x276000_45, .bool t272, .int .i64 t276, .bool t277] 48 (0, 0)) (by (with_reducible repeat first | apply bN_ | apply bD_ | apply bA_); refine blk_far ?_ NB275_286.out _; refine blk_far ?_ NB275_286.out _; refine blk_far ?_ NB275_286.out _; refine blk_far ?_ NB275_286.out _; exact bm_ BK275.out) hb); replace BK286 := A0_ (blk_below (g := gb286) (o := .cells #[.int .i64 t282, .bool t283, .int .i64 t284, .bool t285] 48 (0, 0)) (by (with_reducible repeat first | apply bN_ | apply bD_ | apply bA_); refine blk_put (cs := #[.int .i64 t282, .bool t283, .int .i64 t284, .bool false]) ?_ 3 _ rfl; refine blk_put (cs := #[.int .i64 t282, .bool t283, .int .i64 0, .bool false]) ?_ 2 _ rfl; refine blk_put (cs := #[.int .i64 t282, .bool false, .int .i64 0, .bool false]) ?_ 1 _ rfl; refine blk_put (cs := #[.int .i64 0, .bool false, .int .i64 0, .bool false]) ?_ 0 _ rfl; exact bm_ BK286.out) hb); replace HB := hs_ hb; (try clear hb); have hnb120 := NB251_249.out; have hnc120 := NB249_251.out; have hnb121 := NB251_250.out; have hnc121 := NB250_251.out; have hcz122 := bc4_ BK251.out; have hfz122 := bf4_ BK251.out))
             refine bodyPost_ret (results_ctt rfl _ _ gb251 29 #[.int .u64 t289, .int .u64 t290, .int .u8 0, .int .u8 0] (0, 0) _ rfl (by (with_reducible repeat first | apply bN_ | apply bD_ | apply bA_); refine blk_put (cs := #[.int .u64 t289, .int .u64 t290, .int .u8 0, .int .u8 0]) ?_ 3 _ rfl; refine blk_put (cs := #[.int .u64 t289, .int .u64 t290, .int .u8 0, .int .u8 0]) ?_ 2 _ rfl; refine blk_put (cs := #[.int .u64 t289, .int .u64 0, .int .u8 0, .int .u8 0]) ?_ 1 _ rfl; refine blk_put (cs := #[.int .u64 0, .int .u64 0, .int .u8 0, .int .u8 0]) ?_ 0 _ rfl; exact bm_ BK251.out) Tryz.underlying29 rfl (by kernel_rfl)) rfl ?_
             exact ⟨by first | rfl | (simp [errW_none, errW_some] <;> rfl) | (simp [*, errW_none, errW_some] <;> rfl), qz_⟩
            ·rw [if_neg c96] at H
             have c96b0 : ((rd t255 0) == 3) = false := beq_eq_false_iff_ne.mpr c96
             have c96b1 : ((rd t255 0) != 3) = true := bne_iff_ne.mpr c96
             obtain ⟨⟨t291, t292⟩, A123, H⟩ := bs_ H
             try dsimp -simprocs only at H
             simp only [Option.some.injEq, Prod.mk.injEq] at H
             obtain ⟨rfl, rfl, rfl, rfl, rfl, rfl⟩ := H
             try go_wp2_with (first | ((with_reducible refine gate_callee (f := 14) rfl ?_); refine goesL_ (some 108) rfl rfl Tryz.func14 (by kernel_rfl) rfl #[.agg #[.int .i64 t282, .bool t283, .int .i64 t284, .bool t285], .int .u8 a0, .int .u64 t261] rfl (am_ rfl) ?_; (with_reducible refine (special_box_words.calls kj45 t282 t283 t284 t285 a0 t261 t291 t292 _ A123.out).mono ?_); rintro e w145 ⟨rfl, hb⟩; refine ⟨_, rfl, ?_⟩; replace BK249 := A0_ (blk_below (g := gb249) (o := .cells #[.int .u64 a2_0, .int .u64 a2_1] 26 (0, 0)) (by (with_reducible repeat first | apply bN_ | apply bD_ | apply bA_); refine blk_far ?_ NB249_286.out _; refine blk_far ?_ NB249_286.out _; refine blk_far ?_ NB249_286.out _; refine blk_far ?_ NB249_286.out _; exact bm_ BK249.out) hb); replace BK250 := A0_ (blk_below (g := gb250) (o := .cells #[.int .u64 a3_0, .int .u64 a3_1] 26 (0, 0)) (by (with_reducible repeat first | apply bN_ | apply bD_ | apply bA_); refine blk_far ?_ NB250_286.out _; refine blk_far ?_ NB250_286.out _; refine blk_far ?_ NB250_286.out _; refine blk_far ?_ NB250_286.out _; exact bm_ BK250.out) hb); replace BK251 := A0_ (blk_below (g := gb251) (o := .cells #[.int .u64 0, .int .u64 0, .int .u8 0, .int .u8 0] 29 (0, 0)) (by (with_reducible repeat first | apply bN_ | apply bD_ | apply bA_); refine blk_far ?_ NB251_286.out _; refine blk_far ?_ NB251_286.out _; refine blk_far ?_ NB251_286.out _; refine blk_far ?_ NB251_286.out _; exact bm_ BK251.out) hb); replace BK275 := A0_ (blk_below (g := gb275) (o := .cells #[.int .i64 x276000_45, .bool t272, .int .i64 t276, .bool t277] 48 (0, 0)) (by (with_reducible repeat first | apply bN_ | apply bD_ | apply bA_); refine blk_far ?_ NB275_286.out _; refine blk_far ?_ NB275_286.out _; refine blk_far ?_ NB275_286.out _; refine blk_far ?_ NB275_286.out _; exact bm_ BK275.out) hb); replace BK286 := A0_ (blk_below (g := gb286) (o := .cells #[.int .i64 t282, .bool t283, .int .i64 t284, .bool t285] 48 (0, 0)) (by (with_reducible repeat first | apply bN_ | apply bD_ | apply bA_); refine blk_put (cs := #[.int .i64 t282, .bool t283, .int .i64 t284, .bool false]) ?_ 3 _ rfl; refine blk_put (cs := #[.int .i64 t282, .bool t283, .int .i64 0, .bool false]) ?_ 2 _ rfl; refine blk_put (cs := #[.int .i64 t282, .bool false, .int .i64 0, .bool false]) ?_ 1 _ rfl; refine blk_put (cs := #[.int .i64 0, .bool false, .int .i64 0, .bool false]) ?_ 0 _ rfl; exact bm_ BK286.out) hb); replace HB := hs_ hb; (try clear hb); have hnb146 := NB251_249.out; have hnc146 := NB249_251.out; have hnb147 := NB251_250.out; have hnc147 := NB250_251.out; have hcz148 := bc4_ BK251.out; have hfz148 := bf4_ BK251.out))
             refine bodyPost_ret (results_ctt rfl _ _ gb251 29 #[.int .u64 t291, .int .u64 t292, .int .u8 2, .int .u8 2] (0, 0) _ rfl (by (with_reducible repeat first | apply bN_ | apply bD_ | apply bA_); refine blk_put (cs := #[.int .u64 t291, .int .u64 t292, .int .u8 2, .int .u8 0]) ?_ 3 _ rfl; refine blk_put (cs := #[.int .u64 t291, .int .u64 t292, .int .u8 0, .int .u8 0]) ?_ 2 _ rfl; refine blk_put (cs := #[.int .u64 t291, .int .u64 0, .int .u8 0, .int .u8 0]) ?_ 1 _ rfl; refine blk_put (cs := #[.int .u64 0, .int .u64 0, .int .u8 0, .int .u8 0]) ?_ 0 _ rfl; exact bm_ BK251.out) Tryz.underlying29 rfl (by kernel_rfl)) rfl ?_
             exact ⟨by first | rfl | (simp [errW_none, errW_some] <;> rfl) | (simp [*, errW_none, errW_some] <;> rfl), qz_⟩
 ·rw [if_neg c6] at H
  have c6b0 : (t256 == 0) = false := beq_eq_false_iff_ne.mpr c6
  have c6b1 : (t256 != 0) = true := bne_iff_ne.mpr c6
  simp only [Option.some.injEq, Prod.mk.injEq] at H
  obtain ⟨rfl, rfl, rfl, rfl, rfl, rfl⟩ := H
  go_enter Tryz.func4, Tryz.ntmps4
  go_wp2_with (first | ((with_reducible refine gate_dst (N := 6) rfl ?_); refine box_event ?hg (N := 6) ?hd (cs := #[.int .u64 a2_0, .int .u64 a2_1]) (t := 26) ?hr ?_; (case hd => rfl); (case hg => rfl); (case hr => first | (go_simp; done) | (go_simp; rfl)); intro gb249 hg w149 hbox hb; have BK249 := A0_ (hbox); have GW249 := A0_ ((by rw [hg]; exact (below_size (qm_ HB.out)) : w.heap.size ≤ gb249)); have GE249 := GW249; replace HB := hs_ hb; clear hb hbox hg) | ((with_reducible refine gate_dst (N := 7) rfl ?_); refine box_event ?hg (N := 7) ?hd (cs := #[.int .u64 a3_0, .int .u64 a3_1]) (t := 26) ?hr ?_; (case hd => rfl); (case hg => rfl); (case hr => first | (go_simp; done) | (go_simp; rfl)); intro gb250 hg w150 hbox hb; have BK250 := A0_ (hbox); have GW250 := A0_ ((by rw [hg]; exact (below_size qz_) : w.heap.size ≤ gb250)); have GE250 := GW250; replace HB := hs_ hb; have NB249_250 := nl_ hg BK249; have NB250_249 := ng_ hg BK249; replace BK249 := bb_ BK249 hb; clear hb hbox hg) | ((with_reducible refine gate_dst (N := 8) rfl ?_); refine box_event ?hg (N := 8) ?hd (cs := #[.int .u64 0, .int .u64 0, .int .u8 0, .int .u8 0]) (t := 29) ?hr ?_; (case hd => rfl); (case hg => rfl); (case hr => first | (go_simp; done) | (go_simp; rfl)); intro gb251 hg w151 hbox hb; have BK251 := A0_ (hbox); have GW251 := A0_ ((by rw [hg]; exact (below_size qz_) : w.heap.size ≤ gb251)); have GE251 := GW251; replace HB := hs_ hb; have NB249_251 := nl_ hg BK249; have NB251_249 := ng_ hg BK249; replace BK249 := bb_ BK249 hb; have NB250_251 := nl_ hg BK250; have NB251_250 := ng_ hg BK250; replace BK250 := bb_ BK250 hb; clear hb hbox hg; have hnb152 := NB249_250.out; have hnc152 := NB250_249.out; have hnb153 := NB249_251.out; have hnc153 := NB251_249.out; have hcz154 := bc2_ BK249.out; have hfz154 := bf2_ BK249.out; have hnb155 := NB250_251.out; have hnc155 := NB251_250.out; have hcz156 := bc2_ BK250.out; have hfz156 := bf2_ BK250.out) | ((with_reducible refine gate_dst (N := 24) rfl ?_); refine Kd.R_lit k26 _ 26 ?hg (N := 24) ?hd (xs := ([(⟨a2_0, a2_1⟩ : S26), (⟨a3_0, a3_1⟩ : S26)] : List (S26))) (inner := [.int .u64 a2_0, .int .u64 a2_1, .int .u64 a3_0, .int .u64 a3_1]) (ok := fun _ => True) (okp := fun _ => True) ?hr ?hp (fun _ hk => hk) trivial (Below.refl _ _) (Nat.le_refl _) (by simp) ?_; (case hd => rfl); (case hg => rfl); (case hr => first | (go_simp; done) | (go_simp; rfl)); (case hp => exact (Reps.c2 (show Kd.M k26 _ _ _ (⟨a2_0, a2_1⟩ : S26) [.int .u64 a2_0, .int .u64 a2_1] from (k26_mkM _ _ _ (⟨a2_0, a2_1⟩ : S26) )) (Reps.c2 (show Kd.M k26 _ _ _ (⟨a3_0, a3_1⟩ : S26) [.int .u64 a3_0, .int .u64 a3_1] from (k26_mkM _ _ _ (⟨a3_0, a3_1⟩ : S26) )) (Reps.none _ _)))); intro v253 w157 ho158 hb hg_ hnew_; clear hg_ hnew_; (first | rw [← Ny252.out] at ho158 | (simp only [Int.reduceToNat] at ho158; rw [← Ny252.out] at ho158)); have HO254 := A0_ (Kd.R_lower (Kd.R_newB (Kd.R_newB ho158 (bm_ BK249.out)) (bm_ BK250.out)) (below_size qz_)); replace BK249 := bb_ BK249 hb; replace BK250 := bb_ BK250 hb; replace BK251 := bb_ BK251 hb; replace HB := hs_ hb; clear hb ho158; obtain ⟨Ao159, co159, eo159⟩ := Kd.R_slice HO254.out; subst eo159) | ((with_reducible refine gate_callee (f := 8) rfl ?_); refine goesL_ (some 25) rfl rfl Tryz.func8 (by kernel_rfl) rfl #[.int .u8 a0, .int .u8 a1, .slice Ao159 y252.length co159] rfl (am_ rfl) ?_; (with_reducible refine (special_open.calls k a0 a1 _ _ y252 t255 t256 _ ?side1 ?side2 A5.out).mono ?_); (case side1 => repeat (first | exact (Kd.R_reads' HO254.out).2.2 | (with_reducible refine Kd.C_alloc ?_ _) | (with_reducible refine Kd.C_drewN ?_ _) | (with_reducible refine Kd.C_drew ?_))); (case side2 => exact (Kd.R_reads' HO254.out).2.1); rintro e w160 ⟨v257, rfl, ho0, hb⟩; refine ⟨_, rfl, ?_⟩; replace HO254 := A0_ (Kd.R_below (by exact rm_ HO254.out) hb); have HO258 := A0_ (Kd.R_lower ho0 (below_size qz_)); replace BK249 := bb_ BK249 hb; replace BK250 := bb_ BK250 hb; replace BK251 := bb_ BK251 hb; replace HB := hs_ hb; (try clear hb); (try clear ho0); have hcz161 := bc4_ BK251.out; have hfz161 := bf4_ BK251.out))
  refine bodyPost_ret (results_ctt rfl _ _ gb251 29 #[.int .u64 0, .int .u64 0, .int .u8 0, .int .u8 0] (0, 0) _ rfl (by (with_reducible repeat first | apply bN_ | apply bD_ | apply bA_); refine blk_put (cs := #[.int .u64 0, .int .u64 0, .int .u8 0, .int .u8 0]) ?_ 3 _ rfl; refine blk_put (cs := #[.int .u64 0, .int .u64 0, .int .u8 0, .int .u8 0]) ?_ 2 _ rfl; refine blk_put (cs := #[.int .u64 0, .int .u64 0, .int .u8 0, .int .u8 0]) ?_ 1 _ rfl; refine blk_put (cs := #[.int .u64 0, .int .u64 0, .int .u8 0, .int .u8 0]) ?_ 0 _ rfl; exact bm_ BK251.out) Tryz.underlying29 rfl (by kernel_rfl)) rfl ?_
  exact ⟨by first | rfl | (simp [errW_none, errW_some] <;> rfl) | (simp [*, errW_none, errW_some] <;> rfl), qz_⟩
end Go.Proofs.YtlgapmhjaaajfaaGreat.PA
end
