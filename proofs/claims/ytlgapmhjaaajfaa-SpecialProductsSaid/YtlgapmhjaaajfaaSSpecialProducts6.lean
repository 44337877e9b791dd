/- Steps of Go functions that the law SpecialProducts uses, told as plain Lean functions, each with the proof that its call comes to what it tells; words on memory; plain facts. No condition beyond those that each text names. -/
import Derived.Test.YtlgapmhjaaajfaaProg
import Derived.WalkMore
import Derived.Test.YtlgapmhjaaajfaaSSpecialProducts0
import Derived.Test.YtlgapmhjaaajfaaSSpecialProducts1
import Derived.Test.YtlgapmhjaaajfaaSSpecialProducts5
set_option maxHeartbeats 2000000
set_option maxRecDepth 100000
section
namespace Go.Proofs.Ytlgapmhjaaajfaa.PA
open Go.RowKit Go.Proofs.YtlgapmhjaaajfaaW.PrintWords Go.Proofs.YtlgapmhjaaajfaaW.PrintLast Go.Proofs.YtlgapmhjaaajfaaW.PrintMore
attribute [local go_sem] max2_int min2_int max_two min_two max_three min_three max_four min_four   -- for this text's walks alone
set_option linter.unusedVariables false
set_option linter.unusedSimpArgs false
def cutplaneref11_turned.l0 : Nat → Int → Int → List Int → Int → Option (Int × Int)
 | 0, _, _, _, _ => none
 | k + 1, x0, x2, x7, x8 => if x8 < 2 then (if 0 ≤ x8 then (if x8 < (x7.length : Int) then ((cutplaneref03_Class.f k x0 (rd x7 x8)).bind fun t359 => (if t359 = 1 then (cutplaneref11_turned.l0 k x0 x2 x7 (wrap64 (x8 + 1))) else ((cutplaneref03_Split.f x0 (rd x7 x8)).bind fun bt361 => ((cutplaneref03_Signed.f x0 x2 bt361.1).bind fun t364 => (cutplaneref11_turned.l0 k x0 x2 (x7.set (x8 : Int).toNat t364) (wrap64 (x8 + 1))))))) else (none)) else (none)) else (if 0 < (x7.length : Int) then (if 1 < (x7.length : Int) then (some (rd x7 0, rd x7 1)) else (none)) else (none))
def cutplaneref11_turned.f (k : Nat) (a0 : Int) (a1_0 : Int) (a1_1 : Int) (a2 : Int) : Option (Int × Int) := cutplaneref11_turned.l0 k a0 a2 (([a1_0, a1_1] : List Int)) 0
def cutplaneref11_turned.T7 : Bool × List (List Nat × List Nat) := (true, [([], []), ([0], [0]), ([1], [1]), ([], []), ([3], [3]), ([4], [4]), ([2, 5], [2, 5]), ([6, 0, 1, 2, 3, 4, 5, 6], [6])])
def cutplaneref11_turned.B7 : List Nat := [0, 1, 3, 0, 8, 24, 63, 127]
theorem cutplaneref11_turned.tab7 : rtab .any (opsOf Try.f24 7) = cutplaneref11_turned.T7 := by kernel_rfl
theorem cutplaneref11_turned.bits7 : waitsOk cutplaneref11_turned.T7.2 cutplaneref11_turned.B7 = true := by kernel_rfl
theorem cutplaneref11_turned.calls (k : Nat) (a0 : Int) (a1_0 : Int) (a1_1 : Int) (a2 : Int) (r1 : Int) (r2 : Int) (w : World) (h : cutplaneref11_turned.f k a0 a1_0 a1_1 a2 = some (r1, r2)) :
  Calls Try.prog 24 #[.int .u8 a0, .agg #[.int .u64 a1_0, .int .u64 a1_1], .int .u64 a2] w fun e w' => e = .returned (.agg #[.int .u64 r1, .int .u64 r2]) ∧ Below w.heap.size w w' := by
 have hfd93_0 : ∀ (v0_ v1_ v2_ : Value) (w : World), (Instr.field 93 (.agg #[v0_, v1_, v2_]) 0).run Try.prog w = .ok v0_ w := fun _ _ _ _ => by kernel_rfl
 have hu26 := Try.underlying26
 have HB := A0_ (Below.refl w.heap.size w)
 have H := h
 clear h
 unfold cutplaneref11_turned.f at H
 obtain ⟨y353, hy353⟩ : ∃ y_ : List Int, y_ = (([a1_0, a1_1] : List Int)) := ⟨_, rfl⟩
 replace H : (cutplaneref11_turned.l0 k a0 a2 y353 0) = some (r1, r2) := by first | (rw [hy353]; with_reducible exact H) | (have H2_ := (Option.bind_some _ _).symm.trans H; rw [hy353]; with_reducible exact H2_) | (have H2_ := (Option.bind_some _ _).symm.trans H; with_reducible exact H2_) | with_reducible exact H | (rw [hy353]; exact H) | exact H
 have Ny353 := A0_ hy353
 clear hy353
 have H' := A0_ H
 clear H
 go_enter Try.func24, Try.ntmps24
 go_wp2_with (first | ((with_reducible refine gate_dst (N := 4) rfl ?_); refine box_event ?hg (N := 4) ?hd (cs := #[.int .u64 a1_0, .int .u64 a1_1]) (t := 26) ?hr ?_; (case hd => rfl); (case hg => rfl); (case hr => first | (go_simp; done) | (go_simp; rfl)); intro gb351 hg w4 hbox hb; have BK351 := A0_ (hbox); have GW351 := A0_ ((by rw [hg]; exact (below_size (qm_ HB.out)) : w.heap.size ≤ gb351)); have GE351 := GW351; replace HB := hs_ hb; clear hb hbox hg) | ((with_reducible refine gate_dst (N := 6) rfl ?_); refine box_event ?hg (N := 6) ?hd (cs := #[.int .u64 0, .int .u64 0]) (t := 26) ?hr ?_; (case hd => rfl); (case hg => rfl); (case hr => first | (go_simp; done) | (go_simp; rfl)); intro gb352 hg w5 hbox hb; have BK352 := A0_ (hbox); have GW352 := A0_ ((by rw [hg]; exact (below_size qz_) : w.heap.size ≤ gb352)); have GE352 := GW352; replace HB := hs_ hb; have NB351_352 := nl_ hg BK351; have NB352_351 := ng_ hg BK351; replace BK351 := bb_ BK351 hb; clear hb hbox hg; have hnb6 := NB351_352.out; have hnc6 := NB352_351.out; have hcz7 := bc2_ BK351.out; have hfz7 := bf2_ BK351.out) | ((with_reducible refine gate_dst (N := 13) rfl ?_); refine Kd.R_lit (Kd.int .u64) _ 24 ?hg (N := 13) ?hd (xs := ([a1_0, a1_1] : List Int)) (inner := [.int .u64 a1_0, .int .u64 a1_1]) (ok := fun _ => True) (okp := fun _ => True) ?hr ?hp (fun _ hk => hk) trivial (Below.refl _ _) (Nat.le_refl _) (by simp) ?_; (case hd => rfl); (case hg => rfl); (case hr => first | (go_simp; done) | (go_simp; rfl)); (case hp => exact (Reps.one (show Kd.M (Kd.int .u64) _ _ _ a1_0 [.int .u64 a1_0] from rfl) (Reps.one (show Kd.M (Kd.int .u64) _ _ _ a1_1 [.int .u64 a1_1] from rfl) (Reps.none _ _)))); intro v354 w8 ho9 hb hg_ hnew_; clear hg_ hnew_; (first | rw [← Ny353.out] at ho9 | (simp only [Int.reduceToNat] at ho9; rw [← Ny353.out] at ho9)); have HO355 := A0_ (Kd.R_lower ho9 (below_size qz_)); replace BK351 := bb_ BK351 hb; replace BK352 := bb_ BK352 hb; replace HB := hs_ hb; clear hb ho9))
 go_loopg [8] k (fun kq v8 w' => ∃ (x7_1 : List Int) (x8_1 : Int), v8 = .int .i64 x8_1 ∧ Aside0 (cutplaneref11_turned.l0 kq a0 a2 x7_1 x8_1 = some (r1, r2)) ∧ Aside0 (kq ≤ k) ∧ Aside0 (Kd.R (Kd.int .u64) 24 w' w.heap.size (fun _ => True) v354 x7_1) ∧ Aside0 (w'.heap[gb351]? = some (.cells #[.int .u64 a1_0, .int .u64 a1_1] 26 (0, 0))) ∧ Aside0 (w'.heap[gb352]? = some (.cells #[.int .u64 0, .int .u64 0] 26 (0, 0))) ∧ Aside0 (Below w.heap.size w w'))
 case atStart => exact ⟨(y353), (0), (by first | rfl | (simp; done) | (simp [*]; done)), H', ⟨Nat.le_refl _⟩, ⟨by exact rm_ HO355.out⟩, ⟨bm_ BK351.out⟩, ⟨bm_ BK352.out⟩, ⟨qz_⟩⟩
 case round =>
  clear H'
  try clear c2
  try clear p2
  try clear c6
  try clear hcz7
  try clear hfz7
  obtain ⟨x7_1, x8_1, rfl, HA, HK1, HO_7, BK351, BK352, HB⟩ := hrel
  cases gk with
  | zero => exact absurd HA.out (by simp [cutplaneref11_turned.l0])
  | succ k1 =>
   have H := HA.out
   clear HA
   simp only [cutplaneref11_turned.l0] at H
   by_cases c10 : x8_1 < 2
   ·rw [if_pos c10] at H
    have c10b0 : decide (x8_1 < 2) = true := decide_eq_true c10
    clear c10
    obtain ⟨c11, H⟩ := ic_ H
    have c11b0 : decide (0 ≤ x8_1) = true := decide_eq_true c11
    clear c11
    obtain ⟨c12, H⟩ := ic_ H
    have c12b0 : decide (x8_1 < (x7_1.length : Int)) = true := decide_eq_true c12
    clear c12
    obtain ⟨t359, A13, H⟩ := bs_ H
    try dsimp -simprocs only at H
    by_cases c14 : t359 = 1
    ·rw [if_pos c14] at H
     have c14b0 : (t359 == 1) = true := beq_iff_eq.mpr c14
     have c14b1 : (t359 != 1) = false := bne_eq_false_iff_eq.mpr c14
     clear c14
     have H' := A0_ H
     clear H
     obtain ⟨Ao15, co15, eo15⟩ := Kd.R_slice HO_7.out
     subst eo15
     have p358 : 0 ≤ (x8_1 : Int) := of_decide_eq_true (by first | (with_reducible assumption) | assumption)
     have q358 : x8_1 < (x7_1.length : Int) := of_decide_eq_true (by first | (with_reducible assumption) | assumption)
     obtain ⟨ad358, e358, hx358_0⟩ := Kd.at_int (Kd.R_reads' HO_7.out).2.2 x8_1 p358 q358
     cases e358
     replace p358 := eq_true p358
     replace q358 := eq_true q358
     go_wp2_with (first | ((with_reducible refine gate_callee (f := 31) rfl ?_); refine goesL_ (some 23) rfl rfl Try.func31 (by kernel_rfl) rfl #[.int .u8 a0, .int .u64 (rd x7_1 x8_1)] rfl (am_ rfl) ?_; (with_reducible refine (cutplaneref03_Class.calls k1 a0 (rd x7_1 x8_1) t359 _ A13.out).mono ?_); rintro e w16 ⟨rfl, hb⟩; refine ⟨_, rfl, ?_⟩; replace HO_7 := A0_ (Kd.R_below (by exact rm_ HO_7.out) hb); replace BK351 := bb_ BK351 hb; replace BK352 := bb_ BK352 hb; replace HB := hs_ hb; (try clear hb)))
     go_roundg k1
     case measure => have := HK1.out; omega
     case rel => exact ⟨(x7_1), (wrap64 (x8_1 + 1)), (by first | rfl | (simp; done) | (simp [*]; done)), H', ⟨by have := HK1.out; omega⟩, ⟨by exact rm_ HO_7.out⟩, ⟨bm_ BK351.out⟩, ⟨bm_ BK352.out⟩, ⟨qz_⟩⟩
    ·rw [if_neg c14] at H
     have c14b0 : (t359 == 1) = false := beq_eq_false_iff_ne.mpr c14
     have c14b1 : (t359 != 1) = true := bne_iff_ne.mpr c14
     obtain ⟨⟨t361, t362, t363⟩, A17, H⟩ := bs_ H
     try dsimp -simprocs only at H
     obtain ⟨t364, A18, H⟩ := bs_ H
     try dsimp -simprocs only at H
     obtain ⟨y365, hy365⟩ : ∃ y_ : List Int, y_ = (x7_1.set (x8_1 : Int).toNat t364) := ⟨_, rfl⟩
     replace H : (cutplaneref11_turned.l0 k1 a0 a2 y365 (wrap64 (x8_1 + 1))) = some (r1, r2) := by first | (rw [hy365]; with_reducible exact H) | (have H2_ := (Option.bind_some _ _).symm.trans H; rw [hy365]; with_reducible exact H2_) | (have H2_ := (Option.bind_some _ _).symm.trans H; with_reducible exact H2_) | with_reducible exact H | (rw [hy365]; exact H) | exact H
     have Ny365 := A0_ hy365
     clear hy365
     have H' := A0_ H
     clear H
     obtain ⟨Ao20, co20, eo20⟩ := Kd.R_slice HO_7.out
     subst eo20
     have p358 : 0 ≤ (x8_1 : Int) := of_decide_eq_true (by first | (with_reducible assumption) | assumption)
     have q358 : x8_1 < (x7_1.length : Int) := of_decide_eq_true (by first | (with_reducible assumption) | assumption)
     obtain ⟨ad358, e358, hx358_0⟩ := Kd.at_int (Kd.R_reads' HO_7.out).2.2 x8_1 p358 q358
     cases e358
     replace p358 := eq_true p358
     replace q358 := eq_true q358
     go_wp2_with (first | ((with_reducible refine gate_callee (f := 31) rfl ?_); refine goesL_ (some 23) rfl rfl Try.func31 (by kernel_rfl) rfl #[.int .u8 a0, .int .u64 (rd x7_1 x8_1)] rfl (am_ rfl) ?_; (with_reducible refine (cutplaneref03_Class.calls k1 a0 (rd x7_1 x8_1) t359 _ A13.out).mono ?_); rintro e w21 ⟨rfl, hb⟩; refine ⟨_, rfl, ?_⟩; replace HO_7 := A0_ (Kd.R_below (by exact rm_ HO_7.out) hb); replace BK351 := bb_ BK351 hb; replace BK352 := bb_ BK352 hb; replace HB := hs_ hb; (try clear hb); have p360 : 0 ≤ (x8_1 : Int) := of_decide_eq_true (by first | (with_reducible assumption) | assumption); have q360 : x8_1 < (x7_1.length : Int) := of_decide_eq_true (by first | (with_reducible assumption) | assumption); obtain ⟨ad360, e360, hx360_0⟩ := Kd.at_int (Kd.R_reads' HO_7.out).2.2 x8_1 p360 q360; obtain rfl : ad358 = ad360 := (by injection e360); replace p360 := eq_true p360; replace q360 := eq_true q360) | ((with_reducible refine gate_callee (f := 46) rfl ?_); refine goesL_ (some 34) rfl rfl Try.func46 (by kernel_rfl) rfl #[.int .u8 a0, .int .u64 (rd x7_1 x8_1)] rfl (am_ rfl) ?_; (with_reducible refine (cutplaneref03_Split.calls a0 (rd x7_1 x8_1) t361 t362 t363 _ A17.out).mono ?_); rintro e w22 ⟨rfl, hb⟩; refine ⟨_, rfl, ?_⟩; replace HO_7 := A0_ (Kd.R_below (by exact rm_ HO_7.out) hb); replace BK351 := bb_ BK351 hb; replace BK352 := bb_ BK352 hb; replace HB := hs_ hb; (try clear hb)) | ((with_reducible refine gate_callee (f := 45) rfl ?_); refine goesL_ (some 36) rfl rfl Try.func45 (by kernel_rfl) rfl #[.int .u8 a0, .int .u64 a2, .bool t361] rfl (am_ rfl) ?_; (with_reducible refine (cutplaneref03_Signed.calls a0 a2 t361 t364 _ A18.out).mono ?_); rintro e w' ⟨rfl, ⟨nd, rfl⟩⟩; refine ⟨_, rfl, ?_⟩; (try (rw [drewN_self w22]; generalize hq_ : World.drewN w22 _ = w22; have n0_ : Aside0 (Kd.R (Kd.int .u64) 24 w22 w.heap.size (fun _ => True) (.slice (some ad358) x7_1.length co20) x7_1) := ⟨by rw [← hq_]; exact (by exact rm_ HO_7.out)⟩; have n1_ : Aside0 (w22.heap[gb351]? = some (.cells #[.int .u64 a1_0, .int .u64 a1_1] 26 (0, 0))) := ⟨by rw [← hq_]; exact (bm_ BK351.out)⟩; have n2_ : Aside0 (w22.heap[gb352]? = some (.cells #[.int .u64 0, .int .u64 0] 26 (0, 0))) := ⟨by rw [← hq_]; exact (bm_ BK352.out)⟩; have n3_ : Aside0 (Below w.heap.size w w22) := ⟨by rw [← hq_]; exact qz_⟩; clear HO_7 BK351 BK352 HB hq_; have HO_7 := n0_; have BK351 := n1_; have BK352 := n2_; have HB := n3_; clear n0_ n1_ n2_ n3_)); have p19 : 0 ≤ (x8_1 : Int) := of_decide_eq_true (by first | (with_reducible assumption) | assumption); have q19 : (x8_1 : Int) < ((x7_1.length : Int) : Int) := of_decide_eq_true (by first | (with_reducible assumption) | assumption); obtain ⟨go19, co19, eo19, gb19, gl19, cl19, HG19⟩ := Kd.R_form HO_7.out (by omega); (first | cases eo19 | (injection eo19 with ea_ en_ ec_; (first | subst ea_ | (injection ea_ with ea_; subst ea_)); subst ec_; clear en_)); have GB19 := A0_ gb19; have GG19 := A0_ HG19; clear gb19 gl19 HG19; (first | simp only [add_plain] at hx358_0 | skip); (first | simp only [add_plain] at hx360_0 | skip); obtain ⟨hx19_0, hf19_0⟩ := Kd.R_celln 0 HO_7.out (x8_1 : Int) p19 q19; replace p19 := eq_true p19; replace q19 := eq_true q19; obtain ⟨hy23_, hz23_⟩ := Kd.R_celln 0 HO_7.out (x8_1 : Int) (of_decide_eq_true (by first | (with_reducible assumption) | assumption)) (of_decide_eq_true (by first | (with_reducible assumption) | assumption)); have HP23 := Kd.R_putg HO_7.out (x8_1 : Int) t364) | ((with_reducible refine gate_store (t := 24) (p := 37) rfl ?_); refine store_event (t := 24) (p := 37) (v := ?vo_w24) (w1 := (w22.setCell ⟨go19, (x8_1 : Int).toNat, none⟩ (.int .u64 t364))) ?hg ?ho ?hn ?hr ?_; (case ho => rfl); (case hg => rfl); (case hn => rfl); (case hr => first | (go_simp; done) | (go_simp; rfl)); intro w24 hw; have hg : w22.grownBy w24 (some go19) := (by rw [hw]; exact HP23.2); have hp_ : Kd.R (Kd.int .u64) 24 w24 w.heap.size (fun _ => True) (.slice (some ⟨go19, 0, none⟩) x7_1.length co20) y365 := (by rw [hw, Ny365.out]; exact HP23.1); clear HP23; replace BK351 := A0_ (blk_grown (bm_ BK351.out) hg (Kd.R_ne HO_7.out BK351.out (by decide))); replace BK352 := A0_ (blk_grown (bm_ BK352.out) hg (Kd.R_ne HO_7.out BK352.out (by decide))); replace HO_7 := A0_ (hp_); replace HB := A0_ ((by rw [hw]; exact below_set (HB.out) GB19.out : Below w.heap.size w w24)); clear hg hw hp_))
     go_roundg k1
     case measure => have := HK1.out; omega
     case rel => exact ⟨(y365), (wrap64 (x8_1 + 1)), (by first | rfl | (simp; done) | (simp [*]; done)), H', ⟨by have := HK1.out; omega⟩, ⟨by exact rm_ HO_7.out⟩, ⟨bm_ BK351.out⟩, ⟨bm_ BK352.out⟩, ⟨qz_⟩⟩
   ·rw [if_neg c10] at H
    have c10b0 : decide (x8_1 < 2) = false := decide_eq_false c10
    clear c10
    obtain ⟨(c25 : 0 < (x7_1.length : Int)), H⟩ := ic_ H
    have c25b0 : decide (0 < (x7_1.length : Int)) = true := decide_eq_true c25
    have c25b1 : decide (0 < x7_1.length) = true := decide_eq_true (by omega)
    clear c25
    obtain ⟨(c26 : 1 < (x7_1.length : Int)), H⟩ := ic_ H
    have c26b0 : decide (1 < (x7_1.length : Int)) = true := decide_eq_true c26
    have c26b1 : decide (1 < x7_1.length) = true := decide_eq_true (by omega)
    clear c26
    simp only [Option.some.injEq, Prod.mk.injEq] at H
    obtain ⟨rfl, rfl⟩ := H
    try go_wp2
    replace HO_7 := A0_ (Kd.R_drew HO_7.out)
    replace BK351 := A0_ (blk_drew BK351.out)
    replace BK352 := A0_ (blk_drew BK352.out)
    replace HB := A0_ (below_drew1 HB.out)
    obtain ⟨Ao28, co28, eo28⟩ := Kd.R_slice HO_7.out
    (first | subst eo28 | (injection eo28 with f1_ f2_ f3_; have f4_ := f1_.symm; have f5_ := f3_.symm; clear f1_ f2_ f3_; subst f4_; subst f5_))
    have p356 : 0 ≤ (0 : Int) := (by omega)
    have q356 : 0 < (x7_1.length : Int) := of_decide_eq_true (by first | (with_reducible assumption) | assumption)
    obtain ⟨ad356, e356, hx356_0⟩ := Kd.at_int (Kd.R_reads' HO_7.out).2.2 0 p356 q356
    cases e356
    have qi356 : (0 < x7_1.length) = True := eq_true (by omega)
    (try rw [show ((0 : Int)).toNat = 0 from rfl] at hx356_0)
    (try rw [Addr.add_zero'] at hx356_0)
    replace p356 := eq_true p356
    replace q356 := eq_true q356
    have p357 : 0 ≤ (1 : Int) := (by omega)
    have q357 : 1 < (x7_1.length : Int) := of_decide_eq_true (by first | (with_reducible assumption) | assumption)
    obtain ⟨ad357, e357, hx357_0⟩ := Kd.at_int (Kd.R_reads' HO_7.out).2.2 1 p357 q357
    obtain rfl : ad356 = ad357 := (by injection e357)
    (try simp only [show (1 : Int).toNat = 1 from rfl, Nat.reduceMul, Nat.reduceEqDiff, Go.Addr.add, ↓reduceIte] at hx357_0)
    have qi357 : (1 < x7_1.length) = True := eq_true (by omega)
    (try rw [show ((1 : Int)).toNat = 1 from rfl] at hx357_0)
    replace p357 := eq_true p357
    replace q357 := eq_true q357
    refine start_ (n := 8) (S := fun w' => w'.cell? ad356 = some (.int .u64 (rd x7_1 0)) ∧ w'.cell? ⟨ad356.block, ad356.off + 1, none⟩ = some (.int .u64 (rd x7_1 1))) (ds := []) #[false, false, false, false, false, false, false, false] (by kernel_rfl) rfl rfl ⟨hx356_0, hx357_0⟩ (fun hHeld => ?_); refine with_tabW cutplaneref11_turned.tab7 cutplaneref11_turned.bits7 (fun HT_ HW_ => ?_)
    generalize wr.drew = w27 at HO_7 BK351 BK352 HB hx356_0 hx357_0 hHeld ⊢
    refine pure_ (i := 0) (N := some 38) (v := ?_) (a' := ?_) #[true, false, false, false, false, false, false, false] rfl rfl (any_of HT_.out (by kernel_rfl)) (fun _ _ _ h => h) (Or.inl ⟨by rfl, ?_⟩) ?_ ?_
    rotate_left
    ·intro w'
     go_simp
     with_reducible rfl
    rotate_left
    ·simp only [Act.put, sp_, i64_w, i32_w]
     rfl
    refine pure_ (i := 1) (N := some 39) (v := ?_) (a' := ?_) #[true, true, false, false, false, false, false, false] rfl rfl (any_of HT_.out (by kernel_rfl)) (fun _ _ _ h => h) (Or.inl ⟨by rfl, ?_⟩) ?_ ?_
    rotate_left
    ·intro w'
     go_simp
     with_reducible rfl
    rotate_left
    ·simp only [Act.put, sp_, i64_w, i32_w]
     rfl
    refine pure_ (i := 3) (N := some 41) (v := ?_) (a' := ?_) #[true, true, false, true, false, false, false, false] rfl rfl (any_of HT_.out (by kernel_rfl)) (fun _ _ _ h => h) (Or.inl ⟨by rfl, ?_⟩) ?_ ?_
    rotate_left
    ·intro w'
     go_simp
     with_reducible rfl
    rotate_left
    ·simp only [Act.put, sp_, i64_w, i32_w]
     rfl
    refine pure_ (i := 4) (N := some 42) (v := ?_) (a' := ?_) #[true, true, false, true, true, false, false, false] rfl rfl (any_of HT_.out (by kernel_rfl)) (fun _ _ _ h => h) (Or.inl ⟨by rfl, ?_⟩) ?_ ?_
    rotate_left
    ·intro w'
     go_simp
     with_reducible rfl
    rotate_left
    ·simp only [Act.put, sp_, i64_w, i32_w]
     rfl
    refine take_ (i := 2) (N := some 40) (v := ?_) (a' := ?_) #[true, true, true, true, true, false, false, false] rfl rfl (take_ofW HT_.out HW_.out (by kernel_rfl)) (fun _ _ _ h => h) (Or.inl ⟨by rfl, ?_⟩) hHeld ?_ ?_
    rotate_left
    ·rintro w' ⟨s0, s1⟩
     go_simp
     with_reducible rfl
    rotate_left
    ·simp only [Act.put, sp_, i64_w, i32_w]
     rfl
    refine take_ (i := 5) (N := some 43) (v := ?_) (a' := ?_) #[true, true, true, true, true, true, false, false] rfl rfl (take_ofW HT_.out HW_.out (by kernel_rfl)) (fun _ _ _ h => h) (Or.inl ⟨by rfl, ?_⟩) hHeld ?_ ?_
    rotate_left
    ·rintro w' ⟨s0, s1⟩
     go_simp
     with_reducible rfl
    rotate_left
    ·simp only [Act.put, sp_, i64_w, i32_w]
     rfl
    refine pure_ (i := 6) (N := some 44) (v := ?_) (a' := ?_) #[true, true, true, true, true, true, true, false] rfl rfl (any_of HT_.out (by kernel_rfl)) (fun _ _ _ h => h) (Or.inl ⟨by rfl, ?_⟩) ?_ ?_
    rotate_left
    ·intro w'
     go_simp
     with_reducible rfl
    rotate_left
    ·simp only [Act.put, sp_, i64_w, i32_w]
     rfl
    refine one_ (i := 7) (N := none) #[true, true, true, true, true, true, true, true] rfl rfl (one_of HT_.out (by kernel_rfl)) (by decide) (fun K hK => ?_)
    have hs29 : w27.cell? ⟨gb352, 0, none⟩ = some (.int .u64 0) := (blk_cell BK352.out 0).trans rfl
    have hfs29 := blk_frozen BK352.out 0
    have hns29_0 := NB351_352.out
    have hms29_0 := NB352_351.out
    have hs30 : w27.cell? ⟨gb352, 1, none⟩ = some (.int .u64 0) := (blk_cell BK352.out 1).trans rfl
    have hfs30 := blk_frozen BK352.out 1
    have hns30_0 := NB351_352.out
    have hms30_0 := NB352_351.out
    refine skip_ (w1 := ?_) (by rfl) rfl ?_ ?_
    rotate_left
    ·go_simp
     rfl
    refine hK.out _ _ ⟨((cell_far (p := ⟨gb352, _, none⟩) (by first | exact Kd.own_blk (Kd.R_ne HO_7.out BK352.out (by decide)) | (rw [add_block]; exact Kd.own_blk (Kd.R_ne HO_7.out BK352.out (by decide))) | (show (Addr.add _ _).block ≠ _; rw [add_block]; exact Kd.own_blk (Kd.R_ne HO_7.out BK352.out (by decide))) | (dsimp only; exact Kd.own_blk (Kd.R_ne HO_7.out BK352.out (by decide)))) _).trans (((cell_far (p := ⟨gb352, _, none⟩) (by first | exact Kd.own_blk (Kd.R_ne HO_7.out BK352.out (by decide)) | (rw [add_block]; exact Kd.own_blk (Kd.R_ne HO_7.out BK352.out (by decide))) | (show (Addr.add _ _).block ≠ _; rw [add_block]; exact Kd.own_blk (Kd.R_ne HO_7.out BK352.out (by decide))) | (dsimp only; exact Kd.own_blk (Kd.R_ne HO_7.out BK352.out (by decide)))) _).trans (hHeld.1)))), ((cell_far (p := ⟨gb352, _, none⟩) (by first | exact Kd.own_blk (Kd.R_ne HO_7.out BK352.out (by decide)) | (rw [add_block]; exact Kd.own_blk (Kd.R_ne HO_7.out BK352.out (by decide))) | (show (Addr.add _ _).block ≠ _; rw [add_block]; exact Kd.own_blk (Kd.R_ne HO_7.out BK352.out (by decide))) | (dsimp only; exact Kd.own_blk (Kd.R_ne HO_7.out BK352.out (by decide)))) _).trans (((cell_far (p := ⟨gb352, _, none⟩) (by first | exact Kd.own_blk (Kd.R_ne HO_7.out BK352.out (by decide)) | (rw [add_block]; exact Kd.own_blk (Kd.R_ne HO_7.out BK352.out (by decide))) | (show (Addr.add _ _).block ≠ _; rw [add_block]; exact Kd.own_blk (Kd.R_ne HO_7.out BK352.out (by decide))) | (dsimp only; exact Kd.own_blk (Kd.R_ne HO_7.out BK352.out (by decide)))) _).trans (hHeld.2))))⟩ (fun hHeld => ?_)
    clear hK K
    refine done_ (done_of HT_.out (by kernel_rfl)) ?_
    try go_wp2
    refine bodyPost_ret (results_cell_row rfl _ _ gb352 26 #[.int .u64 (rd x7_1 0), .int .u64 (rd x7_1 1)] (0, 0) _ rfl (by (with_reducible repeat first | apply bN_ | apply bD_ | apply bA_); refine blk_put (cs := #[.int .u64 (rd x7_1 0), .int .u64 0]) ?_ 1 _ rfl; refine blk_put (cs := #[.int .u64 0, .int .u64 0]) ?_ 0 _ rfl; exact bm_ BK352.out) Try.underlying26 rfl (by kernel_rfl)) rfl ?_
    exact ⟨by first | rfl | (simp [errW_none, errW_some] <;> rfl) | (simp [*, errW_none, errW_some] <;> rfl), qz_⟩
def cutplaneref03_Inf.f (a0 : Int) (a1 : Bool) : Option (Int) := (cutplaneref03_Most.f a0).bind fun t366 => ((cutplaneref03_Join.f a0 a1 t366 0).bind fun t367 => (some t367))
theorem cutplaneref03_Inf.calls (a0 : Int) (a1 : Bool) (r : Int) (w : World) (h : cutplaneref03_Inf.f a0 a1 = some r) :
  Calls Try.prog 26 #[.int .u8 a0, .bool a1] w fun e w' => e = .returned (.int .u64 r) ∧ Below w.heap.size w w' := by
 have hu93 := Try.underlying93
 have HB := A0_ (Below.refl w.heap.size w)
 have H := h
 clear h
 unfold cutplaneref03_Inf.f at H
 obtain ⟨t366, A3, H⟩ := bs_ H
 try dsimp -simprocs only at H
 obtain ⟨t367, A4, H⟩ := bs_ H
 try dsimp -simprocs only at H
 obtain rfl := Option.some.inj H
 go_enter Try.func26, Try.ntmps26
 go_wp2_with (first | ((with_reducible refine gate_callee (f := 51) rfl ?_); refine goesL_ (some 8) rfl rfl Try.func51 (by kernel_rfl) rfl #[.int .u8 a0] rfl (am_ rfl) ?_; (with_reducible refine (cutplaneref03_Most.calls a0 t366 _ A3.out).mono ?_); rintro e w' ⟨rfl, ⟨nd, rfl⟩⟩; refine ⟨_, rfl, ?_⟩) | ((with_reducible refine gate_callee (f := 50) rfl ?_); refine goesL_ (some 10) rfl rfl Try.func50 (by kernel_rfl) rfl #[.int .u8 a0, .agg #[.bool a1, .int .i64 t366, .int .u64 0]] rfl (am_ rfl) ?_; (with_reducible refine (cutplaneref03_Join.calls a0 a1 t366 0 t367 _ A4.out).mono ?_); rintro e w5 ⟨rfl, hb⟩; refine ⟨_, rfl, ?_⟩; replace HB := hs_ hb; (try clear hb)))
 go_ret
 exact ⟨by first | rfl | (simp [errW_none, errW_some] <;> rfl) | (simp [*, errW_none, errW_some] <;> rfl), qm_ HB.out⟩
end Go.Proofs.Ytlgapmhjaaajfaa.PA
end

section
namespace Go.Proofs.Ytlgapmhjaaajfaa.PA
open Go.RowKit Go.Proofs.YtlgapmhjaaajfaaW.PrintWords Go.Proofs.YtlgapmhjaaajfaaW.PrintLast Go.Proofs.YtlgapmhjaaajfaaW.PrintMore
attribute [local go_sem] max2_int min2_int max_two min_two max_three min_three max_four min_four   -- for this text's walks alone
set_option linter.unusedVariables false
set_option linter.unusedSimpArgs false
def cutplaneref05_nan.f (k : Nat) (a0 : Int) (a1 : Int) : Option (Bool) := (cutplaneref03_Class.f k a0 a1).bind fun t368 => (some (t368 == 5))
theorem cutplaneref05_nan.mono : ∀ a0 a1 k, LeO (cutplaneref05_nan.f k a0 a1) (cutplaneref05_nan.f (k + 1) a0 a1) := by
 intro a0 a1 k
 unfold cutplaneref05_nan.f
 repeat' first
   | (with_reducible exact cutplaneref03_Class.mono _ _ _)
   | (with_reducible exact LeO.refl _)
   | (with_reducible exact LeO.none _)
   | (with_reducible refine LeO.ite ?_ ?_)
   | (with_reducible refine LeO.bind ?_ (fun _ => ?_))
   | exact cutplaneref03_Class.mono _ _ _
   | exact LeO.none _
   | refine LeO.ite ?_ ?_
   | refine LeO.bind ?_ (fun _ => ?_)
theorem cutplaneref05_nan.calls (k : Nat) (a0 : Int) (a1 : Int) (r : Bool) (w : World) (h : cutplaneref05_nan.f k a0 a1 = some r) :
  Calls Try.prog 68 #[.int .u8 a0, .int .u64 a1] w fun e w' => e = .returned (.bool r) ∧ Below w.heap.size w w' := by
 have HB := A0_ (Below.refl w.heap.size w)
 have H := h
 clear h
 unfold cutplaneref05_nan.f at H
 obtain ⟨t368, A3, H⟩ := bs_ H
 try dsimp -simprocs only at H
 obtain rfl := Option.some.inj H
 go_enter Try.func68, Try.ntmps68
 go_wp2_with (first | ((with_reducible refine gate_callee (f := 31) rfl ?_); refine goesL_ (some 7) rfl rfl Try.func31 (by kernel_rfl) rfl #[.int .u8 a0, .int .u64 a1] rfl (am_ rfl) ?_; (with_reducible refine (cutplaneref03_Class.calls k a0 a1 t368 _ A3.out).mono ?_); rintro e w4 ⟨rfl, hb⟩; refine ⟨_, rfl, ?_⟩; replace HB := hs_ hb; (try clear hb)))
 go_ret
 exact ⟨by first | rfl | (simp [errW_none, errW_some] <;> rfl) | (simp [*, errW_none, errW_some] <;> rfl), qm_ HB.out⟩
def cutplaneref05_inf.f (k : Nat) (a0 : Int) (a1 : Int) : Option (Bool) := (cutplaneref03_Class.f k a0 a1).bind fun t369 => (some (t369 == 4))
theorem cutplaneref05_inf.mono : ∀ a0 a1 k, LeO (cutplaneref05_inf.f k a0 a1) (cutplaneref05_inf.f (k + 1) a0 a1) := by
 intro a0 a1 k
 unfold cutplaneref05_inf.f
 repeat' first
   | (with_reducible exact cutplaneref03_Class.mono _ _ _)
   | (with_reducible exact LeO.refl _)
   | (with_reducible exact LeO.none _)
   | (with_reducible refine LeO.ite ?_ ?_)
   | (with_reducible refine LeO.bind ?_ (fun _ => ?_))
   | exact cutplaneref03_Class.mono _ _ _
   | exact LeO.none _
   | refine LeO.ite ?_ ?_
   | refine LeO.bind ?_ (fun _ => ?_)
theorem cutplaneref05_inf.calls (k : Nat) (a0 : Int) (a1 : Int) (r : Bool) (w : World) (h : cutplaneref05_inf.f k a0 a1 = some r) :
  Calls Try.prog 69 #[.int .u8 a0, .int .u64 a1] w fun e w' => e = .returned (.bool r) ∧ Below w.heap.size w w' := by
 have HB := A0_ (Below.refl w.heap.size w)
 have H := h
 clear h
 unfold cutplaneref05_inf.f at H
 obtain ⟨t369, A3, H⟩ := bs_ H
 try dsimp -simprocs only at H
 obtain rfl := Option.some.inj H
 go_enter Try.func69, Try.ntmps69
 go_wp2_with (first | ((with_reducible refine gate_callee (f := 31) rfl ?_); refine goesL_ (some 7) rfl rfl Try.func31 (by kernel_rfl) rfl #[.int .u8 a0, .int .u64 a1] rfl (am_ rfl) ?_; (with_reducible refine (cutplaneref03_Class.calls k a0 a1 t369 _ A3.out).mono ?_); rintro e w4 ⟨rfl, hb⟩; refine ⟨_, rfl, ?_⟩; replace HB := hs_ hb; (try clear hb)))
 go_ret
 exact ⟨by first | rfl | (simp [errW_none, errW_some] <;> rfl) | (simp [*, errW_none, errW_some] <;> rfl), qm_ HB.out⟩
def cutplaneref05_zero.f (k : Nat) (a0 : Int) (a1 : Int) : Option (Bool) := (cutplaneref03_Class.f k a0 a1).bind fun t370 => (some (t370 == 1))
theorem cutplaneref05_zero.mono : ∀ a0 a1 k, LeO (cutplaneref05_zero.f k a0 a1) (cutplaneref05_zero.f (k + 1) a0 a1) := by
 intro a0 a1 k
 unfold cutplaneref05_zero.f
 repeat' first
   | (with_reducible exact cutplaneref03_Class.mono _ _ _)
   | (with_reducible exact LeO.refl _)
   | (with_reducible exact LeO.none _)
   | (with_reducible refine LeO.ite ?_ ?_)
   | (with_reducible refine LeO.bind ?_ (fun _ => ?_))
   | exact cutplaneref03_Class.mono _ _ _
   | exact LeO.none _
   | refine LeO.ite ?_ ?_
   | refine LeO.bind ?_ (fun _ => ?_)
theorem cutplaneref05_zero.calls (k : Nat) (a0 : Int) (a1 : Int) (r : Bool) (w : World) (h : cutplaneref05_zero.f k a0 a1 = some r) :
  Calls Try.prog 70 #[.int .u8 a0, .int .u64 a1] w fun e w' => e = .returned (.bool r) ∧ Below w.heap.size w w' := by
 have HB := A0_ (Below.refl w.heap.size w)
 have H := h
 clear h
 unfold cutplaneref05_zero.f at H
 obtain ⟨t370, A3, H⟩ := bs_ H
 try dsimp -simprocs only at H
 obtain rfl := Option.some.inj H
 go_enter Try.func70, Try.ntmps70
 go_wp2_with (first | ((with_reducible refine gate_callee (f := 31) rfl ?_); refine goesL_ (some 7) rfl rfl Try.func31 (by kernel_rfl) rfl #[.int .u8 a0, .int .u64 a1] rfl (am_ rfl) ?_; (with_reducible refine (cutplaneref03_Class.calls k a0 a1 t370 _ A3.out).mono ?_); rintro e w4 ⟨rfl, hb⟩; refine ⟨_, rfl, ?_⟩; replace HB := hs_ hb; (try clear hb)))
 go_ret
 exact ⟨by first | rfl | (simp [errW_none, errW_some] <;> rfl) | (simp [*, errW_none, errW_some] <;> rfl), qm_ HB.out⟩
def cutplaneref05_neg.f (a0 : Int) (a1 : Int) : Option (Bool) := (cutplaneref03_Sign.f a0).bind fun t371 => (some (decide (a1 ≥ t371)))
theorem cutplaneref05_neg.calls (a0 : Int) (a1 : Int) (r : Bool) (w : World) (h : cutplaneref05_neg.f a0 a1 = some r) :
  Calls Try.prog 71 #[.int .u8 a0, .int .u64 a1] w fun e w' => e = .returned (.bool r) ∧ Drawn0 w w' := by
 have H := h
 clear h
 unfold cutplaneref05_neg.f at H
 obtain ⟨t371, A3, H⟩ := bs_ H
 try dsimp -simprocs only at H
 obtain rfl := Option.some.inj H
 go_enter Try.func71, Try.ntmps71
 go_wp2_with (first | ((with_reducible refine gate_callee (f := 67) rfl ?_); refine goesL_ (some 7) rfl rfl Try.func67 (by kernel_rfl) rfl #[.int .u8 a0] rfl (am_ rfl) ?_; (with_reducible refine (cutplaneref03_Sign.calls a0 t371 _ A3.out).mono ?_); rintro e w' ⟨rfl, ⟨nd, rfl⟩⟩; refine ⟨_, rfl, ?_⟩))
 go_ret
 exact ⟨by first | rfl | (simp; done) | (simp [*]; done), by repeat (first | exact Drawn0.refl _ | apply Drawn0.step)⟩
def cutplaneref02_Sign.f (a0_0 : Bool) (l0_1 : List Int) (a0_2 : Int) : Option (Int) := if (l0_1.length : Int) = 0 then (some 0) else (if a0_0 = true then (some (-1)) else (some 1))
theorem cutplaneref02_Sign.calls (a0_0 : Bool) (A0_1 : Option Addr) (c0_1 : Nat) (l0_1 : List Int) (a0_2 : Int) (r : Int) (w : World) (hr0_1 : Kd.C (Kd.int .u32) w A0_1 l0_1.length l0_1) (hc0_1 : l0_1.length ≤ c0_1) (h : cutplaneref02_Sign.f a0_0 l0_1 a0_2 = some r) :
  Calls Try.prog 76 #[.agg #[.bool a0_0, .slice A0_1 l0_1.length c0_1, .int .i64 a0_2]] w fun e w' => e = .returned (.int .i64 r) ∧ Below w.heap.size w w' := by
 have hu69 := Try.underlying69
 have HR0_1 := A0_ hr0_1
 have HC0_1 := A0_ hc0_1
 clear hr0_1 hc0_1
 have HB := A0_ (Below.refl w.heap.size w)
 have H := h
 clear h
 unfold cutplaneref02_Sign.f at H
 by_cases c2 : (l0_1.length : Int) = 0
 ·rw [if_pos c2] at H
  have c2b0 : ((l0_1.length : Int) == 0) = true := beq_iff_eq.mpr c2
  have c2b1 : ((l0_1.length : Int) != 0) = false := bne_eq_false_iff_eq.mpr c2
  clear c2
  obtain rfl := Option.some.inj H
  go_enter Try.func76, Try.ntmps76
  go_wp2_with (first | ((with_reducible refine gate_dst (N := 1) rfl ?_); refine box_event ?hg (N := 1) ?hd (cs := #[.bool a0_0, .slice A0_1 l0_1.length c0_1, .int .i64 a0_2]) (t := 69) ?hr ?_; (case hd => rfl); (case hg => rfl); (case hr => first | (go_simp; done) | (go_simp; rfl)); intro gb372 hg w3 hbox hb; have BK372 := A0_ (hbox); have GW372 := A0_ ((by rw [hg]; exact (below_size (qm_ HB.out)) : w.heap.size ≤ gb372)); have GE372 := GW372; replace HB := hs_ hb; clear hb hbox hg; have hcz4 := bc3_ BK372.out; have hfz4 := bf3_ BK372.out))
  go_ret
  exact ⟨by first | rfl | (simp [errW_none, errW_some] <;> rfl) | (simp [*, errW_none, errW_some] <;> rfl), qz_⟩
 ·rw [if_neg c2] at H
  have c2b0 : ((l0_1.length : Int) == 0) = false := beq_eq_false_iff_ne.mpr c2
  have c2b1 : ((l0_1.length : Int) != 0) = true := bne_iff_ne.mpr c2
  have c2b2 : ¬ (l0_1 = []) := fun h_ => c2 (by rw [h_]; rfl)
  by_cases c5 : a0_0 = true
  ·subst c5
   rw [if_pos rfl] at H
   obtain rfl := Option.some.inj H
   go_enter Try.func76, Try.ntmps76
   go_wp2_with (first | ((with_reducible refine gate_dst (N := 1) rfl ?_); refine box_event ?hg (N := 1) ?hd (cs := #[.bool true, .slice A0_1 l0_1.length c0_1, .int .i64 a0_2]) (t := 69) ?hr ?_; (case hd => rfl); (case hg => rfl); (case hr => first | (go_simp; done) | (go_simp; rfl)); intro gb372 hg w6 hbox hb; have BK372 := A0_ (hbox); have GW372 := A0_ ((by rw [hg]; exact (below_size (qm_ HB.out)) : w.heap.size ≤ gb372)); have GE372 := GW372; replace HB := hs_ hb; clear hb hbox hg; have hcz7 := bc3_ BK372.out; have hfz7 := bf3_ BK372.out))
   go_ret
   exact ⟨by first | rfl | (simp [errW_none, errW_some] <;> rfl) | (simp [*, errW_none, errW_some] <;> rfl), qz_⟩
  ·replace c5 := Bool.eq_false_iff.mpr c5
   subst c5
   rw [if_neg (show ¬ (false = true) by decide)] at H
   obtain rfl := Option.some.inj H
   go_enter Try.func76, Try.ntmps76
   go_wp2_with (first | ((with_reducible refine gate_dst (N := 1) rfl ?_); refine box_event ?hg (N := 1) ?hd (cs := #[.bool false, .slice A0_1 l0_1.length c0_1, .int .i64 a0_2]) (t := 69) ?hr ?_; (case hd => rfl); (case hg => rfl); (case hr => first | (go_simp; done) | (go_simp; rfl)); intro gb372 hg w8 hbox hb; have BK372 := A0_ (hbox); have GW372 := A0_ ((by rw [hg]; exact (below_size (qm_ HB.out)) : w.heap.size ≤ gb372)); have GE372 := GW372; replace HB := hs_ hb; clear hb hbox hg; have hcz9 := bc3_ BK372.out; have hfz9 := bf3_ BK372.out))
   go_ret
   exact ⟨by first | rfl | (simp [errW_none, errW_some] <;> rfl) | (simp [*, errW_none, errW_some] <;> rfl), qz_⟩
def cutplaneref01_Len.l0 : Nat → Int → Int → Option (Int)
 | 0, _, _ => none
 | k + 1, x3, x4 => if x4 > 0 then (cutplaneref01_Len.l0 k (wrap64 (x3 + 1)) (x4 / 2)) else (some x3)
def cutplaneref01_Len.f (k : Nat) (l0 : List Int) : Option (Int) := if (l0.length : Int) = 0 then (some 0) else (if 0 ≤ (wrap64 ((l0.length : Int) - 1)) then (if (wrap64 ((l0.length : Int) - 1)) < (l0.length : Int) then (cutplaneref01_Len.l0 k (wrap64 (32 * (wrap64 ((l0.length : Int) - 1)))) (rd l0 (wrap64 ((l0.length : Int) - 1)))) else (none)) else (none))
theorem cutplaneref01_Len.mono_l : ∀ k, (∀ y0 y1, LeO (cutplaneref01_Len.l0 k y0 y1) (cutplaneref01_Len.l0 (k + 1) y0 y1))
 | 0 => fun _ _ r h => by simp [cutplaneref01_Len.l0] at h
 | k + 1 => by
  have ih0 := cutplaneref01_Len.mono_l k
  ·intro y0 y1
   unfold cutplaneref01_Len.l0
   repeat' first
   | (with_reducible exact ih0 _ _)
   | (with_reducible exact LeO.refl _)
   | (with_reducible exact LeO.none _)
   | (with_reducible refine LeO.ite ?_ ?_)
   | (with_reducible refine LeO.bind ?_ (fun _ => ?_))
   | exact ih0 _ _
   | exact LeO.none _
   | refine LeO.ite ?_ ?_
   | refine LeO.bind ?_ (fun _ => ?_)
theorem cutplaneref01_Len.mono : ∀ a0 k, LeO (cutplaneref01_Len.f k a0) (cutplaneref01_Len.f (k + 1) a0) := by
 intro a0 k
 have ih0 := cutplaneref01_Len.mono_l k
 unfold cutplaneref01_Len.f
 repeat' first
   | (with_reducible exact ih0 _ _)
   | (with_reducible exact LeO.refl _)
   | (with_reducible exact LeO.none _)
   | (with_reducible refine LeO.ite ?_ ?_)
   | (with_reducible refine LeO.bind ?_ (fun _ => ?_))
   | exact ih0 _ _
   | exact LeO.none _
   | refine LeO.ite ?_ ?_
   | refine LeO.bind ?_ (fun _ => ?_)
theorem cutplaneref01_Len.calls (k : Nat) (A0 : Option Addr) (c0 : Nat) (l0 : List Int) (r : Int) (w : World) (hr0 : Kd.C (Kd.int .u32) w A0 l0.length l0) (hc0 : l0.length ≤ c0) (h : cutplaneref01_Len.f k l0 = some r) :
  Calls Try.prog 100 #[.slice A0 l0.length c0] w fun e w' => e = .returned (.int .i64 r) ∧ Drawn0 w w' := by
 have HR0 := A0_ hr0
 have HC0 := A0_ hc0
 clear hr0 hc0
 have H := h
 clear h
 unfold cutplaneref01_Len.f at H
 by_cases c2 : (l0.length : Int) = 0
 ·rw [if_pos c2] at H
  have c2b0 : ((l0.length : Int) == 0) = true := beq_iff_eq.mpr c2
  have c2b1 : ((l0.length : Int) != 0) = false := bne_eq_false_iff_eq.mpr c2
  clear c2
  obtain rfl := Option.some.inj H
  go_enter Try.func100, Try.ntmps100
  go_wp2
  go_ret
  exact ⟨by first | rfl | (simp; done) | (simp [*]; done), by repeat (first | exact Drawn0.refl _ | apply Drawn0.step)⟩
 ·rw [if_neg c2] at H
  have c2b0 : ((l0.length : Int) == 0) = false := beq_eq_false_iff_ne.mpr c2
  have c2b1 : ((l0.length : Int) != 0) = true := bne_iff_ne.mpr c2
  have c2b2 : ¬ (l0 = []) := fun h_ => c2 (by rw [h_]; rfl)
  obtain ⟨ji3, hji3⟩ : ∃ j_ : Int, (wrap64 ((l0.length : Int) - 1)) = j_ := ⟨_, rfl⟩
  replace H : (if 0 ≤ (ji3) then (if (ji3) < (l0.length : Int) then (cutplaneref01_Len.l0 k (wrap64 (32 * (ji3))) (rd l0 (ji3))) else (none)) else (none)) = some r := by first | (rw [hji3] at H; exact H) | (simp only [hji3] at H ⊢; exact H)
  have hji3w : (IntKind.i64.wrap ((l0.length : Int) - 1)) = ji3 := (i64_w _).trans hji3
  obtain ⟨c4, H⟩ := ic_ H
  have c4b0 : decide (0 ≤ (ji3)) = true := decide_eq_true c4
  clear c4
  obtain ⟨c5, H⟩ := ic_ H
  have c5b0 : decide ((ji3) < (l0.length : Int)) = true := decide_eq_true c5
  clear c5
  have H' := A0_ H
  clear H
  have p373 : 0 ≤ ((ji3) : Int) := of_decide_eq_true (by first | (with_reducible assumption) | assumption)
  have q373 : (ji3) < (l0.length : Int) := of_decide_eq_true (by first | (with_reducible assumption) | assumption)
  obtain ⟨ad373, e373, hx373_0⟩ := Kd.at_int HR0.out (ji3) p373 q373
  cases e373
  replace p373 := eq_true p373
  replace q373 := eq_true q373
  go_enter Try.func100, Try.ntmps100
  go_wp2
  go_loopg [3, 4] k (fun kq v3 v4 w' => ∃ (x3_1 : Int) (x4_1 : Int), v3 = .int .i64 x3_1 ∧ v4 = .int .u32 x4_1 ∧ Aside0 (cutplaneref01_Len.l0 kq x3_1 x4_1 = some r) ∧ Aside0 (kq ≤ k) ∧ Drawn0 w w')
  case atStart => exact ⟨(wrap64 (32 * (ji3))), (rd l0 (ji3)), (by first | rfl | (simp; done) | (simp only [← hji3] <;> (first | rfl | simp)) | (simp [*]; done)), (by first | rfl | (simp; done) | (simp only [← hji3] <;> (first | rfl | simp)) | (simp [*]; done)), H', ⟨Nat.le_refl _⟩, by repeat (first | exact Drawn0.refl _ | apply Drawn0.step)⟩
  case round =>
   clear H'
   try clear c1
   try clear c2
   try clear c2b0
   try clear c2b1
   try clear c2b2
   try clear p2
   try clear p3
   try clear q3
   try clear hx3
   try clear c4
   try clear c4b0
   try clear c5
   try clear c5b0
   try clear hx373_0
   try clear p373
   try clear q373
   obtain ⟨x3_1, x4_1, rfl, rfl, HA, HK1, ⟨m1, rfl⟩⟩ := hrel
   cases gk with
   | zero => exact absurd HA.out (by simp [cutplaneref01_Len.l0])
   | succ k1 =>
    have H := HA.out
    clear HA
    simp only [cutplaneref01_Len.l0] at H
    by_cases c6 : x4_1 > 0
    ·rw [if_pos c6] at H
     have c6b0 : decide (0 < x4_1) = true := decide_eq_true c6
     clear c6
     have H' := A0_ H
     clear H
     go_wp2
     first | go_roundg k1 | ((try subst hji3); go_roundg k1)
     case measure => have := HK1.out; omega
     case rel => exact ⟨(wrap64 (x3_1 + 1)), (x4_1 / 2), (by first | rfl | (simp; done) | (simp [*]; done)), (by first | rfl | (simp; done) | (simp [*]; done)), H', ⟨by have := HK1.out; omega⟩, by repeat (first | exact Drawn0.refl _ | apply Drawn0.step)⟩
    ·rw [if_neg c6] at H
     have c6b0 : decide (0 < x4_1) = false := decide_eq_false c6
     clear c6
     obtain rfl := Option.some.inj H
     go_wp2
     go_ret
     exact ⟨by first | rfl | (simp; done) | (simp only [← hji3] <;> (first | rfl | simp)) | (simp [*]; done), by repeat (first | exact Drawn0.refl _ | apply Drawn0.step)⟩
end Go.Proofs.Ytlgapmhjaaajfaa.PA
end

section
namespace Go.Proofs.Ytlgapmhjaaajfaa.PA
open Go.RowKit Go.Proofs.YtlgapmhjaaajfaaW.PrintWords Go.Proofs.YtlgapmhjaaajfaaW.PrintLast Go.Proofs.YtlgapmhjaaajfaaW.PrintMore
attribute [local go_sem] max2_int min2_int max_two min_two max_three min_three max_four min_four   -- for this text's walks alone
set_option linter.unusedVariables false
set_option linter.unusedSimpArgs false
def cutplaneref02_Top.f (k : Nat) (a0_0 : Bool) (l0_1 : List Int) (a0_2 : Int) : Option (Int) := if (l0_1.length : Int) = 0 then (some 0) else ((cutplaneref01_Len.f k l0_1).bind fun t375 => (some (wrap64 (a0_2 + t375))))
theorem cutplaneref02_Top.mono : ∀ a0 a1 a2 k, LeO (cutplaneref02_Top.f k a0 a1 a2) (cutplaneref02_Top.f (k + 1) a0 a1 a2) := by
 intro a0 a1 a2 k
 unfold cutplaneref02_Top.f
 repeat' first
   | (with_reducible exact cutplaneref01_Len.mono _ _)
   | (with_reducible exact LeO.refl _)
   | (with_reducible exact LeO.none _)
   | (with_reducible refine LeO.ite ?_ ?_)
   | (with_reducible refine LeO.bind ?_ (fun _ => ?_))
   | exact cutplaneref01_Len.mono _ _
   | exact LeO.none _
   | refine LeO.ite ?_ ?_
   | refine LeO.bind ?_ (fun _ => ?_)
theorem cutplaneref02_Top.calls (k : Nat) (a0_0 : Bool) (A0_1 : Option Addr) (c0_1 : Nat) (l0_1 : List Int) (a0_2 : Int) (r : Int) (w : World) (hr0_1 : Kd.C (Kd.int .u32) w A0_1 l0_1.length l0_1) (hc0_1 : l0_1.length ≤ c0_1) (h : cutplaneref02_Top.f k a0_0 l0_1 a0_2 = some r) :
  Calls Try.prog 85 #[.agg #[.bool a0_0, .slice A0_1 l0_1.length c0_1, .int .i64 a0_2]] w fun e w' => e = .returned (.int .i64 r) ∧ Below w.heap.size w w' := by
 have hu69 := Try.underlying69
 have HR0_1 := A0_ hr0_1
 have HC0_1 := A0_ hc0_1
 clear hr0_1 hc0_1
 have HB := A0_ (Below.refl w.heap.size w)
 have H := h
 clear h
 unfold cutplaneref02_Top.f at H
 by_cases c2 : (l0_1.length : Int) = 0
 ·rw [if_pos c2] at H
  have c2b0 : ((l0_1.length : Int) == 0) = true := beq_iff_eq.mpr c2
  have c2b1 : ((l0_1.length : Int) != 0) = false := bne_eq_false_iff_eq.mpr c2
  clear c2
  obtain rfl := Option.some.inj H
  go_enter Try.func85, Try.ntmps85
  go_wp2_with (first | ((with_reducible refine gate_dst (N := 1) rfl ?_); refine box_event ?hg (N := 1) ?hd (cs := #[.bool a0_0, .slice A0_1 l0_1.length c0_1, .int .i64 a0_2]) (t := 69) ?hr ?_; (case hd => rfl); (case hg => rfl); (case hr => first | (go_simp; done) | (go_simp; rfl)); intro gb374 hg w3 hbox hb; have BK374 := A0_ (hbox); have GW374 := A0_ ((by rw [hg]; exact (below_size (qm_ HB.out)) : w.heap.size ≤ gb374)); have GE374 := GW374; replace HB := hs_ hb; clear hb hbox hg; have hcz4 := bc3_ BK374.out; have hfz4 := bf3_ BK374.out))
  repeat (go_quiet (first | ((with_reducible refine gate_dst (N := 1) rfl ?_); refine box_event ?hg (N := 1) ?hd (cs := #[.bool a0_0, .slice A0_1 l0_1.length c0_1, .int .i64 a0_2]) (t := 69) ?hr ?_; (case hd => rfl); (case hg => rfl); (case hr => first | (go_simp; done) | (go_simp; rfl)); intro gb374 hg w3 hbox hb; have BK374 := A0_ (hbox); have GW374 := A0_ ((by rw [hg]; exact (below_size (qm_ HB.out)) : w.heap.size ≤ gb374)); have GE374 := GW374; replace HB := hs_ hb; clear hb hbox hg; have hcz4 := bc3_ BK374.out; have hfz4 := bf3_ BK374.out)); try go_wp2_with (first | ((with_reducible refine gate_dst (N := 1) rfl ?_); refine box_event ?hg (N := 1) ?hd (cs := #[.bool a0_0, .slice A0_1 l0_1.length c0_1, .int .i64 a0_2]) (t := 69) ?hr ?_; (case hd => rfl); (case hg => rfl); (case hr => first | (go_simp; done) | (go_simp; rfl)); intro gb374 hg w3 hbox hb; have BK374 := A0_ (hbox); have GW374 := A0_ ((by rw [hg]; exact (below_size (qm_ HB.out)) : w.heap.size ≤ gb374)); have GE374 := GW374; replace HB := hs_ hb; clear hb hbox hg; have hcz4 := bc3_ BK374.out; have hfz4 := bf3_ BK374.out)))
  go_ret
  exact ⟨by first | rfl | (simp [errW_none, errW_some] <;> rfl) | (simp [*, errW_none, errW_some] <;> rfl), qz_⟩
 ·rw [if_neg c2] at H
  have c2b0 : ((l0_1.length : Int) == 0) = false := beq_eq_false_iff_ne.mpr c2
  have c2b1 : ((l0_1.length : Int) != 0) = true := bne_iff_ne.mpr c2
  have c2b2 : ¬ (l0_1 = []) := fun h_ => c2 (by rw [h_]; rfl)
  obtain ⟨t375, A5, H⟩ := bs_ H
  try dsimp -simprocs only at H
  obtain rfl := Option.some.inj H
  go_enter Try.func85, Try.ntmps85
  go_wp2_with (first | ((with_reducible refine gate_dst (N := 1) rfl ?_); refine box_event ?hg (N := 1) ?hd (cs := #[.bool a0_0, .slice A0_1 l0_1.length c0_1, .int .i64 a0_2]) (t := 69) ?hr ?_; (case hd => rfl); (case hg => rfl); (case hr => first | (go_simp; done) | (go_simp; rfl)); intro gb374 hg w6 hbox hb; have BK374 := A0_ (hbox); have GW374 := A0_ ((by rw [hg]; exact (below_size (qm_ HB.out)) : w.heap.size ≤ gb374)); have GE374 := GW374; replace HB := hs_ hb; clear hb hbox hg; have hcz7 := bc3_ BK374.out; have hfz7 := bf3_ BK374.out) | (go_at_call 100; (with_reducible refine (cutplaneref01_Len.calls k _ _ l0_1 t375 _ ?side1 ?side2 A5.out).mono ?_); (case side1 => repeat (first | exact (Kd.C_below HR0_1.out HB.out) | (with_reducible refine Kd.C_alloc ?_ _) | (with_reducible refine Kd.C_drewN ?_ _) | (with_reducible refine Kd.C_drew ?_))); (case side2 => exact HC0_1.out); rintro e w' ⟨rfl, ⟨nd, rfl⟩⟩; (try first | exact ⟨rfl, _, World.drewN_drewN _ _ _⟩ | exact ⟨rfl, _, Eq.trans (World.drewN_drewN _ _ _) (congrArg (World.drewN _) (Nat.add_assoc _ _ _))⟩)))
  repeat (go_quiet (first | ((with_reducible refine gate_dst (N := 1) rfl ?_); refine box_event ?hg (N := 1) ?hd (cs := #[.bool a0_0, .slice A0_1 l0_1.length c0_1, .int .i64 a0_2]) (t := 69) ?hr ?_; (case hd => rfl); (case hg => rfl); (case hr => first | (go_simp; done) | (go_simp; rfl)); intro gb374 hg w6 hbox hb; have BK374 := A0_ (hbox); have GW374 := A0_ ((by rw [hg]; exact (below_size (qm_ HB.out)) : w.heap.size ≤ gb374)); have GE374 := GW374; replace HB := hs_ hb; clear hb hbox hg; have hcz7 := bc3_ BK374.out; have hfz7 := bf3_ BK374.out) | (go_at_call 100; (with_reducible refine (cutplaneref01_Len.calls k _ _ l0_1 t375 _ ?side1 ?side2 A5.out).mono ?_); (case side1 => repeat (first | exact (Kd.C_below HR0_1.out HB.out) | (with_reducible refine Kd.C_alloc ?_ _) | (with_reducible refine Kd.C_drewN ?_ _) | (with_reducible refine Kd.C_drew ?_))); (case side2 => exact HC0_1.out); rintro e w' ⟨rfl, ⟨nd, rfl⟩⟩; (try first | exact ⟨rfl, _, World.drewN_drewN _ _ _⟩ | exact ⟨rfl, _, Eq.trans (World.drewN_drewN _ _ _) (congrArg (World.drewN _) (Nat.add_assoc _ _ _))⟩))); try go_wp2_with (first | ((with_reducible refine gate_dst (N := 1) rfl ?_); refine box_event ?hg (N := 1) ?hd (cs := #[.bool a0_0, .slice A0_1 l0_1.length c0_1, .int .i64 a0_2]) (t := 69) ?hr ?_; (case hd => rfl); (case hg => rfl); (case hr => first | (go_simp; done) | (go_simp; rfl)); intro gb374 hg w6 hbox hb; have BK374 := A0_ (hbox); have GW374 := A0_ ((by rw [hg]; exact (below_size (qm_ HB.out)) : w.heap.size ≤ gb374)); have GE374 := GW374; replace HB := hs_ hb; clear hb hbox hg; have hcz7 := bc3_ BK374.out; have hfz7 := bf3_ BK374.out) | (go_at_call 100; (with_reducible refine (cutplaneref01_Len.calls k _ _ l0_1 t375 _ ?side1 ?side2 A5.out).mono ?_); (case side1 => repeat (first | exact (Kd.C_below HR0_1.out HB.out) | (with_reducible refine Kd.C_alloc ?_ _) | (with_reducible refine Kd.C_drewN ?_ _) | (with_reducible refine Kd.C_drew ?_))); (case side2 => exact HC0_1.out); rintro e w' ⟨rfl, ⟨nd, rfl⟩⟩; (try first | exact ⟨rfl, _, World.drewN_drewN _ _ _⟩ | exact ⟨rfl, _, Eq.trans (World.drewN_drewN _ _ _) (congrArg (World.drewN _) (Nat.add_assoc _ _ _))⟩))))
  go_ret
  exact ⟨by first | rfl | (simp [errW_none, errW_some] <;> rfl) | (simp [*, errW_none, errW_some] <;> rfl), qz_⟩
def cutplaneref03_Low.f (a0 : Int) : Option (Int) := if a0 = 1 then (some (-149)) else (some (-1074))
theorem cutplaneref03_Low.calls (a0 : Int) (r : Int) (w : World) (h : cutplaneref03_Low.f a0 = some r) :
  Calls Try.prog 86 #[.int .u8 a0] w fun e w' => e = .returned (.int .i64 r) ∧ Drawn0 w w' := by
 have H := h
 clear h
 unfold cutplaneref03_Low.f at H
 by_cases c2 : a0 = 1
 ·rw [if_pos c2] at H
  have c2b0 : (a0 == 1) = true := beq_iff_eq.mpr c2
  have c2b1 : (a0 != 1) = false := bne_eq_false_iff_eq.mpr c2
  clear c2
  obtain rfl := Option.some.inj H
  go_enter Try.func86, Try.ntmps86
  go_wp2
  go_ret
  exact ⟨by first | rfl | (simp; done) | (simp [*]; done), by repeat (first | exact Drawn0.refl _ | apply Drawn0.step)⟩
 ·rw [if_neg c2] at H
  have c2b0 : (a0 == 1) = false := beq_eq_false_iff_ne.mpr c2
  have c2b1 : (a0 != 1) = true := bne_iff_ne.mpr c2
  obtain rfl := Option.some.inj H
  go_enter Try.func86, Try.ntmps86
  go_wp2
  go_ret
  exact ⟨by first | rfl | (simp; done) | (simp [*]; done), by repeat (first | exact Drawn0.refl _ | apply Drawn0.step)⟩
def cutplaneref01_Bit.f (l0 : List Int) (a1 : Int) : Option (Int) := if a1 < 0 then (some 0) else (if (wrap64 (Int.tdiv a1 32)) ≥ (l0.length : Int) then (some 0) else (if 0 ≤ (wrap64 (Int.tdiv a1 32)) then (if (wrap64 (Int.tdiv a1 32)) < (l0.length : Int) then (if 0 ≤ (Int.tmod a1 32) then (some (Go.bits .and .u32 (shr .u32 (rd l0 (wrap64 (Int.tdiv a1 32))) (Int.tmod a1 32)) 1)) else (none)) else (none)) else (none)))
theorem cutplaneref01_Bit.calls (A0 : Option Addr) (c0 : Nat) (l0 : List Int) (a1 : Int) (r : Int) (w : World) (hr0 : Kd.C (Kd.int .u32) w A0 l0.length l0) (hc0 : l0.length ≤ c0) (h : cutplaneref01_Bit.f l0 a1 = some r) :
  Calls Try.prog 112 #[.slice A0 l0.length c0, .int .i64 a1] w fun e w' => e = .returned (.int .u32 r) ∧ Drawn0 w w' := by
 have HR0 := A0_ hr0
 have HC0 := A0_ hc0
 clear hr0 hc0
 have H := h
 clear h
 unfold cutplaneref01_Bit.f at H
 by_cases c3 : a1 < 0
 ·rw [if_pos c3] at H
  have c3b0 : decide (a1 < 0) = true := decide_eq_true c3
  clear c3
  obtain rfl := Option.some.inj H
  go_enter Try.func112, Try.ntmps112
  go_wp2
  go_ret
  exact ⟨by first | rfl | (simp; done) | (simp [*]; done), by repeat (first | exact Drawn0.refl _ | apply Drawn0.step)⟩
 ·rw [if_neg c3] at H
  have c3b0 : decide (a1 < 0) = false := decide_eq_false c3
  clear c3
  by_cases c4 : (wrap64 (Int.tdiv a1 32)) ≥ (l0.length : Int)
  ·rw [if_pos c4] at H
   have c4b0 : decide ((l0.length : Int) ≤ (wrap64 (Int.tdiv a1 32))) = true := decide_eq_true c4
   clear c4
   obtain rfl := Option.some.inj H
   go_enter Try.func112, Try.ntmps112
   go_wp2
   go_ret
   exact ⟨by first | rfl | (simp; done) | (simp [*]; done), by repeat (first | exact Drawn0.refl _ | apply Drawn0.step)⟩
  ·rw [if_neg c4] at H
   have c4b0 : decide ((l0.length : Int) ≤ (wrap64 (Int.tdiv a1 32))) = false := decide_eq_false c4
   clear c4
   obtain ⟨ji5, hji5⟩ : ∃ j_ : Int, (wrap64 (Int.tdiv a1 32)) = j_ := ⟨_, rfl⟩
   replace H : (if 0 ≤ (ji5) then (if (ji5) < (l0.length : Int) then (if 0 ≤ (Int.tmod a1 32) then (some (Go.bits .and .u32 (shr .u32 (rd l0 (ji5)) (Int.tmod a1 32)) 1)) else (none)) else (none)) else (none)) = some r := by first | (rw [hji5] at H; exact H) | (simp only [hji5] at H ⊢; exact H)
   (try rw [hji5] at c4b0)
   have hji5w : (IntKind.i64.wrap (Int.tdiv a1 32)) = ji5 := (i64_w _).trans hji5
   obtain ⟨c6, H⟩ := ic_ H
   have c6b0 : decide (0 ≤ (ji5)) = true := decide_eq_true c6
   clear c6
   obtain ⟨c7, H⟩ := ic_ H
   have c7b0 : decide ((ji5) < (l0.length : Int)) = true := decide_eq_true c7
   clear c7
   obtain ⟨ji8, hji8⟩ : ∃ j_ : Int, (Int.tmod a1 32) = j_ := ⟨_, rfl⟩
   replace H : (if 0 ≤ (ji8) then (some (Go.bits .and .u32 (shr .u32 (rd l0 (ji5)) (ji8)) 1)) else (none)) = some r := by first | (rw [hji8] at H; exact H) | (simp only [hji8] at H ⊢; exact H)
   obtain ⟨c9, H⟩ := ic_ H
   have c9b0 := eq_true c9
   have c9b1 : decide (0 ≤ (ji8)) = true := decide_eq_true c9
   clear c9
   obtain ⟨ji10, hji10⟩ : ∃ j_ : Int, (shr .u32 (rd l0 (ji5)) (ji8)) = j_ := ⟨_, rfl⟩
   replace H : (some (Go.bits .and .u32 (ji10) 1)) = some r := by first | (rw [hji10] at H; exact H) | (simp only [hji10] at H ⊢; exact H)
   have hji10_ : ((rd l0 (ji5)) / 2 ^ min (ji8).toNat 32) = ji10 := hji10
   have hji10z : (ji8) ≤ 32 → ((rd l0 (ji5)) / 2 ^ (ji8).toNat) = ji10 := shr_small hji10
   obtain rfl := Option.some.inj H
   have p376 : 0 ≤ ((ji5) : Int) := of_decide_eq_true (by first | (with_reducible assumption) | assumption)
   have q376 : (ji5) < (l0.length : Int) := of_decide_eq_true (by first | (with_reducible assumption) | assumption)
   obtain ⟨ad376, e376, hx376_0⟩ := Kd.at_int HR0.out (ji5) p376 q376
   cases e376
   replace p376 := eq_true p376
   replace q376 := eq_true q376
   go_enter Try.func112, Try.ntmps112
   go_wp2
   go_ret
   exact ⟨by first | rfl | (simp; done) | (simp only [← hji5, ← hji8, ← hji10] <;> (first | rfl | simp)) | (simp [*]; done), by repeat (first | exact Drawn0.refl _ | apply Drawn0.step)⟩
end Go.Proofs.Ytlgapmhjaaajfaa.PA
end

section
namespace Go.Proofs.Ytlgapmhjaaajfaa.PA
open Go.RowKit Go.Proofs.YtlgapmhjaaajfaaW.PrintWords Go.Proofs.YtlgapmhjaaajfaaW.PrintLast Go.Proofs.YtlgapmhjaaajfaaW.PrintMore
attribute [local go_sem] max2_int min2_int max_two min_two max_three min_three max_four min_four   -- for this text's walks alone
set_option linter.unusedVariables false
set_option linter.unusedSimpArgs false
def cutplaneref01_Same.l0 : Nat → List Int → List Int → Int → Option (Bool)
 | 0, _, _, _ => none
 | k + 1, x0, x1, x5 => if x5 < (x0.length : Int) then (if 0 ≤ x5 then (if x5 < (x1.length : Int) then (if (rd x0 x5) = (rd x1 x5) then (cutplaneref01_Same.l0 k x0 x1 (wrap64 (x5 + 1))) else (some false)) else (none)) else (none)) else (some true)
def cutplaneref01_Same.f (k : Nat) (l0 : List Int) (l1 : List Int) : Option (Bool) := if (l0.length : Int) = (l1.length : Int) then (cutplaneref01_Same.l0 k l0 l1 0) else (some false)
theorem cutplaneref01_Same.mono_l : ∀ k, (∀ y0 y1 y2, LeO (cutplaneref01_Same.l0 k y0 y1 y2) (cutplaneref01_Same.l0 (k + 1) y0 y1 y2))
 | 0 => fun _ _ _ r h => by simp [cutplaneref01_Same.l0] at h
 | k + 1 => by
  have ih0 := cutplaneref01_Same.mono_l k
  ·intro y0 y1 y2
   unfold cutplaneref01_Same.l0
   repeat' first
   | (with_reducible exact ih0 _ _ _)
   | (with_reducible exact LeO.refl _)
   | (with_reducible exact LeO.none _)
   | (with_reducible refine LeO.ite ?_ ?_)
   | (with_reducible refine LeO.bind ?_ (fun _ => ?_))
   | exact ih0 _ _ _
   | exact LeO.none _
   | refine LeO.ite ?_ ?_
   | refine LeO.bind ?_ (fun _ => ?_)
theorem cutplaneref01_Same.mono : ∀ a0 a1 k, LeO (cutplaneref01_Same.f k a0 a1) (cutplaneref01_Same.f (k + 1) a0 a1) := by
 intro a0 a1 k
 have ih0 := cutplaneref01_Same.mono_l k
 unfold cutplaneref01_Same.f
 repeat' first
   | (with_reducible exact ih0 _ _ _)
   | (with_reducible exact LeO.refl _)
   | (with_reducible exact LeO.none _)
   | (with_reducible refine LeO.ite ?_ ?_)
   | (with_reducible refine LeO.bind ?_ (fun _ => ?_))
   | exact ih0 _ _ _
   | exact LeO.none _
   | refine LeO.ite ?_ ?_
   | refine LeO.bind ?_ (fun _ => ?_)
theorem cutplaneref01_Same.calls (k : Nat) (A0 : Option Addr) (c0 : Nat) (l0 : List Int) (A1 : Option Addr) (c1 : Nat) (l1 : List Int) (r : Bool) (w : World) (hr0 : Kd.C (Kd.int .u32) w A0 l0.length l0) (hc0 : l0.length ≤ c0) (hr1 : Kd.C (Kd.int .u32) w A1 l1.length l1) (hc1 : l1.length ≤ c1) (h : cutplaneref01_Same.f k l0 l1 = some r) :
  Calls Try.prog 107 #[.slice A0 l0.length c0, .slice A1 l1.length c1] w fun e w' => e = .returned (.bool r) ∧ Drawn0 w w' := by
 have HR0 := A0_ hr0
 have HC0 := A0_ hc0
 clear hr0 hc0
 have HR1 := A0_ hr1
 have HC1 := A0_ hc1
 clear hr1 hc1
 have H := h
 clear h
 unfold cutplaneref01_Same.f at H
 by_cases c3 : (l0.length : Int) = (l1.length : Int)
 ·rw [if_pos c3] at H
  have c3b0 : ((l0.length : Int) == (l1.length : Int)) = true := beq_iff_eq.mpr c3
  have c3b1 : ((l0.length : Int) != (l1.length : Int)) = false := bne_eq_false_iff_eq.mpr c3
  have c3b2 : (l0.length == l1.length) = true := by first | simpa using c3 | (simp at c3 ⊢; omega)
  clear c3
  have H' := A0_ H
  clear H
  go_enter Try.func107, Try.ntmps107
  go_wp2
  repeat (go_quiet (fail); try go_wp2)
  go_loopg [5] k (fun kq v5 w' => ∃ (x5_1 : Int), v5 = .int .i64 x5_1 ∧ Aside0 (cutplaneref01_Same.l0 kq l0 l1 x5_1 = some r) ∧ Aside0 (kq ≤ k) ∧ Drawn0 w w')
  case atStart => exact ⟨(0), (by first | rfl | (simp; done) | (simp [*]; done)), H', ⟨Nat.le_refl _⟩, by repeat (first | exact Drawn0.refl _ | apply Drawn0.step)⟩
  case round =>
   clear H'
   try clear c1
   try clear p2
   try clear c3
   try clear c3b0
   try clear c3b1
   try clear c3b2
   obtain ⟨x5_1, rfl, HA, HK1, ⟨m1, rfl⟩⟩ := hrel
   cases gk with
   | zero => exact absurd HA.out (by simp [cutplaneref01_Same.l0])
   | succ k1 =>
    have H := HA.out
    clear HA
    simp only [cutplaneref01_Same.l0] at H
    by_cases c4 : x5_1 < (l0.length : Int)
    ·rw [if_pos c4] at H
     have c4b0 : decide (x5_1 < (l0.length : Int)) = true := decide_eq_true c4
     clear c4
     obtain ⟨c5, H⟩ := ic_ H
     have c5b0 : decide (0 ≤ x5_1) = true := decide_eq_true c5
     clear c5
     obtain ⟨c6, H⟩ := ic_ H
     have c6b0 : decide (x5_1 < (l1.length : Int)) = true := decide_eq_true c6
     clear c6
     by_cases c7 : (rd l0 x5_1) = (rd l1 x5_1)
     ·rw [if_pos c7] at H
      have c7b0 : ((rd l0 x5_1) == (rd l1 x5_1)) = true := beq_iff_eq.mpr c7
      have c7b1 : ((rd l0 x5_1) != (rd l1 x5_1)) = false := bne_eq_false_iff_eq.mpr c7
      clear c7
      have H' := A0_ H
      clear H
      have p491 : 0 ≤ (x5_1 : Int) := of_decide_eq_true (by first | (with_reducible assumption) | assumption)
      have q491 : x5_1 < (l0.length : Int) := of_decide_eq_true (by first | (with_reducible assumption) | assumption)
      obtain ⟨ad491, e491, hx491_0⟩ := Kd.at_int HR0.out x5_1 p491 q491
      cases e491
      replace p491 := eq_true p491
      replace q491 := eq_true q491
      have p492 : 0 ≤ (x5_1 : Int) := of_decide_eq_true (by first | (with_reducible assumption) | assumption)
      have q492 : x5_1 < (l1.length : Int) := of_decide_eq_true (by first | (with_reducible assumption) | assumption)
      obtain ⟨ad492, e492, hx492_0⟩ := Kd.at_int HR1.out x5_1 p492 q492
      cases e492
      replace p492 := eq_true p492
      replace q492 := eq_true q492
      go_wp2
      repeat (go_quiet (fail); try go_wp2)
      go_roundg k1
      case measure => have := HK1.out; omega
      case rel => exact ⟨(wrap64 (x5_1 + 1)), (by first | rfl | (simp; done) | (simp [*]; done)), H', ⟨by have := HK1.out; omega⟩, by repeat (first | exact Drawn0.refl _ | apply Drawn0.step)⟩
     ·rw [if_neg c7] at H
      have c7b0 : ((rd l0 x5_1) == (rd l1 x5_1)) = false := beq_eq_false_iff_ne.mpr c7
      have c7b1 : ((rd l0 x5_1) != (rd l1 x5_1)) = true := bne_iff_ne.mpr c7
      obtain rfl := Option.some.inj H
      have p491 : 0 ≤ (x5_1 : Int) := of_decide_eq_true (by first | (with_reducible assumption) | assumption)
      have q491 : x5_1 < (l0.length : Int) := of_decide_eq_true (by first | (with_reducible assumption) | assumption)
      obtain ⟨ad491, e491, hx491_0⟩ := Kd.at_int HR0.out x5_1 p491 q491
      cases e491
      replace p491 := eq_true p491
      replace q491 := eq_true q491
      have p492 : 0 ≤ (x5_1 : Int) := of_decide_eq_true (by first | (with_reducible assumption) | assumption)
      have q492 : x5_1 < (l1.length : Int) := of_decide_eq_true (by first | (with_reducible assumption) | assumption)
      obtain ⟨ad492, e492, hx492_0⟩ := Kd.at_int HR1.out x5_1 p492 q492
      cases e492
      replace p492 := eq_true p492
      replace q492 := eq_true q492
      go_wp2
      repeat (go_quiet (fail); try go_wp2)
      go_ret
      exact ⟨by first | rfl | (simp; done) | (simp [*]; done), by repeat (first | exact Drawn0.refl _ | apply Drawn0.step)⟩
    ·rw [if_neg c4] at H
     have c4b0 : decide (x5_1 < (l0.length : Int)) = false := decide_eq_false c4
     clear c4
     obtain rfl := Option.some.inj H
     go_wp2
     repeat (go_quiet (fail); try go_wp2)
     go_ret
     exact ⟨by first | rfl | (simp; done) | (simp [*]; done), by repeat (first | exact Drawn0.refl _ | apply Drawn0.step)⟩
 ·rw [if_neg c3] at H
  have c3b0 : ((l0.length : Int) == (l1.length : Int)) = false := beq_eq_false_iff_ne.mpr c3
  have c3b1 : ((l0.length : Int) != (l1.length : Int)) = true := bne_iff_ne.mpr c3
  have c3b2 : (l0.length == l1.length) = false := by first | simpa using c3 | (simp at c3 ⊢; omega)
  obtain rfl := Option.some.inj H
  go_enter Try.func107, Try.ntmps107
  go_wp2
  repeat (go_quiet (fail); try go_wp2)
  go_ret
  exact ⟨by first | rfl | (simp; done) | (simp [*]; done), by repeat (first | exact Drawn0.refl _ | apply Drawn0.step)⟩
def cutplaneref02_Same.f (k : Nat) (a0_0 : Bool) (l0_1 : List Int) (a0_2 : Int) (a1_0 : Bool) (l1_1 : List Int) (a1_2 : Int) : Option (Bool) := if (a0_0 == a1_0) = true then (if a0_2 = a1_2 then ((cutplaneref01_Same.f k l0_1 l1_1).bind fun t495 => (some t495)) else (some false)) else (some false)
theorem cutplaneref02_Same.mono : ∀ a0 a1 a2 a3 a4 a5 k, LeO (cutplaneref02_Same.f k a0 a1 a2 a3 a4 a5) (cutplaneref02_Same.f (k + 1) a0 a1 a2 a3 a4 a5) := by
 intro a0 a1 a2 a3 a4 a5 k
 unfold cutplaneref02_Same.f
 repeat' first
   | (with_reducible exact cutplaneref01_Same.mono _ _ _)
   | (with_reducible exact LeO.refl _)
   | (with_reducible exact LeO.none _)
   | (with_reducible refine LeO.ite ?_ ?_)
   | (with_reducible refine LeO.bind ?_ (fun _ => ?_))
   | exact cutplaneref01_Same.mono _ _ _
   | exact LeO.none _
   | refine LeO.ite ?_ ?_
   | refine LeO.bind ?_ (fun _ => ?_)
theorem cutplaneref02_Same.calls (k : Nat) (a0_0 : Bool) (A0_1 : Option Addr) (c0_1 : Nat) (l0_1 : List Int) (a0_2 : Int) (a1_0 : Bool) (A1_1 : Option Addr) (c1_1 : Nat) (l1_1 : List Int) (a1_2 : Int) (r : Bool) (w : World) (hr0_1 : Kd.C (Kd.int .u32) w A0_1 l0_1.length l0_1) (hc0_1 : l0_1.length ≤ c0_1) (hr1_1 : Kd.C (Kd.int .u32) w A1_1 l1_1.length l1_1) (hc1_1 : l1_1.length ≤ c1_1) (h : cutplaneref02_Same.f k a0_0 l0_1 a0_2 a1_0 l1_1 a1_2 = some r) :
  Calls Try.prog 92 #[.agg #[.bool a0_0, .slice A0_1 l0_1.length c0_1, .int .i64 a0_2], .agg #[.bool a1_0, .slice A1_1 l1_1.length c1_1, .int .i64 a1_2]] w fun e w' => e = .returned (.bool r) ∧ Below w.heap.size w w' := by
 have hu69 := Try.underlying69
 have HR0_1 := A0_ hr0_1
 have HC0_1 := A0_ hc0_1
 clear hr0_1 hc0_1
 have HR1_1 := A0_ hr1_1
 have HC1_1 := A0_ hc1_1
 clear hr1_1 hc1_1
 have HB := A0_ (Below.refl w.heap.size w)
 have H := h
 clear h
 unfold cutplaneref02_Same.f at H
 by_cases c3 : (a0_0 == a1_0) = true
 ·rw [if_pos c3] at H
  have c3b0 : (a0_0 == a1_0) = true := c3
  (try (have c3b1 : decide (a0_0 = a1_0) = true := by simpa using c3))
  (try (have c3b2 : (a0_0 == a1_0) = true := by simpa using c3))
  clear c3
  by_cases c4 : a0_2 = a1_2
  ·rw [if_pos c4] at H
   have c4b0 : (a0_2 == a1_2) = true := beq_iff_eq.mpr c4
   have c4b1 : (a0_2 != a1_2) = false := bne_eq_false_iff_eq.mpr c4
   clear c4
   obtain ⟨t495, A5, H⟩ := bs_ H
   try dsimp -simprocs only at H
   obtain rfl := Option.some.inj H
   go_enter Try.func92, Try.ntmps92
   go_wp2_with (first | ((with_reducible refine gate_dst (N := 2) rfl ?_); refine box_event ?hg (N := 2) ?hd (cs := #[.bool a0_0, .slice A0_1 l0_1.length c0_1, .int .i64 a0_2]) (t := 69) ?hr ?_; (case hd => rfl); (case hg => rfl); (case hr => first | (go_simp; done) | (go_simp; rfl)); intro gb493 hg w6 hbox hb; have BK493 := A0_ (hbox); have GW493 := A0_ ((by rw [hg]; exact (below_size (qm_ HB.out)) : w.heap.size ≤ gb493)); have GE493 := GW493; replace HB := hs_ hb; clear hb hbox hg) | ((with_reducible refine gate_dst (N := 3) rfl ?_); refine box_event ?hg (N := 3) ?hd (cs := #[.bool a1_0, .slice A1_1 l1_1.length c1_1, .int .i64 a1_2]) (t := 69) ?hr ?_; (case hd => rfl); (case hg => rfl); (case hr => first | (go_simp; done) | (go_simp; rfl)); intro gb494 hg w7 hbox hb; have BK494 := A0_ (hbox); have GW494 := A0_ ((by rw [hg]; exact (below_size qz_) : w.heap.size ≤ gb494)); have GE494 := GW494; replace HB := hs_ hb; have NB493_494 := nl_ hg BK493; have NB494_493 := ng_ hg BK493; replace BK493 := bb_ BK493 hb; clear hb hbox hg; have hnb8 := NB493_494.out; have hnc8 := NB494_493.out; have hcz9 := bc3_ BK493.out; have hfz9 := bf3_ BK493.out; have hcz10 := bc3_ BK494.out; have hfz10 := bf3_ BK494.out) | (go_at_call 107; (with_reducible refine (cutplaneref01_Same.calls k _ _ l0_1 _ _ l1_1 t495 _ ?side1 ?side2 ?side3 ?side4 A5.out).mono ?_); (case side1 => repeat (first | exact (Kd.C_below HR0_1.out HB.out) | (with_reducible refine Kd.C_alloc ?_ _) | (with_reducible refine Kd.C_drewN ?_ _) | (with_reducible refine Kd.C_drew ?_))); (case side2 => exact HC0_1.out); (case side3 => repeat (first | exact (Kd.C_below HR1_1.out HB.out) | (with_reducible refine Kd.C_alloc ?_ _) | (with_reducible refine Kd.C_drewN ?_ _) | (with_reducible refine Kd.C_drew ?_))); (case side4 => exact HC1_1.out); rintro e w' ⟨rfl, ⟨nd, rfl⟩⟩))
   go_ret
   exact ⟨by first | rfl | (simp [errW_none, errW_some] <;> rfl) | (simp [*, errW_none, errW_some] <;> rfl), qz_⟩
  ·rw [if_neg c4] at H
   have c4b0 : (a0_2 == a1_2) = false := beq_eq_false_iff_ne.mpr c4
   have c4b1 : (a0_2 != a1_2) = true := bne_iff_ne.mpr c4
   obtain rfl := Option.some.inj H
   go_enter Try.func92, Try.ntmps92
   go_wp2_with (first | ((with_reducible refine gate_dst (N := 2) rfl ?_); refine box_event ?hg (N := 2) ?hd (cs := #[.bool a0_0, .slice A0_1 l0_1.length c0_1, .int .i64 a0_2]) (t := 69) ?hr ?_; (case hd => rfl); (case hg => rfl); (case hr => first | (go_simp; done) | (go_simp; rfl)); intro gb493 hg w11 hbox hb; have BK493 := A0_ (hbox); have GW493 := A0_ ((by rw [hg]; exact (below_size (qm_ HB.out)) : w.heap.size ≤ gb493)); have GE493 := GW493; replace HB := hs_ hb; clear hb hbox hg) | ((with_reducible refine gate_dst (N := 3) rfl ?_); refine box_event ?hg (N := 3) ?hd (cs := #[.bool a1_0, .slice A1_1 l1_1.length c1_1, .int .i64 a1_2]) (t := 69) ?hr ?_; (case hd => rfl); (case hg => rfl); (case hr => first | (go_simp; done) | (go_simp; rfl)); intro gb494 hg w12 hbox hb; have BK494 := A0_ (hbox); have GW494 := A0_ ((by rw [hg]; exact (below_size qz_) : w.heap.size ≤ gb494)); have GE494 := GW494; replace HB := hs_ hb; have NB493_494 := nl_ hg BK493; have NB494_493 := ng_ hg BK493; replace BK493 := bb_ BK493 hb; clear hb hbox hg; have hnb13 := NB493_494.out; have hnc13 := NB494_493.out; have hcz14 := bc3_ BK493.out; have hfz14 := bf3_ BK493.out; have hcz15 := bc3_ BK494.out; have hfz15 := bf3_ BK494.out))
   go_ret
   exact ⟨by first | rfl | (simp [errW_none, errW_some] <;> rfl) | (simp [*, errW_none, errW_some] <;> rfl), qz_⟩
 ·rw [if_neg c3] at H
  have c3b0 : (a0_0 == a1_0) = false := by simpa using c3
  (try (have c3b1 : decide (a0_0 = a1_0) = false := by simpa using c3))
  (try (have c3b2 : (a0_0 == a1_0) = false := by simpa using c3))
  (try (have c3b3 : ¬ (a0_0 = a1_0) := by simpa using c3))
  clear c3
  obtain rfl := Option.some.inj H
  go_enter Try.func92, Try.ntmps92
  go_wp2_with (first | ((with_reducible refine gate_dst (N := 2) rfl ?_); refine box_event ?hg (N := 2) ?hd (cs := #[.bool a0_0, .slice A0_1 l0_1.length c0_1, .int .i64 a0_2]) (t := 69) ?hr ?_; (case hd => rfl); (case hg => rfl); (case hr => first | (go_simp; done) | (go_simp; rfl)); intro gb493 hg w16 hbox hb; have BK493 := A0_ (hbox); have GW493 := A0_ ((by rw [hg]; exact (below_size (qm_ HB.out)) : w.heap.size ≤ gb493)); have GE493 := GW493; replace HB := hs_ hb; clear hb hbox hg) | ((with_reducible refine gate_dst (N := 3) rfl ?_); refine box_event ?hg (N := 3) ?hd (cs := #[.bool a1_0, .slice A1_1 l1_1.length c1_1, .int .i64 a1_2]) (t := 69) ?hr ?_; (case hd => rfl); (case hg => rfl); (case hr => first | (go_simp; done) | (go_simp; rfl)); intro gb494 hg w17 hbox hb; have BK494 := A0_ (hbox); have GW494 := A0_ ((by rw [hg]; exact (below_size qz_) : w.heap.size ≤ gb494)); have GE494 := GW494; replace HB := hs_ hb; have NB493_494 := nl_ hg BK493; have NB494_493 := ng_ hg BK493; replace BK493 := bb_ BK493 hb; clear hb hbox hg; have hnb18 := NB493_494.out; have hnc18 := NB494_493.out; have hcz19 := bc3_ BK493.out; have hfz19 := bf3_ BK493.out; have hcz20 := bc3_ BK494.out; have hfz20 := bf3_ BK494.out))
  go_ret
  exact ⟨by first | rfl | (simp [errW_none, errW_some] <;> rfl) | (simp [*, errW_none, errW_some] <;> rfl), qz_⟩
def cutplaneref02_Shift.f (a0_0 : Bool) (l0_1 : List Int) (a0_2 : Int) (a1 : Int) : Option (Bool × List Int × Int) := if (l0_1.length : Int) > 0 then (some (a0_0, l0_1, wrap64 (a0_2 + a1))) else (some (a0_0, l0_1, a0_2))
theorem cutplaneref02_Shift.calls (a0_0 : Bool) (P0_1_ : Nat → Prop) (A0_1 : Option Addr) (c0_1 : Nat) (l0_1 : List Int) (a0_2 : Int) (a1 : Int) (r1 : Bool) (r2 : List Int) (r3 : Int) (w : World) (hs0_1 : Kd.V (Kd.int .u32) 66 w w.heap.size (fun k_ => P0_1_ k_) (.slice A0_1 l0_1.length c0_1) l0_1) (h : cutplaneref02_Shift.f a0_0 l0_1 a0_2 a1 = some (r1, r2, r3)) :
  Calls Try.prog 101 #[.agg #[.bool a0_0, .slice A0_1 l0_1.length c0_1, .int .i64 a0_2], .int .i64 a1] w fun e w' => ∃ v1_ : Value, e = .returned (.agg #[.bool r1, v1_, .int .i64 r3]) ∧ Kd.V (Kd.int .u32) 66 w' w.heap.size (fun k_ => (P0_1_ k_ ∨ w.heap.size ≤ k_)) v1_ r2 ∧ Below w.heap.size w w' := by
 have hu69 := Try.underlying69
 have HO0_1 := A0_ (show Kd.V (Kd.int .u32) 66 w w.heap.size (fun k_ => (P0_1_ k_ ∨ w.heap.size ≤ k_)) (.slice A0_1 l0_1.length c0_1) l0_1 from Kd.V_mono hs0_1 (fun k_ hk => .inl hk))
 have HB := A0_ (Below.refl w.heap.size w)
 have H := h
 clear h
 unfold cutplaneref02_Shift.f at H
 by_cases c3 : (l0_1.length : Int) > 0
 ·rw [if_pos c3] at H
  have c3b0 : decide (0 < (l0_1.length : Int)) = true := decide_eq_true c3
  have c3b1 : decide (0 < l0_1.length) = true := decide_eq_true (by omega)
  clear c3
  simp only [Option.some.injEq, Prod.mk.injEq] at H
  obtain ⟨rfl, rfl, rfl⟩ := H
  go_enter Try.func101, Try.ntmps101
  go_wp2_with (first | ((with_reducible refine gate_dst (N := 2) rfl ?_); refine box_event ?hg (N := 2) ?hd (cs := #[.bool a0_0, .slice A0_1 l0_1.length c0_1, .int .i64 a0_2]) (t := 69) ?hr ?_; (case hd => rfl); (case hg => rfl); (case hr => first | (go_simp; done) | (go_simp; rfl)); intro gb496 hg w4 hbox hb; replace HO0_1 := A0_ (Kd.V_below (Kd.V_elderB (by exact vm_ HO0_1.out) gb496 (Nat.le_of_eq hg.symm)) hb); have BK496 := A0_ (hbox); have GW496 := A0_ ((by rw [hg]; exact (below_size (qm_ HB.out)) : w.heap.size ≤ gb496)); have GE496 := GW496; replace HB := hs_ hb; clear hb hbox hg) | ((with_reducible refine gate_dst (N := 4) rfl ?_); refine box_event ?hg (N := 4) ?hd (cs := #[.bool false, .slice none 0 0, .int .i64 0]) (t := 69) ?hr ?_; (case hd => rfl); (case hg => rfl); (case hr => first | (go_simp; done) | (go_simp; rfl)); intro gb497 hg w5 hbox hb; replace HO0_1 := A0_ (Kd.V_below (Kd.V_elderB (by exact vm_ HO0_1.out) gb497 (Nat.le_of_eq hg.symm)) hb); have BK497 := A0_ (hbox); have GW497 := A0_ ((by rw [hg]; exact (below_size qz_) : w.heap.size ≤ gb497)); have GE497 := GW497; replace HB := hs_ hb; have NB496_497 := nl_ hg BK496; have NB497_496 := ng_ hg BK496; replace BK496 := bb_ BK496 hb; clear hb hbox hg; have hnb6 := NB496_497.out; have hnc6 := NB497_496.out; have hcz7 := bc3_ BK496.out; have hfz7 := bf3_ BK496.out; have hcz8 := bc3_ BK497.out; have hfz8 := bf3_ BK497.out))
  refine bodyPost_ret (results_cell_row rfl _ _ gb497 69 #[.bool a0_0, .slice A0_1 l0_1.length c0_1, .int .i64 (wrap64 (a0_2 + a1))] (0, 0) _ rfl (by (with_reducible repeat first | apply bN_ | apply bD_ | apply bA_); refine blk_put (cs := #[.bool a0_0, .slice A0_1 l0_1.length c0_1, .int .i64 0]) ?_ 2 _ rfl; refine blk_put (cs := #[.bool a0_0, .slice none 0 0, .int .i64 0]) ?_ 1 _ rfl; refine blk_put (cs := #[.bool false, .slice none 0 0, .int .i64 0]) ?_ 0 _ rfl; refine blk_far ?_ NB497_496.out _; exact bm_ BK497.out) Try.underlying69 rfl (by kernel_rfl)) rfl ?_
  exact ⟨_, by first | rfl | (simp [errW_none, errW_some] <;> rfl) | (simp [*, errW_none, errW_some] <;> rfl), by (with_reducible repeat (first | apply Kd.V_alloc | apply Kd.V_drewN | apply Kd.V_drew)); exact Kd.V_mono (Kd.V_far (p := ⟨gb497, 2, none⟩) (Kd.V_far (p := ⟨gb497, 1, none⟩) (Kd.V_far (p := ⟨gb497, 0, none⟩) (Kd.V_far (p := ⟨gb496, 2, none⟩) (Kd.V_mono (Kd.V_mono HO0_1.out (fun k_ hk => (⟨hk, hk.1.2⟩ : _ ∧ k_ ≠ gb496))) (fun k_ hk => (⟨hk, hk.1.2⟩ : _ ∧ k_ ≠ gb497))) (fun _ hk => hk.1.2) (.int .i64 (wrap64 (a0_2 + a1)))) (fun _ hk => hk.2) (.bool a0_0)) (fun _ hk => hk.2) (.slice A0_1 l0_1.length c0_1)) (fun _ hk => hk.2) (.int .i64 (wrap64 (a0_2 + a1)))) (fun _ hk => hk.1.1.1.1), qz_⟩
 ·rw [if_neg c3] at H
  have c3b0 : decide (0 < (l0_1.length : Int)) = false := decide_eq_false c3
  have c3b1 : decide (0 < l0_1.length) = false := decide_eq_false (by omega)
  clear c3
  simp only [Option.some.injEq, Prod.mk.injEq] at H
  obtain ⟨rfl, rfl, rfl⟩ := H
  go_enter Try.func101, Try.ntmps101
  go_wp2_with (first | ((with_reducible refine gate_dst (N := 2) rfl ?_); refine box_event ?hg (N := 2) ?hd (cs := #[.bool a0_0, .slice A0_1 l0_1.length c0_1, .int .i64 a0_2]) (t := 69) ?hr ?_; (case hd => rfl); (case hg => rfl); (case hr => first | (go_simp; done) | (go_simp; rfl)); intro gb496 hg w9 hbox hb; replace HO0_1 := A0_ (Kd.V_below (Kd.V_elderB (by exact vm_ HO0_1.out) gb496 (Nat.le_of_eq hg.symm)) hb); have BK496 := A0_ (hbox); have GW496 := A0_ ((by rw [hg]; exact (below_size (qm_ HB.out)) : w.heap.size ≤ gb496)); have GE496 := GW496; replace HB := hs_ hb; clear hb hbox hg) | ((with_reducible refine gate_dst (N := 4) rfl ?_); refine box_event ?hg (N := 4) ?hd (cs := #[.bool false, .slice none 0 0, .int .i64 0]) (t := 69) ?hr ?_; (case hd => rfl); (case hg => rfl); (case hr => first | (go_simp; done) | (go_simp; rfl)); intro gb497 hg w10 hbox hb; replace HO0_1 := A0_ (Kd.V_below (Kd.V_elderB (by exact vm_ HO0_1.out) gb497 (Nat.le_of_eq hg.symm)) hb); have BK497 := A0_ (hbox); have GW497 := A0_ ((by rw [hg]; exact (below_size qz_) : w.heap.size ≤ gb497)); have GE497 := GW497; replace HB := hs_ hb; have NB496_497 := nl_ hg BK496; have NB497_496 := ng_ hg BK496; replace BK496 := bb_ BK496 hb; clear hb hbox hg; have hnb11 := NB496_497.out; have hnc11 := NB497_496.out; have hcz12 := bc3_ BK496.out; have hfz12 := bf3_ BK496.out; have hcz13 := bc3_ BK497.out; have hfz13 := bf3_ BK497.out))
  refine bodyPost_ret (results_cell_row rfl _ _ gb497 69 #[.bool a0_0, .slice A0_1 l0_1.length c0_1, .int .i64 a0_2] (0, 0) _ rfl (by (with_reducible repeat first | apply bN_ | apply bD_ | apply bA_); refine blk_put (cs := #[.bool a0_0, .slice A0_1 l0_1.length c0_1, .int .i64 0]) ?_ 2 _ rfl; refine blk_put (cs := #[.bool a0_0, .slice none 0 0, .int .i64 0]) ?_ 1 _ rfl; refine blk_put (cs := #[.bool false, .slice none 0 0, .int .i64 0]) ?_ 0 _ rfl; exact bm_ BK497.out) Try.underlying69 rfl (by kernel_rfl)) rfl ?_
  exact ⟨_, by first | rfl | (simp [errW_none, errW_some] <;> rfl) | (simp [*, errW_none, errW_some] <;> rfl), by (with_reducible repeat (first | apply Kd.V_alloc | apply Kd.V_drewN | apply Kd.V_drew)); exact Kd.V_mono (Kd.V_far (p := ⟨gb497, 2, none⟩) (Kd.V_far (p := ⟨gb497, 1, none⟩) (Kd.V_far (p := ⟨gb497, 0, none⟩) (Kd.V_mono HO0_1.out (fun k_ hk => (⟨hk, hk.2⟩ : _ ∧ k_ ≠ gb497))) (fun _ hk => hk.2) (.bool a0_0)) (fun _ hk => hk.2) (.slice A0_1 l0_1.length c0_1)) (fun _ hk => hk.2) (.int .i64 a0_2)) (fun _ hk => hk.1.1.1), qz_⟩
def cutplaneref02_Floor.f (a0_0 : Bool) (l0_1 : List Int) (a0_2 : Int) : Option (Bool × List Int × Int) := if a0_2 ≥ 0 then (some (a0_0, l0_1, a0_2)) else (none)
theorem cutplaneref02_Floor.calls (a0_0 : Bool) (P0_1_ : Nat → Prop) (A0_1 : Option Addr) (c0_1 : Nat) (l0_1 : List Int) (a0_2 : Int) (r1 : Bool) (r2 : List Int) (r3 : Int) (w : World) (hs0_1 : Kd.V (Kd.int .u32) 66 w w.heap.size (fun k_ => P0_1_ k_) (.slice A0_1 l0_1.length c0_1) l0_1) (h : cutplaneref02_Floor.f a0_0 l0_1 a0_2 = some (r1, r2, r3)) :
  Calls Try.prog 102 #[.agg #[.bool a0_0, .slice A0_1 l0_1.length c0_1, .int .i64 a0_2]] w fun e w' => ∃ v1_ : Value, e = .returned (.agg #[.bool r1, v1_, .int .i64 r3]) ∧ Kd.V (Kd.int .u32) 66 w' w.heap.size (fun k_ => (P0_1_ k_ ∨ w.heap.size ≤ k_)) v1_ r2 ∧ Below w.heap.size w w' := by
 have hu69 := Try.underlying69
 have HO0_1 := A0_ (show Kd.V (Kd.int .u32) 66 w w.heap.size (fun k_ => (P0_1_ k_ ∨ w.heap.size ≤ k_)) (.slice A0_1 l0_1.length c0_1) l0_1 from Kd.V_mono hs0_1 (fun k_ hk => .inl hk))
 have HB := A0_ (Below.refl w.heap.size w)
 have H := h
 clear h
 unfold cutplaneref02_Floor.f at H
 obtain ⟨c2, H⟩ := ic_ H
 have c2b0 : decide (0 ≤ a0_2) = true := decide_eq_true c2
 clear c2
 simp only [Option.some.injEq, Prod.mk.injEq] at H
 obtain ⟨rfl, rfl, rfl⟩ := H
 go_enter Try.func102, Try.ntmps102
 go_wp2_with (first | ((with_reducible refine gate_dst (N := 1) rfl ?_); refine box_event ?hg (N := 1) ?hd (cs := #[.bool a0_0, .slice A0_1 l0_1.length c0_1, .int .i64 a0_2]) (t := 69) ?hr ?_; (case hd => rfl); (case hg => rfl); (case hr => first | (go_simp; done) | (go_simp; rfl)); intro gb498 hg w3 hbox hb; replace HO0_1 := A0_ (Kd.V_below (Kd.V_elderB (by exact vm_ HO0_1.out) gb498 (Nat.le_of_eq hg.symm)) hb); have BK498 := A0_ (hbox); have GW498 := A0_ ((by rw [hg]; exact (below_size (qm_ HB.out)) : w.heap.size ≤ gb498)); have GE498 := GW498; replace HB := hs_ hb; clear hb hbox hg) | ((with_reducible refine gate_dst (N := 2) rfl ?_); refine box_event ?hg (N := 2) ?hd (cs := #[.bool false, .slice none 0 0, .int .i64 0]) (t := 69) ?hr ?_; (case hd => rfl); (case hg => rfl); (case hr => first | (go_simp; done) | (go_simp; rfl)); intro gb499 hg w4 hbox hb; replace HO0_1 := A0_ (Kd.V_below (Kd.V_elderB (by exact vm_ HO0_1.out) gb499 (Nat.le_of_eq hg.symm)) hb); have BK499 := A0_ (hbox); have GW499 := A0_ ((by rw [hg]; exact (below_size qz_) : w.heap.size ≤ gb499)); have GE499 := GW499; replace HB := hs_ hb; have NB498_499 := nl_ hg BK498; have NB499_498 := ng_ hg BK498; replace BK498 := bb_ BK498 hb; clear hb hbox hg; have hnb5 := NB498_499.out; have hnc5 := NB499_498.out; have hcz6 := bc3_ BK498.out; have hfz6 := bf3_ BK498.out; have hcz7 := bc3_ BK499.out; have hfz7 := bf3_ BK499.out))
 refine bodyPost_ret (results_cell_row rfl _ _ gb499 69 #[.bool a0_0, .slice A0_1 l0_1.length c0_1, .int .i64 a0_2] (0, 0) _ rfl (by (with_reducible repeat first | apply bN_ | apply bD_ | apply bA_); refine blk_put (cs := #[.bool a0_0, .slice A0_1 l0_1.length c0_1, .int .i64 0]) ?_ 2 _ rfl; refine blk_put (cs := #[.bool a0_0, .slice none 0 0, .int .i64 0]) ?_ 1 _ rfl; refine blk_put (cs := #[.bool false, .slice none 0 0, .int .i64 0]) ?_ 0 _ rfl; exact bm_ BK499.out) Try.underlying69 rfl (by kernel_rfl)) rfl ?_
 exact ⟨_, by first | rfl | (simp [errW_none, errW_some] <;> rfl) | (simp [*, errW_none, errW_some] <;> rfl), by (with_reducible repeat (first | apply Kd.V_alloc | apply Kd.V_drewN | apply Kd.V_drew)); exact Kd.V_mono (Kd.V_far (p := ⟨gb499, 2, none⟩) (Kd.V_far (p := ⟨gb499, 1, none⟩) (Kd.V_far (p := ⟨gb499, 0, none⟩) (Kd.V_mono HO0_1.out (fun k_ hk => (⟨hk, hk.2⟩ : _ ∧ k_ ≠ gb499))) (fun _ hk => hk.2) (.bool a0_0)) (fun _ hk => hk.2) (.slice A0_1 l0_1.length c0_1)) (fun _ hk => hk.2) (.int .i64 a0_2)) (fun _ hk => hk.1.1.1), qz_⟩
end Go.Proofs.Ytlgapmhjaaajfaa.PA
end

section
namespace Go.Proofs.Ytlgapmhjaaajfaa.PA
open Go.RowKit Go.Proofs.YtlgapmhjaaajfaaW.PrintWords Go.Proofs.YtlgapmhjaaajfaaW.PrintLast Go.Proofs.YtlgapmhjaaajfaaW.PrintMore
attribute [local go_sem] max2_int min2_int max_two min_two max_three min_three max_four min_four   -- for this text's walks alone
set_option linter.unusedVariables false
set_option linter.unusedSimpArgs false
def cutplaneref04_Taken.f (k : Nat) (a0 : Int) (a1_0 : Bool) (l1_1 : List Int) (a1_2 : Int) (a2 : Int) : Option (Bool × List Int × Int) := (cutplaneref02_Shift.f a1_0 l1_1 a1_2 (wrap64 (-a2))).bind fun bt542 => ((cutplaneref02_Floor.f bt542.1 bt542.2.1 bt542.2.2).bind fun bt547 => ((cutplaneref02_Shift.f bt547.1 bt547.2.1 bt547.2.2 a2).bind fun bt552 => ((cutplaneref02_Same.f k bt552.1 bt552.2.1 bt552.2.2 a1_0 l1_1 a1_2).bind fun t558 => (if t558 = true then (some (a1_0, l1_1, a1_2)) else (none)))))
theorem cutplaneref04_Taken.mono : ∀ a0 a1 a2 a3 a4 k, LeO (cutplaneref04_Taken.f k a0 a1 a2 a3 a4) (cutplaneref04_Taken.f (k + 1) a0 a1 a2 a3 a4) := by
 intro a0 a1 a2 a3 a4 k
 unfold cutplaneref04_Taken.f
 repeat' first
   | (with_reducible exact cutplaneref02_Same.mono _ _ _ _ _ _ _)
   | (with_reducible exact LeO.refl _)
   | (with_reducible exact LeO.none _)
   | (with_reducible refine LeO.ite ?_ ?_)
   | (with_reducible refine LeO.bind ?_ (fun _ => ?_))
   | exact cutplaneref02_Same.mono _ _ _ _ _ _ _
   | exact LeO.none _
   | refine LeO.ite ?_ ?_
   | refine LeO.bind ?_ (fun _ => ?_)
theorem cutplaneref04_Taken.calls (k : Nat) (a0 : Int) (a1_0 : Bool) (P1_1_ : Nat → Prop) (A1_1 : Option Addr) (c1_1 : Nat) (l1_1 : List Int) (a1_2 : Int) (a2 : Int) (r1 : Bool) (r2 : List Int) (r3 : Int) (w : World) (hs1_1 : Kd.V (Kd.int .u32) 66 w w.heap.size (fun k_ => P1_1_ k_) (.slice A1_1 l1_1.length c1_1) l1_1) (h : cutplaneref04_Taken.f k a0 a1_0 l1_1 a1_2 a2 = some (r1, r2, r3)) :
  Calls Try.prog 87 #[.int .u8 a0, .agg #[.bool a1_0, .slice A1_1 l1_1.length c1_1, .int .i64 a1_2], .int .i64 a2] w fun e w' => ∃ v1_ : Value, e = .returned (.agg #[.bool r1, v1_, .int .i64 r3]) ∧ Kd.V (Kd.int .u32) 66 w' w.heap.size (fun k_ => (P1_1_ k_ ∨ w.heap.size ≤ k_)) v1_ r2 ∧ Below w.heap.size w w' := by
 have hu69 := Try.underlying69
 have HO1_1 := A0_ (show Kd.V (Kd.int .u32) 66 w w.heap.size (fun k_ => (P1_1_ k_ ∨ w.heap.size ≤ k_)) (.slice A1_1 l1_1.length c1_1) l1_1 from Kd.V_mono hs1_1 (fun k_ hk => .inl hk))
 have HB := A0_ (Below.refl w.heap.size w)
 have H := h
 clear h
 unfold cutplaneref04_Taken.f at H
 obtain ⟨⟨t542, t543, t546⟩, A4, H⟩ := bs_ H
 try dsimp -simprocs only at H
 obtain ⟨⟨t547, t548, t551⟩, A5, H⟩ := bs_ H
 try dsimp -simprocs only at H
 obtain ⟨⟨t552, t553, t556⟩, A6, H⟩ := bs_ H
 try dsimp -simprocs only at H
 obtain ⟨t558, A7, H⟩ := bs_ H
 try dsimp -simprocs only at H
 by_cases c8 : t558 = true
 ·subst c8
  rw [if_pos rfl] at H
  simp only [Option.some.injEq, Prod.mk.injEq] at H
  obtain ⟨rfl, rfl, rfl⟩ := H
  go_enter Try.func87, Try.ntmps87
  go_wp2_with (first | ((with_reducible refine gate_dst (N := 4) rfl ?_); refine box_event ?hg (N := 4) ?hd (cs := #[.bool a1_0, .slice A1_1 l1_1.length c1_1, .int .i64 a1_2]) (t := 69) ?hr ?_; (case hd => rfl); (case hg => rfl); (case hr => first | (go_simp; done) | (go_simp; rfl)); intro gb540 hg w9 hbox hb; replace HO1_1 := A0_ (Kd.V_below (Kd.V_elderB (by exact vm_ HO1_1.out) gb540 (Nat.le_of_eq hg.symm)) hb); have BK540 := A0_ (hbox); have GW540 := A0_ ((by rw [hg]; exact (below_size (qm_ HB.out)) : w.heap.size ≤ gb540)); have GE540 := GW540; replace HB := hs_ hb; clear hb hbox hg) | ((with_reducible refine gate_dst (N := 6) rfl ?_); refine box_event ?hg (N := 6) ?hd (cs := #[.bool false, .slice none 0 0, .int .i64 0]) (t := 69) ?hr ?_; (case hd => rfl); (case hg => rfl); (case hr => first | (go_simp; done) | (go_simp; rfl)); intro gb541 hg w10 hbox hb; replace HO1_1 := A0_ (Kd.V_below (Kd.V_elderB (by exact vm_ HO1_1.out) gb541 (Nat.le_of_eq hg.symm)) hb); have BK541 := A0_ (hbox); have GW541 := A0_ ((by rw [hg]; exact (below_size qz_) : w.heap.size ≤ gb541)); have GE541 := GW541; replace HB := hs_ hb; have NB540_541 := nl_ hg BK540; have NB541_540 := ng_ hg BK540; replace BK540 := bb_ BK540 hb; clear hb hbox hg; have hnb11 := NB540_541.out; have hnc11 := NB541_540.out; have hcz12 := bc3_ BK540.out; have hfz12 := bf3_ BK540.out) | ((with_reducible refine gate_callee (f := 101) rfl ?_); refine goesL_ (some 16) rfl rfl Try.func101 (by kernel_rfl) rfl #[.agg #[.bool a1_0, .slice A1_1 l1_1.length c1_1, .int .i64 a1_2], .int .i64 (wrap64 (-a2))] rfl (am_ rfl) ?_; (with_reducible refine (cutplaneref02_Shift.calls a1_0 (fun k_ => (((P1_1_ k_ ∨ w.heap.size ≤ k_) ∧ k_ ≠ gb540) ∧ k_ ≠ gb541)) _ _ l1_1 a1_2 (wrap64 (-a2)) t542 t543 t546 _ ?side1 A4.out).mono ?_); (case side1 => exact HO1_1.out); rintro e w13 ⟨v544, rfl, ho0, hb⟩; refine ⟨_, rfl, ?_⟩; replace HO1_1 := A0_ (Kd.V_below (by exact vm_ HO1_1.out) hb); have HO545 := A0_ (Kd.V_lower (Kd.V_mono (ok' := fun k_ => (P1_1_ k_ ∨ w.heap.size ≤ k_) ∧ k_ ≠ gb540 ∧ k_ ≠ gb541) ho0 (fun k_ hk_ => ⟨Or.elim hk_ (fun hs_ => hs_.1.1) (fun hn_ => (.inr (Nat.le_trans (below_size qz_) hn_))), Or.elim hk_ (fun hs_ => hs_.1.2) (fun hn_ => (Kd.freshB (bm_ BK540.out) k_ hn_)), Or.elim hk_ (fun hs_ => hs_.2) (fun hn_ => (Kd.freshB (bm_ BK541.out) k_ hn_))⟩)) (below_size qz_)); replace BK540 := bb_ BK540 hb; replace BK541 := bb_ BK541 hb; replace HB := hs_ hb; (try clear hb); (try clear ho0); obtain ⟨Ao14, co14, eo14⟩ := Kd.V_slice HO545.out; subst eo14) | ((with_reducible refine gate_callee (f := 102) rfl ?_); refine goesL_ (some 17) rfl rfl Try.func102 (by kernel_rfl) rfl #[.agg #[.bool t542, .slice Ao14 t543.length co14, .int .i64 t546]] rfl (am_ rfl) ?_; (with_reducible refine (cutplaneref02_Floor.calls t542 (fun k_ => ((P1_1_ k_ ∨ w.heap.size ≤ k_) ∧ (k_ ≠ gb540 ∧ k_ ≠ gb541))) _ _ t543 t546 t547 t548 t551 _ ?side1 A5.out).mono ?_); (case side1 => exact HO545.out); rintro e w15 ⟨v549, rfl, ho0, hb⟩; refine ⟨_, rfl, ?_⟩; replace HO1_1 := A0_ (Kd.V_below (by exact vm_ HO1_1.out) hb); replace HO545 := A0_ (Kd.V_below (by exact vm_ HO545.out) hb); have HO550 := A0_ (Kd.V_lower (Kd.V_mono (ok' := fun k_ => (P1_1_ k_ ∨ w.heap.size ≤ k_) ∧ k_ ≠ gb540 ∧ k_ ≠ gb541) ho0 (fun k_ hk_ => ⟨Or.elim hk_ (fun hs_ => hs_.1) (fun hn_ => (.inr (Nat.le_trans (below_size qz_) hn_))), Or.elim hk_ (fun hs_ => hs_.2.1) (fun hn_ => (Kd.freshB (bm_ BK540.out) k_ hn_)), Or.elim hk_ (fun hs_ => hs_.2.2) (fun hn_ => (Kd.freshB (bm_ BK541.out) k_ hn_))⟩)) (below_size qz_)); replace BK540 := bb_ BK540 hb; replace BK541 := bb_ BK541 hb; replace HB := hs_ hb; (try clear hb); (try clear ho0); obtain ⟨Ao16, co16, eo16⟩ := Kd.V_slice HO550.out; subst eo16) | ((with_reducible refine gate_callee (f := 101) rfl ?_); refine goesL_ (some 19) rfl rfl Try.func101 (by kernel_rfl) rfl #[.agg #[.bool t547, .slice Ao16 t548.length co16, .int .i64 t551], .int .i64 a2] rfl (am_ rfl) ?_; (with_reducible refine (cutplaneref02_Shift.calls t547 (fun k_ => ((P1_1_ k_ ∨ w.heap.size ≤ k_) ∧ (k_ ≠ gb540 ∧ k_ ≠ gb541))) _ _ t548 t551 a2 t552 t553 t556 _ ?side1 A6.out).mono ?_); (case side1 => exact HO550.out); rintro e w17 ⟨v554, rfl, ho0, hb⟩; refine ⟨_, rfl, ?_⟩; replace HO1_1 := A0_ (Kd.V_below (by exact vm_ HO1_1.out) hb); replace HO545 := A0_ (Kd.V_below (by exact vm_ HO545.out) hb); replace HO550 := A0_ (Kd.V_below (by exact vm_ HO550.out) hb); have HO555 := A0_ (Kd.V_lower (Kd.V_mono (ok' := fun k_ => (P1_1_ k_ ∨ w.heap.size ≤ k_) ∧ k_ ≠ gb540 ∧ k_ ≠ gb541) ho0 (fun k_ hk_ => ⟨Or.elim hk_ (fun hs_ => hs_.1) (fun hn_ => (.inr (Nat.le_trans (below_size qz_) hn_))), Or.elim hk_ (fun hs_ => hs_.2.1) (fun hn_ => (Kd.freshB (bm_ BK540.out) k_ hn_)), Or.elim hk_ (fun hs_ => hs_.2.2) (fun hn_ => (Kd.freshB (bm_ BK541.out) k_ hn_))⟩)) (below_size qz_)); replace BK540 := bb_ BK540 hb; replace BK541 := bb_ BK541 hb; replace HB := hs_ hb; (try clear hb); (try clear ho0)) | ((with_reducible refine gate_dst (N := 7) rfl ?_); refine box_event ?hg (N := 7) ?hd (cs := #[.bool false, .slice none 0 0, .int .i64 0]) (t := 69) ?hr ?_; (case hd => rfl); (case hg => rfl); (case hr => first | (go_simp; done) | (go_simp; rfl)); intro gb557 hg w18 hbox hb; replace HO1_1 := A0_ (Kd.V_below (Kd.V_elderB (by exact vm_ HO1_1.out) gb557 (Nat.le_of_eq hg.symm)) hb); replace HO545 := A0_ (Kd.V_below (Kd.V_elderB (by exact vm_ HO545.out) gb557 (Nat.le_of_eq hg.symm)) hb); replace HO550 := A0_ (Kd.V_below (Kd.V_elderB (by exact vm_ HO550.out) gb557 (Nat.le_of_eq hg.symm)) hb); replace HO555 := A0_ (Kd.V_below (Kd.V_elderB (by exact vm_ HO555.out) gb557 (Nat.le_of_eq hg.symm)) hb); have BK557 := A0_ (hbox); have GW557 := A0_ ((by rw [hg]; exact (below_size qz_) : w.heap.size ≤ gb557)); have GE557 := GW557; replace HB := hs_ hb; have NB540_557 := nl_ hg BK540; have NB557_540 := ng_ hg BK540; replace BK540 := bb_ BK540 hb; have NB541_557 := nl_ hg BK541; have NB557_541 := ng_ hg BK541; replace BK541 := bb_ BK541 hb; clear hb hbox hg; have hnb19 := NB557_540.out; have hnc19 := NB540_557.out; have hnb20 := NB557_541.out; have hnc20 := NB541_557.out; have hcz21 := bc3_ BK557.out; have hfz21 := bf3_ BK557.out; obtain ⟨Ao22, co22, eo22⟩ := Kd.V_slice HO555.out; subst eo22; have hcz23 := bc3_ BK540.out; have hfz23 := bf3_ BK540.out) | ((with_reducible refine gate_callee (f := 92) rfl ?_); refine goesL_ (some 22) rfl rfl Try.func92 (by kernel_rfl) rfl #[.agg #[.bool t552, .slice Ao22 t553.length co22, .int .i64 t556], .agg #[.bool a1_0, .slice A1_1 l1_1.length c1_1, .int .i64 a1_2]] rfl (am_ rfl) ?_; (with_reducible refine (cutplaneref02_Same.calls k t552 _ _ t553 t556 a1_0 _ _ l1_1 a1_2 true _ ?side1 ?side2 ?side3 ?side4 A7.out).mono ?_); (case side1 => refine (Kd.V_reads' (e := 66) (base := w.heap.size) (ok := fun k_ => (((P1_1_ k_ ∨ w.heap.size ≤ k_) ∧ (k_ ≠ gb540 ∧ k_ ≠ gb541)) ∧ k_ ≠ gb557)) (n := t553.length) (c := co22) ?_).2.2; exact (by (with_reducible repeat (first | apply Kd.V_alloc | apply Kd.V_drewN | apply Kd.V_drew)); exact (Kd.V_mono (Kd.V_far (p := ⟨gb557, 2, none⟩) (Kd.V_far (p := ⟨gb557, 1, none⟩) (Kd.V_far (p := ⟨gb557, 0, none⟩) (Kd.V_mono HO555.out (fun k_ hk => (⟨hk, hk.2⟩ : _ ∧ k_ ≠ gb557))) (fun _ hk => hk.2) (.bool t552)) (fun _ hk => hk.2) (.slice Ao22 t553.length co22)) (fun _ hk => hk.2) (.int .i64 t556)) (fun _ h_ => h_.1)))); (case side2 => exact (Kd.V_reads' HO555.out).2.1); (case side3 => refine (Kd.V_reads' (e := 66) (base := w.heap.size) (ok := fun k_ => ((((P1_1_ k_ ∨ w.heap.size ≤ k_) ∧ k_ ≠ gb540) ∧ k_ ≠ gb541) ∧ k_ ≠ gb557)) (n := l1_1.length) (c := c1_1) ?_).2.2; exact (by (with_reducible repeat (first | apply Kd.V_alloc | apply Kd.V_drewN | apply Kd.V_drew)); exact (Kd.V_mono (Kd.V_far (p := ⟨gb557, 2, none⟩) (Kd.V_far (p := ⟨gb557, 1, none⟩) (Kd.V_far (p := ⟨gb557, 0, none⟩) (Kd.V_mono HO1_1.out (fun k_ hk => (⟨hk, hk.2⟩ : _ ∧ k_ ≠ gb557))) (fun _ hk => hk.2) (.bool t552)) (fun _ hk => hk.2) (.slice Ao22 t553.length co22)) (fun _ hk => hk.2) (.int .i64 t556)) (fun _ h_ => h_.1)))); (case side4 => exact (Kd.V_reads' HO1_1.out).2.1); rintro e w24 ⟨rfl, hb⟩; refine ⟨_, rfl, ?_⟩; replace HO1_1 := A0_ (Kd.V_below (by (with_reducible repeat (first | apply Kd.V_alloc | apply Kd.V_drewN | apply Kd.V_drew)); exact (Kd.V_mono (Kd.V_far (p := ⟨gb557, 2, none⟩) (Kd.V_far (p := ⟨gb557, 1, none⟩) (Kd.V_far (p := ⟨gb557, 0, none⟩) (Kd.V_mono HO1_1.out (fun k_ hk => (⟨hk, hk.2⟩ : _ ∧ k_ ≠ gb557))) (fun _ hk => hk.2) (.bool t552)) (fun _ hk => hk.2) (.slice Ao22 t553.length co22)) (fun _ hk => hk.2) (.int .i64 t556)) (fun _ h_ => h_.1))) hb); replace HO545 := A0_ (Kd.V_below (by (with_reducible repeat (first | apply Kd.V_alloc | apply Kd.V_drewN | apply Kd.V_drew)); exact (Kd.V_mono (Kd.V_far (p := ⟨gb557, 2, none⟩) (Kd.V_far (p := ⟨gb557, 1, none⟩) (Kd.V_far (p := ⟨gb557, 0, none⟩) (Kd.V_mono HO545.out (fun k_ hk => (⟨hk, hk.2⟩ : _ ∧ k_ ≠ gb557))) (fun _ hk => hk.2) (.bool t552)) (fun _ hk => hk.2) (.slice Ao22 t553.length co22)) (fun _ hk => hk.2) (.int .i64 t556)) (fun _ h_ => h_.1))) hb); replace HO550 := A0_ (Kd.V_below (by (with_reducible repeat (first | apply Kd.V_alloc | apply Kd.V_drewN | apply Kd.V_drew)); exact (Kd.V_mono (Kd.V_far (p := ⟨gb557, 2, none⟩) (Kd.V_far (p := ⟨gb557, 1, none⟩) (Kd.V_far (p := ⟨gb557, 0, none⟩) (Kd.V_mono HO550.out (fun k_ hk => (⟨hk, hk.2⟩ : _ ∧ k_ ≠ gb557))) (fun _ hk => hk.2) (.bool t552)) (fun _ hk => hk.2) (.slice Ao22 t553.length co22)) (fun _ hk => hk.2) (.int .i64 t556)) (fun _ h_ => h_.1))) hb); replace HO555 := A0_ (Kd.V_below (by (with_reducible repeat (first | apply Kd.V_alloc | apply Kd.V_drewN | apply Kd.V_drew)); exact (Kd.V_mono (Kd.V_far (p := ⟨gb557, 2, none⟩) (Kd.V_far (p := ⟨gb557, 1, none⟩) (Kd.V_far (p := ⟨gb557, 0, none⟩) (Kd.V_mono HO555.out (fun k_ hk => (⟨hk, hk.2⟩ : _ ∧ k_ ≠ gb557))) (fun _ hk => hk.2) (.bool t552)) (fun _ hk => hk.2) (.slice Ao22 t553.length co22)) (fun _ hk => hk.2) (.int .i64 t556)) (fun _ h_ => h_.1))) hb); replace BK540 := A0_ (blk_below (g := gb540) (o := .cells #[.bool a1_0, .slice A1_1 l1_1.length c1_1, .int .i64 a1_2] 69 (0, 0)) (by (with_reducible repeat first | apply bN_ | apply bD_ | apply bA_); refine blk_far ?_ NB540_557.out _; refine blk_far ?_ NB540_557.out _; refine blk_far ?_ NB540_557.out _; exact bm_ BK540.out) hb); replace BK541 := A0_ (blk_below (g := gb541) (o := .cells #[.bool false, .slice none 0 0, .int .i64 0] 69 (0, 0)) (by (with_reducible repeat first | apply bN_ | apply bD_ | apply bA_); refine blk_far ?_ NB541_557.out _; refine blk_far ?_ NB541_557.out _; refine blk_far ?_ NB541_557.out _; exact bm_ BK541.out) hb); replace BK557 := A0_ (blk_below (g := gb557) (o := .cells #[.bool t552, .slice Ao22 t553.length co22, .int .i64 t556] 69 (0, 0)) (by (with_reducible repeat first | apply bN_ | apply bD_ | apply bA_); refine blk_put (cs := #[.bool t552, .slice Ao22 t553.length co22, .int .i64 0]) ?_ 2 _ rfl; refine blk_put (cs := #[.bool t552, .slice none 0 0, .int .i64 0]) ?_ 1 _ rfl; refine blk_put (cs := #[.bool false, .slice none 0 0, .int .i64 0]) ?_ 0 _ rfl; exact bm_ BK557.out) hb); replace HB := hs_ hb; (try clear hb); have hcz25 := bc3_ BK540.out; have hfz25 := bf3_ BK540.out; have hcz26 := bc3_ BK541.out; have hfz26 := bf3_ BK541.out))
  refine bodyPost_ret (results_cell_row rfl _ _ gb541 69 #[.bool a1_0, .slice A1_1 l1_1.length c1_1, .int .i64 a1_2] (0, 0) _ rfl (by (with_reducible repeat first | apply bN_ | apply bD_ | apply bA_); refine blk_put (cs := #[.bool a1_0, .slice A1_1 l1_1.length c1_1, .int .i64 0]) ?_ 2 _ rfl; refine blk_put (cs := #[.bool a1_0, .slice none 0 0, .int .i64 0]) ?_ 1 _ rfl; refine blk_put (cs := #[.bool false, .slice none 0 0, .int .i64 0]) ?_ 0 _ rfl; exact bm_ BK541.out) Try.underlying69 rfl (by kernel_rfl)) rfl ?_
  exact ⟨_, by first | rfl | (simp [errW_none, errW_some] <;> rfl) | (simp [*, errW_none, errW_some] <;> rfl), by (with_reducible repeat (first | apply Kd.V_alloc | apply Kd.V_drewN | apply Kd.V_drew)); exact Kd.V_mono (Kd.V_far (p := ⟨gb541, 2, none⟩) (Kd.V_far (p := ⟨gb541, 1, none⟩) (Kd.V_far (p := ⟨gb541, 0, none⟩) (Kd.V_mono HO1_1.out (fun k_ hk => (⟨hk, hk.1.2⟩ : _ ∧ k_ ≠ gb541))) (fun _ hk => hk.2) (.bool a1_0)) (fun _ hk => hk.2) (.slice A1_1 l1_1.length c1_1)) (fun _ hk => hk.2) (.int .i64 a1_2)) (fun _ hk => hk.1.1.1.1), qz_⟩
 ·replace c8 := Bool.eq_false_iff.mpr c8
  subst c8
  rw [if_neg (show ¬ (false = true) by decide)] at H
  exact absurd H (by simp)
def cutplaneref03_Wide.f (a0 : Int) : Option (Int) := if a0 = 1 then (some 128) else (some 1024)
theorem cutplaneref03_Wide.calls (a0 : Int) (r : Int) (w : World) (h : cutplaneref03_Wide.f a0 = some r) :
  Calls Try.prog 88 #[.int .u8 a0] w fun e w' => e = .returned (.int .i64 r) ∧ Drawn0 w w' := by
 have H := h
 clear h
 unfold cutplaneref03_Wide.f at H
 by_cases c2 : a0 = 1
 ·rw [if_pos c2] at H
  have c2b0 : (a0 == 1) = true := beq_iff_eq.mpr c2
  have c2b1 : (a0 != 1) = false := bne_eq_false_iff_eq.mpr c2
  clear c2
  obtain rfl := Option.some.inj H
  go_enter Try.func88, Try.ntmps88
  go_wp2
  go_ret
  exact ⟨by first | rfl | (simp; done) | (simp [*]; done), by repeat (first | exact Drawn0.refl _ | apply Drawn0.step)⟩
 ·rw [if_neg c2] at H
  have c2b0 : (a0 == 1) = false := beq_eq_false_iff_ne.mpr c2
  have c2b1 : (a0 != 1) = true := bne_iff_ne.mpr c2
  obtain rfl := Option.some.inj H
  go_enter Try.func88, Try.ntmps88
  go_wp2
  go_ret
  exact ⟨by first | rfl | (simp; done) | (simp [*]; done), by repeat (first | exact Drawn0.refl _ | apply Drawn0.step)⟩
end Go.Proofs.Ytlgapmhjaaajfaa.PA
end

section
namespace Go.Proofs.Ytlgapmhjaaajfaa.PA
open Go.RowKit Go.Proofs.YtlgapmhjaaajfaaW.PrintWords Go.Proofs.YtlgapmhjaaajfaaW.PrintLast Go.Proofs.YtlgapmhjaaajfaaW.PrintMore
attribute [local go_sem] max2_int min2_int max_two min_two max_three min_three max_four min_four   -- for this text's walks alone
set_option linter.unusedVariables false
set_option linter.unusedSimpArgs false
def cutplaneref01_Trim.l0 : Nat → List Int → Int → Option (List Int)
 | 0, _, _ => none
 | k + 1, x0, x3 => if x3 > 0 then (if 0 ≤ (wrap64 (x3 - 1)) then (if (wrap64 (x3 - 1)) < (x0.length : Int) then (if (rd x0 (wrap64 (x3 - 1))) = 0 then (cutplaneref01_Trim.l0 k x0 (wrap64 (x3 - 1))) else (if 0 ≤ x3 then (if x3 ≤ (x0.length : Int) then (some (x0.take (x3 : Int).toNat)) else (none)) else (none))) else (none)) else (none)) else (if 0 ≤ x3 then (if x3 ≤ (x0.length : Int) then (some (x0.take (x3 : Int).toNat)) else (none)) else (none))
def cutplaneref01_Trim.f (k : Nat) (l0 : List Int) : Option (List Int) := cutplaneref01_Trim.l0 k l0 (l0.length : Int)
theorem cutplaneref01_Trim.mono_l : ∀ k, (∀ y0 y1, LeO (cutplaneref01_Trim.l0 k y0 y1) (cutplaneref01_Trim.l0 (k + 1) y0 y1))
 | 0 => fun _ _ r h => by simp [cutplaneref01_Trim.l0] at h
 | k + 1 => by
  have ih0 := cutplaneref01_Trim.mono_l k
  ·intro y0 y1
   unfold cutplaneref01_Trim.l0
   repeat' first
   | (with_reducible exact ih0 _ _)
   | (with_reducible exact LeO.refl _)
   | (with_reducible exact LeO.none _)
   | (with_reducible refine LeO.ite ?_ ?_)
   | (with_reducible refine LeO.bind ?_ (fun _ => ?_))
   | exact ih0 _ _
   | exact LeO.none _
   | refine LeO.ite ?_ ?_
   | refine LeO.bind ?_ (fun _ => ?_)
theorem cutplaneref01_Trim.mono : ∀ a0 k, LeO (cutplaneref01_Trim.f k a0) (cutplaneref01_Trim.f (k + 1) a0) := by
 intro a0 k
 have ih0 := cutplaneref01_Trim.mono_l k
 unfold cutplaneref01_Trim.f
 repeat' first
   | (with_reducible exact ih0 _ _)
   | (with_reducible exact LeO.refl _)
   | (with_reducible exact LeO.none _)
   | (with_reducible refine LeO.ite ?_ ?_)
   | (with_reducible refine LeO.bind ?_ (fun _ => ?_))
   | exact ih0 _ _
   | exact LeO.none _
   | refine LeO.ite ?_ ?_
   | refine LeO.bind ?_ (fun _ => ?_)
theorem cutplaneref01_Trim.calls (k : Nat) (P0_ : Nat → Prop) (A0 : Option Addr) (c0 : Nat) (l0 : List Int) (r : List Int) (w : World) (hs0 : Kd.V (Kd.int .u32) 66 w w.heap.size (fun k_ => P0_ k_) (.slice A0 l0.length c0) l0) (h : cutplaneref01_Trim.f k l0 = some r) :
  Calls Try.prog 110 #[.slice A0 l0.length c0] w fun e w' => ∃ v0_ : Value, e = .returned (v0_) ∧ Kd.V (Kd.int .u32) 66 w' w.heap.size (fun k_ => (P0_ k_ ∨ w.heap.size ≤ k_)) v0_ r ∧ Below w.heap.size w w' := by
 have HO0 := A0_ (show Kd.V (Kd.int .u32) 66 w w.heap.size (fun k_ => (P0_ k_ ∨ w.heap.size ≤ k_)) (.slice A0 l0.length c0) l0 from Kd.V_mono hs0 (fun k_ hk => .inl hk))
 have HB := A0_ (Below.refl w.heap.size w)
 have H := h
 clear h
 unfold cutplaneref01_Trim.f at H
 have H' := A0_ H
 clear H
 go_enter Try.func110, Try.ntmps110
 go_wp2
 go_loopg [3] k (fun kq v3 w' => ∃ (x3_1 : Int), v3 = .int .i64 x3_1 ∧ Aside0 (cutplaneref01_Trim.l0 kq l0 x3_1 = some r) ∧ Aside0 (kq ≤ k) ∧ Aside0 (Kd.V (Kd.int .u32) 66 w' w.heap.size (fun k_ => (P0_ k_ ∨ w.heap.size ≤ k_)) (.slice A0 l0.length c0) l0) ∧ Aside0 (Below w.heap.size w w'))
 case atStart => exact ⟨((l0.length : Int)), (by first | rfl | (simp; done) | (simp [*]; done)), H', ⟨Nat.le_refl _⟩, ⟨by exact vm_ HO0.out⟩, ⟨qm_ HB.out⟩⟩
 case round =>
  clear H'
  try clear c1
  obtain ⟨x3_1, rfl, HA, HK1, HO_0, HB⟩ := hrel
  cases gk with
  | zero => exact absurd HA.out (by simp [cutplaneref01_Trim.l0])
  | succ k1 =>
   have H := HA.out
   clear HA
   simp only [cutplaneref01_Trim.l0] at H
   by_cases c2 : x3_1 > 0
   ·rw [if_pos c2] at H
    have c2b0 : decide (0 < x3_1) = true := decide_eq_true c2
    clear c2
    obtain ⟨ji3, hji3⟩ : ∃ j_ : Int, (wrap64 (x3_1 - 1)) = j_ := ⟨_, rfl⟩
    replace H : (if 0 ≤ (ji3) then (if (ji3) < (l0.length : Int) then (if (rd l0 (ji3)) = 0 then (cutplaneref01_Trim.l0 k1 l0 ji3) else (if 0 ≤ x3_1 then (if x3_1 ≤ (l0.length : Int) then (some (l0.take (x3_1 : Int).toNat)) else (none)) else (none))) else (none)) else (none)) = some r := by first | (rw [hji3] at H; exact H) | (simp only [hji3] at H ⊢; exact H)
    have hji3w : (IntKind.i64.wrap (x3_1 - 1)) = ji3 := (i64_w _).trans hji3
    obtain ⟨c4, H⟩ := ic_ H
    have c4b0 : decide (0 ≤ (ji3)) = true := decide_eq_true c4
    clear c4
    obtain ⟨c5, H⟩ := ic_ H
    have c5b0 : decide ((ji3) < (l0.length : Int)) = true := decide_eq_true c5
    clear c5
    by_cases c6 : (rd l0 (ji3)) = 0
    ·rw [if_pos c6] at H
     have c6b0 : ((rd l0 (ji3)) == 0) = true := beq_iff_eq.mpr c6
     have c6b1 : ((rd l0 (ji3)) != 0) = false := bne_eq_false_iff_eq.mpr c6
     clear c6
     have H' := A0_ H
     clear H
     have p379 : 0 ≤ ((ji3) : Int) := of_decide_eq_true (by first | (with_reducible assumption) | assumption)
     have q379 : (ji3) < (l0.length : Int) := of_decide_eq_true (by first | (with_reducible assumption) | assumption)
     obtain ⟨ad379, e379, hx379_0⟩ := Kd.at_int (Kd.V_reads' HO_0.out).2.2 (ji3) p379 q379
     cases e379
     replace p379 := eq_true p379
     replace q379 := eq_true q379
     go_wp2
     go_roundg k1
     case measure => have := HK1.out; omega
     case rel => exact ⟨(ji3), (by first | rfl | (simp; done) | (simp only [← hji3] <;> (first | rfl | simp)) | (simp [*]; done)), H', ⟨by have := HK1.out; omega⟩, ⟨by exact vm_ HO_0.out⟩, ⟨qm_ HB.out⟩⟩
    ·rw [if_neg c6] at H
     have c6b0 : ((rd l0 (ji3)) == 0) = false := beq_eq_false_iff_ne.mpr c6
     have c6b1 : ((rd l0 (ji3)) != 0) = true := bne_iff_ne.mpr c6
     obtain ⟨c7, H⟩ := ic_ H
     have c7b0 := eq_true c7
     have c7b1 : decide (0 ≤ x3_1) = true := decide_eq_true c7
     clear c7
     obtain ⟨c8, H⟩ := ic_ H
     have c8b0 := eq_true c8
     have c8b1 : decide (x3_1 ≤ (l0.length : Int)) = true := decide_eq_true c8
     clear c8
     obtain ⟨y380, hy380⟩ : ∃ y_ : List Int, y_ = (l0.take (x3_1 : Int).toNat) := ⟨_, rfl⟩
     replace H : (some y380) = some r := by first | (rw [hy380]; with_reducible exact H) | (have H2_ := (Option.bind_some _ _).symm.trans H; rw [hy380]; with_reducible exact H2_) | (have H2_ := (Option.bind_some _ _).symm.trans H; with_reducible exact H2_) | with_reducible exact H | (rw [hy380]; exact H) | exact H
     have Ny380 := A0_ hy380
     clear hy380
     obtain rfl := Option.some.inj H
     have p379 : 0 ≤ ((ji3) : Int) := of_decide_eq_true (by first | (with_reducible assumption) | assumption)
     have q379 : (ji3) < (l0.length : Int) := of_decide_eq_true (by first | (with_reducible assumption) | assumption)
     obtain ⟨ad379, e379, hx379_0⟩ := Kd.at_int (Kd.V_reads' HO_0.out).2.2 (ji3) p379 q379
     cases e379
     replace p379 := eq_true p379
     replace q379 := eq_true q379
     have q9 : (x3_1 : Int) ≤ ((l0.length : Int) : Int) := of_decide_eq_true (by first | (with_reducible assumption) | assumption)
     obtain ⟨i09, hi09, _, hsz9, _⟩ := info_parts info66
     have hroom9 : l0.length ≤ c0 := (Kd.V_reads' HO_0.out).2.1
     have hC9 : Kd.F (Kd.int .u32) _ _ (some ad379) l0.length l0 := (Kd.V_at (base := w.heap.size) HO_0.out).2.2
     have hcut9 := cut_to (P := Try.prog) 67 66 .i64 Try.underlying67 hi09 (some ad379) l0.length c0 x3_1 (of_decide_eq_true (by first | (with_reducible assumption) | assumption)) q9 hroom9
     have hr9 := Kd.F_take (m := (x3_1 : Int).toNat) hC9 (by omega)
     have hy9 : y380.length = (x3_1 : Int).toNat := (by rw [Ny380.out, List.length_take]; omega)
     rw [← Ny380.out] at hr9
     rw [← hy9] at hcut9
     have HO384 := A0_ (show Kd.V (Kd.int .u32) 66 _ w.heap.size _ (.slice (some ad379) y380.length c0) y380 from Kd.V_mk (by omega) hr9)
     have HC384 := A0_ (show y380.length ≤ c0 from by omega)
     clear hr9 hC9 hroom9 hi09 hsz9
     have KY9 := A0_ hy9
     clear hy9
     replace q9 := eq_true q9
     go_wp2
     go_ret
     exact ⟨_, by first | rfl | (simp [errW_none, errW_some] <;> rfl) | (simp only [← hji3]; first | rfl | (simp [errW_none, errW_some] <;> rfl)) | (simp [*, errW_none, errW_some] <;> rfl), by (with_reducible repeat (first | apply Kd.V_alloc | apply Kd.V_drewN | apply Kd.V_drew)); exact HO384.out, qm_ HB.out⟩
   ·rw [if_neg c2] at H
    have c2b0 : decide (0 < x3_1) = false := decide_eq_false c2
    clear c2
    obtain ⟨c10, H⟩ := ic_ H
    have c10b0 := eq_true c10
    have c10b1 : decide (0 ≤ x3_1) = true := decide_eq_true c10
    clear c10
    obtain ⟨c11, H⟩ := ic_ H
    have c11b0 := eq_true c11
    have c11b1 : decide (x3_1 ≤ (l0.length : Int)) = true := decide_eq_true c11
    clear c11
    obtain ⟨y385, hy385⟩ : ∃ y_ : List Int, y_ = (l0.take (x3_1 : Int).toNat) := ⟨_, rfl⟩
    replace H : (some y385) = some r := by first | (rw [hy385]; with_reducible exact H) | (have H2_ := (Option.bind_some _ _).symm.trans H; rw [hy385]; with_reducible exact H2_) | (have H2_ := (Option.bind_some _ _).symm.trans H; with_reducible exact H2_) | with_reducible exact H | (rw [hy385]; exact H) | exact H
    have Ny385 := A0_ hy385
    clear hy385
    obtain rfl := Option.some.inj H
    have q12 : (x3_1 : Int) ≤ ((l0.length : Int) : Int) := of_decide_eq_true (by first | (with_reducible assumption) | assumption)
    obtain ⟨i012, hi012, _, hsz12, _⟩ := info_parts info66
    have hroom12 : l0.length ≤ c0 := (Kd.V_reads' HO_0.out).2.1
    have hC12 : Kd.F (Kd.int .u32) _ _ A0 l0.length l0 := (Kd.V_at (base := w.heap.size) HO_0.out).2.2
    have hcut12 := cut_to (P := Try.prog) 67 66 .i64 Try.underlying67 hi012 A0 l0.length c0 x3_1 (of_decide_eq_true (by first | (with_reducible assumption) | assumption)) q12 hroom12
    have hr12 := Kd.F_take (m := (x3_1 : Int).toNat) hC12 (by omega)
    have hy12 : y385.length = (x3_1 : Int).toNat := (by rw [Ny385.out, List.length_take]; omega)
    rw [← Ny385.out] at hr12
    rw [← hy12] at hcut12
    have HO389 := A0_ (show Kd.V (Kd.int .u32) 66 _ w.heap.size _ (.slice A0 y385.length c0) y385 from Kd.V_mk (by omega) hr12)
    have HC389 := A0_ (show y385.length ≤ c0 from by omega)
    clear hr12 hC12 hroom12 hi012 hsz12
    have KY12 := A0_ hy12
    clear hy12
    replace q12 := eq_true q12
    go_wp2
    go_ret
    exact ⟨_, by first | rfl | (simp [errW_none, errW_some] <;> rfl) | (simp [*, errW_none, errW_some] <;> rfl), by (with_reducible repeat (first | apply Kd.V_alloc | apply Kd.V_drewN | apply Kd.V_drew)); exact HO389.out, qm_ HB.out⟩
end Go.Proofs.Ytlgapmhjaaajfaa.PA
end
