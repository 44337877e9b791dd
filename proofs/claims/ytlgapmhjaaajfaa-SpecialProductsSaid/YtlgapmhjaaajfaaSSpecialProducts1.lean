/- Steps of Go functions that the law SpecialProducts uses, told as plain Lean functions, each with the proof that its call comes to what it tells; words on memory; plain facts. No condition beyond those that each text names. -/
import Derived.Test.YtlgapmhjaaajfaaProg
import Derived.WalkMore
import Derived.Test.YtlgapmhjaaajfaaSSpecialProducts0
set_option maxHeartbeats 2000000
set_option maxRecDepth 100000
section
namespace Go.Proofs.Ytlgapmhjaaajfaa.PA
open Go.RowKit Go.Proofs.YtlgapmhjaaajfaaW.PrintWords Go.Proofs.YtlgapmhjaaajfaaW.PrintLast Go.Proofs.YtlgapmhjaaajfaaW.PrintMore
attribute [local go_sem] max2_int min2_int max_two min_two max_three min_three max_four min_four   -- for this text's walks alone
set_option linter.unusedVariables false
set_option linter.unusedSimpArgs false
def errW : Option Int → Value
  | none => .nilIface
  | some c => .iface 0 (.int .i64 c)
theorem errW_none : errW none = .nilIface := rfl
theorem errW_some (c : Int) : errW (some c) = .iface 0 (.int .i64 c) := rfl
theorem info41 : (Try.prog.info? 41).map (fun i => (i.zero, i.size, i.bytes)) = some (some (.int .u8 0), 1, 1) := by kernel_rfl
theorem info66 : (Try.prog.info? 66).map (fun i => (i.zero, i.size, i.bytes)) = some (some (.int .u32 0), 1, 4) := by kernel_rfl
structure S69 where
  f0 : Bool
  f1 : (List Int)
  f2 : Int
def z69 : S69 := ⟨false, ([] : List Int), (0 : Int)⟩
def k69 : Kd S69 := Kd.iso (Kd.pair Kd.bool (Kd.pair (Kd.slice 66 (Kd.int .u32)) (Kd.int .i64))) (fun x : S69 => (x.f0, x.f1, x.f2))
theorem k69_open {w : World} {x : S69} {cs : List Value} (h : k69.K w x cs) : ∃ A1 c1, cs = [.bool x.f0, .slice A1 x.f1.length c1, .int .i64 x.f2] ∧ x.f1.length ≤ c1 ∧ (Kd.int .u32).C w A1 x.f1.length x.f1 := by
  obtain ⟨_, _, rfl, rfl, ⟨_, _, rfl, ⟨A1, c1, rfl, l1, g1⟩, rfl⟩⟩ := h
  exact ⟨A1, c1, rfl, l1, g1⟩
def rd_T69 (xs : List S69) (i : Int) : S69 := xs.getD i.toNat z69
theorem at_T69 {w : World} {A : Option Addr} {n : Nat} {xs : List S69} (h : Kd.C k69 w A n xs) (i : Int) (h0 : 0 ≤ i) (h1 : i < n) : ∃ ad A1 c1, A = some ad ∧ w.cell? (ad.add (i.toNat * 3)) = some (.bool (rd_T69 xs i).f0) ∧ w.cell? ⟨(ad.add (i.toNat * 3)).block, (ad.add (i.toNat * 3)).off + 1, none⟩ = some (.slice A1 (rd_T69 xs i).f1.length c1) ∧ w.cell? ⟨(ad.add (i.toNat * 3)).block, (ad.add (i.toNat * 3)).off + 2, none⟩ = some (.int .i64 (rd_T69 xs i).f2) ∧ (rd_T69 xs i).f1.length ≤ c1 ∧ (Kd.int .u32).C w A1 (rd_T69 xs i).f1.length (rd_T69 xs i).f1 := by
  obtain ⟨ad, c, e, _, hK, hc0⟩ := Kd.C_get h z69 i h0 h1
  have hc : ∀ j u, c[j]? = some u → w.cell? (ad.add (i.toNat * 3 + j)) = some u := hc0
  obtain ⟨A1, c1, rfl, l1, g1⟩ := k69_open hK
  exact ⟨ad, A1, c1, e, hc 0 _ rfl, by rw [← add_field _ _ 1 (by omega)]; exact hc 1 _ rfl, by rw [← add_field _ _ 2 (by omega)]; exact hc 2 _ rfl, l1, g1⟩
structure S26 where
  f0 : Int
  f1 : Int
def z26 : S26 := ⟨(0 : Int), (0 : Int)⟩
def k26 : Kd S26 := Kd.iso (Kd.pair (Kd.int .u64) (Kd.int .u64)) (fun x : S26 => (x.f0, x.f1))
theorem k26_open {w : World} {x : S26} {cs : List Value} (h : k26.K w x cs) : cs = [.int .u64 x.f0, .int .u64 x.f1] := by
  obtain ⟨_, _, rfl, rfl, rfl⟩ := h
  exact rfl
theorem k26_mkM (w : World) (base : Nat) (ok : Nat → Prop) (x : S26)  : k26.M w base ok x [.int .u64 x.f0, .int .u64 x.f1] := ⟨[.int .u64 x.f0], [.int .u64 x.f1], rfl, rfl, rfl⟩
def rd_T26 (xs : List S26) (i : Int) : S26 := xs.getD i.toNat z26
theorem at_T26 {w : World} {A : Option Addr} {n : Nat} {xs : List S26} (h : Kd.C k26 w A n xs) (i : Int) (h0 : 0 ≤ i) (h1 : i < n) : ∃ ad , A = some ad ∧ w.cell? (ad.add (i.toNat * 2)) = some (.int .u64 (rd_T26 xs i).f0) ∧ w.cell? ⟨(ad.add (i.toNat * 2)).block, (ad.add (i.toNat * 2)).off + 1, none⟩ = some (.int .u64 (rd_T26 xs i).f1) := by
  obtain ⟨ad, c, e, _, hK, hc0⟩ := Kd.C_get h z26 i h0 h1
  have hc : ∀ j u, c[j]? = some u → w.cell? (ad.add (i.toNat * 2 + j)) = some u := hc0
  obtain rfl := k26_open hK
  exact ⟨ad, e, hc 0 _ rfl, by rw [← add_field _ _ 1 (by omega)]; exact hc 1 _ rfl⟩
end Go.Proofs.Ytlgapmhjaaajfaa.PA
end

section
namespace Go.Proofs.Ytlgapmhjaaajfaa.PA
open Go.RowKit Go.Proofs.YtlgapmhjaaajfaaW.PrintWords Go.Proofs.YtlgapmhjaaajfaaW.PrintLast Go.Proofs.YtlgapmhjaaajfaaW.PrintMore
attribute [local go_sem] max2_int min2_int max_two min_two max_three min_three max_four min_four   -- for this text's walks alone
set_option linter.unusedVariables false
set_option linter.unusedSimpArgs false
theorem eqA26 (d : Nat) (w : World) (x0 y0 : Int) (x1 y1 : Int) :
    (Op.equalIn (d + 2) 26 (.agg #[.int .u64 x0, .int .u64 x1]) (.agg #[.int .u64 y0, .int .u64 y1])).run Try.prog w = .ok (x0 == y0 && (x1 == y1)) w := by
  refine eqA_of Try.underlying26 (by kernel_rfl) ?_
  refine eqf_cons (by rfl) (by go_simp; rfl) (by go_simp; rfl) (by go_simp) ?_
  exact eqf_last (by rfl) (by go_simp; rfl) (by go_simp; rfl) (by go_simp)
end Go.Proofs.Ytlgapmhjaaajfaa.PA
end

section
namespace Go.Proofs.Ytlgapmhjaaajfaa.PA
open Go.RowKit Go.Proofs.YtlgapmhjaaajfaaW.PrintWords Go.Proofs.YtlgapmhjaaajfaaW.PrintLast Go.Proofs.YtlgapmhjaaajfaaW.PrintMore
attribute [local go_sem] max2_int min2_int max_two min_two max_three min_three max_four min_four   -- for this text's walks alone
set_option linter.unusedVariables false
set_option linter.unusedSimpArgs false
theorem eqA29 (d : Nat) (w : World) (x0 y0 : Int) (x1 y1 : Int) (x2 y2 : Int) (x3 y3 : Int) :
    (Op.equalIn (d + 3) 29 (.agg #[.int .u64 x0, .int .u64 x1, .int .u8 x2, .int .u8 x3]) (.agg #[.int .u64 y0, .int .u64 y1, .int .u8 y2, .int .u8 y3])).run Try.prog w = .ok ((x0 == y0 && (x1 == y1)) && (x2 == y2 && (x3 == y3))) w := by
  refine eqA_of Try.underlying29 (by kernel_rfl) ?_
  refine eqf_cons (by rfl) (by go_simp) (by go_simp) (eqA26 (d + 0) w _ _ _ _) ?_
  refine eqf_cons (by rfl) (by go_simp; rfl) (by go_simp; rfl) (by go_simp) ?_
  exact eqf_last (by rfl) (by go_simp; rfl) (by go_simp; rfl) (by go_simp)
end Go.Proofs.Ytlgapmhjaaajfaa.PA
end

section
namespace Go.Proofs.Ytlgapmhjaaajfaa.PA
open Go.RowKit Go.Proofs.YtlgapmhjaaajfaaW.PrintWords Go.Proofs.YtlgapmhjaaajfaaW.PrintLast Go.Proofs.YtlgapmhjaaajfaaW.PrintMore
attribute [local go_sem] max2_int min2_int max_two min_two max_three min_three max_four min_four   -- for this text's walks alone
set_option linter.unusedVariables false
set_option linter.unusedSimpArgs false
def word_shapeOf.f (a0 : Int) : Option (Int × Int × Int × Bool) := if a0 = 1 then (some (23, 255, 2147483648, true)) else (if a0 = 2 then (some (52, 2047, 9223372036854775808, true)) else (some (0, 0, 0, false)))
theorem word_shapeOf.calls (a0 : Int) (r1 : Int) (r2 : Int) (r3 : Int) (r4 : Bool) (w : World) (h : word_shapeOf.f a0 = some (r1, r2, r3, r4)) :
  Calls Try.prog 79 #[.int .u8 a0] w fun e w' => e = .returned (.tuple #[.agg #[.int .i64 r1, .int .i64 r2, .int .u64 r3], .bool r4]) ∧ Below w.heap.size w w' := by
 have hu82 := Try.underlying82
 have HB := A0_ (Below.refl w.heap.size w)
 have H := h
 clear h
 unfold word_shapeOf.f at H
 by_cases c2 : a0 = 1
 ·rw [if_pos c2] at H
  have c2b0 : (a0 == 1) = true := beq_iff_eq.mpr c2
  have c2b1 : (a0 != 1) = false := bne_eq_false_iff_eq.mpr c2
  clear c2
  simp only [Option.some.injEq, Prod.mk.injEq] at H
  obtain ⟨rfl, rfl, rfl, rfl⟩ := H
  go_enter Try.func79, Try.ntmps79
  go_wp2_with (first | ((with_reducible refine gate_dst (N := 2) rfl ?_); refine box_event ?hg (N := 2) ?hd (cs := #[.int .i64 0, .int .i64 0, .int .u64 0]) (t := 82) ?hr ?_; (case hd => rfl); (case hg => rfl); (case hr => first | (go_simp; done) | (go_simp; rfl)); intro gb101 hg w3 hbox hb; have BK101 := A0_ (hbox); have GW101 := A0_ ((by rw [hg]; exact (below_size (qm_ HB.out)) : w.heap.size ≤ gb101)); have GE101 := GW101; replace HB := hs_ hb; clear hb hbox hg; have hcz4 := bc3_ BK101.out; have hfz4 := bf3_ BK101.out))
  refine bodyPost_ret (results_ct rfl _ _ gb101 82 #[.int .i64 23, .int .i64 255, .int .u64 2147483648] (0, 0) _ rfl (by (with_reducible repeat first | apply bN_ | apply bD_ | apply bA_); refine blk_put (cs := #[.int .i64 23, .int .i64 255, .int .u64 0]) ?_ 2 _ rfl; refine blk_put (cs := #[.int .i64 23, .int .i64 0, .int .u64 0]) ?_ 1 _ rfl; refine blk_put (cs := #[.int .i64 0, .int .i64 0, .int .u64 0]) ?_ 0 _ rfl; exact bm_ BK101.out) Try.underlying82 rfl (by kernel_rfl)) rfl ?_
  exact ⟨by first | rfl | (simp [errW_none, errW_some] <;> rfl) | (simp [*, errW_none, errW_some] <;> rfl), qz_⟩
 ·rw [if_neg c2] at H
  have c2b0 : (a0 == 1) = false := beq_eq_false_iff_ne.mpr c2
  have c2b1 : (a0 != 1) = true := bne_iff_ne.mpr c2
  by_cases c5 : a0 = 2
  ·rw [if_pos c5] at H
   have c5b0 : (a0 == 2) = true := beq_iff_eq.mpr c5
   have c5b1 : (a0 != 2) = false := bne_eq_false_iff_eq.mpr c5
   clear c5
   simp only [Option.some.injEq, Prod.mk.injEq] at H
   obtain ⟨rfl, rfl, rfl, rfl⟩ := H
   go_enter Try.func79, Try.ntmps79
   go_wp2_with (first | ((with_reducible refine gate_dst (N := 2) rfl ?_); refine box_event ?hg (N := 2) ?hd (cs := #[.int .i64 0, .int .i64 0, .int .u64 0]) (t := 82) ?hr ?_; (case hd => rfl); (case hg => rfl); (case hr => first | (go_simp; done) | (go_simp; rfl)); intro gb101 hg w6 hbox hb; have BK101 := A0_ (hbox); have GW101 := A0_ ((by rw [hg]; exact (below_size (qm_ HB.out)) : w.heap.size ≤ gb101)); have GE101 := GW101; replace HB := hs_ hb; clear hb hbox hg; have hcz7 := bc3_ BK101.out; have hfz7 := bf3_ BK101.out))
   refine bodyPost_ret (results_ct rfl _ _ gb101 82 #[.int .i64 52, .int .i64 2047, .int .u64 9223372036854775808] (0, 0) _ rfl (by (with_reducible repeat first | apply bN_ | apply bD_ | apply bA_); refine blk_put (cs := #[.int .i64 52, .int .i64 2047, .int .u64 0]) ?_ 2 _ rfl; refine blk_put (cs := #[.int .i64 52, .int .i64 0, .int .u64 0]) ?_ 1 _ rfl; refine blk_put (cs := #[.int .i64 0, .int .i64 0, .int .u64 0]) ?_ 0 _ rfl; exact bm_ BK101.out) Try.underlying82 rfl (by kernel_rfl)) rfl ?_
   exact ⟨by first | rfl | (simp [errW_none, errW_some] <;> rfl) | (simp [*, errW_none, errW_some] <;> rfl), qz_⟩
  ·rw [if_neg c5] at H
   have c5b0 : (a0 == 2) = false := beq_eq_false_iff_ne.mpr c5
   have c5b1 : (a0 != 2) = true := bne_iff_ne.mpr c5
   simp only [Option.some.injEq, Prod.mk.injEq] at H
   obtain ⟨rfl, rfl, rfl, rfl⟩ := H
   go_enter Try.func79, Try.ntmps79
   go_wp2_with (first | ((with_reducible refine gate_dst (N := 2) rfl ?_); refine box_event ?hg (N := 2) ?hd (cs := #[.int .i64 0, .int .i64 0, .int .u64 0]) (t := 82) ?hr ?_; (case hd => rfl); (case hg => rfl); (case hr => first | (go_simp; done) | (go_simp; rfl)); intro gb101 hg w8 hbox hb; have BK101 := A0_ (hbox); have GW101 := A0_ ((by rw [hg]; exact (below_size (qm_ HB.out)) : w.heap.size ≤ gb101)); have GE101 := GW101; replace HB := hs_ hb; clear hb hbox hg; have hcz9 := bc3_ BK101.out; have hfz9 := bf3_ BK101.out))
   refine bodyPost_ret (results_ct rfl _ _ gb101 82 #[.int .i64 0, .int .i64 0, .int .u64 0] (0, 0) _ rfl (by (with_reducible repeat first | apply bN_ | apply bD_ | apply bA_); refine blk_put (cs := #[.int .i64 0, .int .i64 0, .int .u64 0]) ?_ 2 _ rfl; refine blk_put (cs := #[.int .i64 0, .int .i64 0, .int .u64 0]) ?_ 1 _ rfl; refine blk_put (cs := #[.int .i64 0, .int .i64 0, .int .u64 0]) ?_ 0 _ rfl; exact bm_ BK101.out) Try.underlying82 rfl (by kernel_rfl)) rfl ?_
   exact ⟨by first | rfl | (simp [errW_none, errW_some] <;> rfl) | (simp [*, errW_none, errW_some] <;> rfl), qz_⟩
def word_open.l0 : Nat → List Int → Int → Int → Int → Int → Int → Option (Int × Int × Int × Int)
 | 0, _, _, _, _, _, _ => none
 | k + 1, x18, x19, x20, x108000, x108001, x108002 => if x20 < x19 then (if 0 ≤ x20 then (if x20 < (x18.length : Int) then (if (rd x18 x20) > (Go.bits .or .u64 x108002 (IntKind.u64.wrap (x108002 - 1))) then (some (x108000, x108001, x108002, 6)) else (word_open.l0 k x18 x19 (wrap64 (x20 + 1)) x108000 x108001 x108002)) else (none)) else (none)) else (some (x108000, x108001, x108002, 0))
def word_open.f (k : Nat) (a0 : Int) (l1 : List Int) : Option (Int × Int × Int × Int) := (word_shapeOf.f a0).bind fun bt103 => (if bt103.2.2.2 = true then (word_open.l0 k l1 (l1.length : Int) 0 bt103.1 bt103.2.1 bt103.2.2.1) else (some (bt103.1, bt103.2.1, bt103.2.2.1, 4)))
theorem word_open.mono_l : ∀ k, (∀ y0 y1 y2 y3 y4 y5, LeO (word_open.l0 k y0 y1 y2 y3 y4 y5) (word_open.l0 (k + 1) y0 y1 y2 y3 y4 y5))
 | 0 => fun _ _ _ _ _ _ r h => by simp [word_open.l0] at h
 | k + 1 => by
  have ih0 := word_open.mono_l k
  ·intro y0 y1 y2 y3 y4 y5
   unfold word_open.l0
   repeat' first
   | (with_reducible exact ih0 _ _ _ _ _ _)
   | (with_reducible exact LeO.refl _)
   | (with_reducible exact LeO.none _)
   | (with_reducible refine LeO.ite ?_ ?_)
   | (with_reducible refine LeO.bind ?_ (fun _ => ?_))
   | exact ih0 _ _ _ _ _ _
   | exact LeO.none _
   | refine LeO.ite ?_ ?_
   | refine LeO.bind ?_ (fun _ => ?_)
theorem word_open.mono : ∀ a0 a1 k, LeO (word_open.f k a0 a1) (word_open.f (k + 1) a0 a1) := by
 intro a0 a1 k
 have ih0 := word_open.mono_l k
 unfold word_open.f
 repeat' first
   | (with_reducible exact ih0 _ _ _ _ _ _)
   | (with_reducible exact LeO.refl _)
   | (with_reducible exact LeO.none _)
   | (with_reducible refine LeO.ite ?_ ?_)
   | (with_reducible refine LeO.bind ?_ (fun _ => ?_))
   | exact ih0 _ _ _ _ _ _
   | exact LeO.none _
   | refine LeO.ite ?_ ?_
   | refine LeO.bind ?_ (fun _ => ?_)
theorem word_open.calls (k : Nat) (a0 : Int) (A1 : Option Addr) (c1 : Nat) (l1 : List Int) (r1 : Int) (r2 : Int) (r3 : Int) (r4 : Int) (w : World) (hr1 : Kd.C (Kd.int .u64) w A1 l1.length l1) (hc1 : l1.length ≤ c1) (h : word_open.f k a0 l1 = some (r1, r2, r3, r4)) :
  Calls Try.prog 53 #[.int .u8 a0, .slice A1 l1.length c1] w fun e w' => e = .returned (.tuple #[.agg #[.int .i64 r1, .int .i64 r2, .int .u64 r3], .int .i64 r4]) ∧ Below w.heap.size w w' := by
 have hu82 := Try.underlying82
 have HR1 := A0_ hr1
 have HC1 := A0_ hc1
 clear hr1 hc1
 have HB := A0_ (Below.refl w.heap.size w)
 have H := h
 clear h
 unfold word_open.f at H
 obtain ⟨⟨t103, t104, t105, t106⟩, A3, H⟩ := bs_ H
 try dsimp -simprocs only at H
 by_cases c4 : t106 = true
 ·subst c4
  rw [if_pos rfl] at H
  have H' := A0_ H
  clear H
  go_enter Try.func53, Try.ntmps53
  go_wp2_with (first | ((with_reducible refine gate_dst (N := 4) rfl ?_); refine box_event ?hg (N := 4) ?hd (cs := #[.int .i64 0, .int .i64 0, .int .u64 0]) (t := 82) ?hr ?_; (case hd => rfl); (case hg => rfl); (case hr => first | (go_simp; done) | (go_simp; rfl)); intro gb102 hg w5 hbox hb; have BK102 := A0_ (hbox); have GW102 := A0_ ((by rw [hg]; exact (below_size (qm_ HB.out)) : w.heap.size ≤ gb102)); have GE102 := GW102; replace HB := hs_ hb; clear hb hbox hg) | ((with_reducible refine gate_callee (f := 79) rfl ?_); refine goesL_ (some 12) rfl rfl Try.func79 (by kernel_rfl) rfl #[.int .u8 a0] rfl (am_ rfl) ?_; (with_reducible refine (word_shapeOf.calls a0 t103 t104 t105 true _ A3.out).mono ?_); rintro e w6 ⟨rfl, hb⟩; refine ⟨_, rfl, ?_⟩; replace BK102 := bb_ BK102 hb; replace HB := hs_ hb; (try clear hb)) | ((with_reducible refine gate_dst (N := 6) rfl ?_); refine box_event ?hg (N := 6) ?hd (cs := #[.int .i64 0, .int .i64 0, .int .u64 0]) (t := 82) ?hr ?_; (case hd => rfl); (case hg => rfl); (case hr => first | (go_simp; done) | (go_simp; rfl)); intro gb107 hg w7 hbox hb; have BK107 := A0_ (hbox); have GW107 := A0_ ((by rw [hg]; exact (below_size qz_) : w.heap.size ≤ gb107)); have GE107 := GW107; replace HB := hs_ hb; have NB102_107 := nl_ hg BK102; have NB107_102 := ng_ hg BK102; replace BK102 := bb_ BK102 hb; clear hb hbox hg; have hnb8 := NB107_102.out; have hnc8 := NB102_107.out; have hcz9 := bc3_ BK107.out; have hfz9 := bf3_ BK107.out))
  go_loopg [20] k (fun kq v20 w' => ∃ (x20_1 : Int) (x103000_1 : Int) (x103001_1 : Int) (x103002_1 : Int), v20 = .int .i64 x20_1 ∧ Aside0 (word_open.l0 kq l1 (l1.length : Int) x20_1 t103 t104 t105 = some (r1, r2, r3, r4)) ∧ Aside0 (kq ≤ k) ∧ Aside0 (w'.heap[gb102]? = some (.cells #[.int .i64 x103000_1, .int .i64 x103001_1, .int .u64 x103002_1] 82 (0, 0))) ∧ Aside0 (w'.heap[gb107]? = some (.cells #[.int .i64 t103, .int .i64 t104, .int .u64 t105] 82 (0, 0))) ∧ Aside0 (Below w.heap.size w w'))
  case atStart => exact ⟨(0), (0), (0), (0), (by first | rfl | (simp; done) | (simp [*]; done)), H', ⟨Nat.le_refl _⟩, ⟨by (with_reducible repeat first | apply bN_ | apply bD_ | apply bA_); refine blk_far ?_ NB102_107.out _; refine blk_far ?_ NB102_107.out _; refine blk_far ?_ NB102_107.out _; exact bm_ BK102.out⟩, ⟨by (with_reducible repeat first | apply bN_ | apply bD_ | apply bA_); refine blk_put (cs := #[.int .i64 t103, .int .i64 t104, .int .u64 0]) ?_ 2 _ rfl; refine blk_put (cs := #[.int .i64 t103, .int .i64 0, .int .u64 0]) ?_ 1 _ rfl; refine blk_put (cs := #[.int .i64 0, .int .i64 0, .int .u64 0]) ?_ 0 _ rfl; exact bm_ BK107.out⟩, ⟨qz_⟩⟩
  case round =>
   clear H'
   try clear c1
   try clear p2
   try clear c4
   try clear c5
   try clear c7
   try clear c8
   try clear hcz9
   try clear hfz9
   obtain ⟨x20_1, x103000_1, x103001_1, x103002_1, rfl, HA, HK1, BK102, BK107, HB⟩ := hrel
   cases gk with
   | zero => exact absurd HA.out (by simp [word_open.l0])
   | succ k1 =>
    have H := HA.out
    clear HA
    simp only [word_open.l0] at H
    by_cases c10 : x20_1 < (l1.length : Int)
    ·rw [if_pos c10] at H
     have c10b0 : decide (x20_1 < (l1.length : Int)) = true := decide_eq_true c10
     clear c10
     obtain ⟨c11, H⟩ := ic_ H
     have c11b0 : decide (0 ≤ x20_1) = true := decide_eq_true c11
     clear c11
     obtain ⟨c12, H⟩ := ic_ H
     have c12b0 : decide (x20_1 < (l1.length : Int)) = true := decide_eq_true c12
     clear c12
     by_cases c13 : (rd l1 x20_1) > (Go.bits .or .u64 t105 (IntKind.u64.wrap (t105 - 1)))
     ·rw [if_pos c13] at H
      have c13b0 : decide ((Go.bits .or .u64 t105 (IntKind.u64.wrap (t105 - 1))) < (rd l1 x20_1)) = true := decide_eq_true c13
      clear c13
      simp only [Option.some.injEq, Prod.mk.injEq] at H
      obtain ⟨rfl, rfl, rfl, rfl⟩ := H
      have p108 : 0 ≤ (x20_1 : Int) := of_decide_eq_true (by first | (with_reducible assumption) | assumption)
      have q108 : x20_1 < (l1.length : Int) := of_decide_eq_true (by first | (with_reducible assumption) | assumption)
      obtain ⟨ad108, e108, hx108_0⟩ := Kd.at_int HR1.out x20_1 p108 q108
      cases e108
      replace hx108_0 := (HB.out.cell (World.block_lt_of_cell? w _ hx108_0)).trans hx108_0
      replace p108 := eq_true p108
      replace q108 := eq_true q108
      have hnb14 := NB107_102.out
      have hnc14 := NB102_107.out
      have hcz15 := bc3_ BK107.out
      have hfz15 := bf3_ BK107.out
      have hcz16 := bc3_ BK102.out
      have hfz16 := bf3_ BK102.out
      go_wp2
      refine bodyPost_ret (results_ct rfl _ _ gb102 82 #[.int .i64 t103, .int .i64 t104, .int .u64 t105] (0, 0) _ rfl (by (with_reducible repeat first | apply bN_ | apply bD_ | apply bA_); refine blk_put (cs := #[.int .i64 t103, .int .i64 t104, .int .u64 x103002_1]) ?_ 2 _ rfl; refine blk_put (cs := #[.int .i64 t103, .int .i64 x103001_1, .int .u64 x103002_1]) ?_ 1 _ rfl; refine blk_put (cs := #[.int .i64 x103000_1, .int .i64 x103001_1, .int .u64 x103002_1]) ?_ 0 _ rfl; exact bm_ BK102.out) Try.underlying82 rfl (by kernel_rfl)) rfl ?_
      exact ⟨by first | rfl | (simp [errW_none, errW_some] <;> rfl) | (simp [*, errW_none, errW_some] <;> rfl), qz_⟩
     ·rw [if_neg c13] at H
      have c13b0 : decide ((Go.bits .or .u64 t105 (IntKind.u64.wrap (t105 - 1))) < (rd l1 x20_1)) = false := decide_eq_false c13
      clear c13
      have H' := A0_ H
      clear H
      have p108 : 0 ≤ (x20_1 : Int) := of_decide_eq_true (by first | (with_reducible assumption) | assumption)
      have q108 : x20_1 < (l1.length : Int) := of_decide_eq_true (by first | (with_reducible assumption) | assumption)
      obtain ⟨ad108, e108, hx108_0⟩ := Kd.at_int HR1.out x20_1 p108 q108
      cases e108
      replace hx108_0 := (HB.out.cell (World.block_lt_of_cell? w _ hx108_0)).trans hx108_0
      replace p108 := eq_true p108
      replace q108 := eq_true q108
      have hnb17 := NB107_102.out
      have hnc17 := NB102_107.out
      have hcz18 := bc3_ BK107.out
      have hfz18 := bf3_ BK107.out
      go_wp2
      go_roundg k1
      case measure => have := HK1.out; omega
      case rel => exact ⟨(wrap64 (x20_1 + 1)), (x103000_1), (x103001_1), (x103002_1), (by first | rfl | (simp; done) | (simp [*]; done)), H', ⟨by have := HK1.out; omega⟩, ⟨bm_ BK102.out⟩, ⟨bm_ BK107.out⟩, ⟨qz_⟩⟩
    ·rw [if_neg c10] at H
     have c10b0 : decide (x20_1 < (l1.length : Int)) = false := decide_eq_false c10
     clear c10
     simp only [Option.some.injEq, Prod.mk.injEq] at H
     obtain ⟨rfl, rfl, rfl, rfl⟩ := H
     have hnb19 := NB107_102.out
     have hnc19 := NB102_107.out
     have hcz20 := bc3_ BK107.out
     have hfz20 := bf3_ BK107.out
     have hcz21 := bc3_ BK102.out
     have hfz21 := bf3_ BK102.out
     go_wp2
     refine bodyPost_ret (results_ct rfl _ _ gb102 82 #[.int .i64 t103, .int .i64 t104, .int .u64 t105] (0, 0) _ rfl (by (with_reducible repeat first | apply bN_ | apply bD_ | apply bA_); refine blk_put (cs := #[.int .i64 t103, .int .i64 t104, .int .u64 x103002_1]) ?_ 2 _ rfl; refine blk_put (cs := #[.int .i64 t103, .int .i64 x103001_1, .int .u64 x103002_1]) ?_ 1 _ rfl; refine blk_put (cs := #[.int .i64 x103000_1, .int .i64 x103001_1, .int .u64 x103002_1]) ?_ 0 _ rfl; exact bm_ BK102.out) Try.underlying82 rfl (by kernel_rfl)) rfl ?_
     exact ⟨by first | rfl | (simp [errW_none, errW_some] <;> rfl) | (simp [*, errW_none, errW_some] <;> rfl), qz_⟩
 ·replace c4 := Bool.eq_false_iff.mpr c4
  subst c4
  rw [if_neg (show ¬ (false = true) by decide)] at H
  simp only [Option.some.injEq, Prod.mk.injEq] at H
  obtain ⟨rfl, rfl, rfl, rfl⟩ := H
  go_enter Try.func53, Try.ntmps53
  go_wp2_with (first | ((with_reducible refine gate_dst (N := 4) rfl ?_); refine box_event ?hg (N := 4) ?hd (cs := #[.int .i64 0, .int .i64 0, .int .u64 0]) (t := 82) ?hr ?_; (case hd => rfl); (case hg => rfl); (case hr => first | (go_simp; done) | (go_simp; rfl)); intro gb102 hg w22 hbox hb; have BK102 := A0_ (hbox); have GW102 := A0_ ((by rw [hg]; exact (below_size (qm_ HB.out)) : w.heap.size ≤ gb102)); have GE102 := GW102; replace HB := hs_ hb; clear hb hbox hg) | ((with_reducible refine gate_callee (f := 79) rfl ?_); refine goesL_ (some 12) rfl rfl Try.func79 (by kernel_rfl) rfl #[.int .u8 a0] rfl (am_ rfl) ?_; (with_reducible refine (word_shapeOf.calls a0 t103 t104 t105 false _ A3.out).mono ?_); rintro e w23 ⟨rfl, hb⟩; refine ⟨_, rfl, ?_⟩; replace BK102 := bb_ BK102 hb; replace HB := hs_ hb; (try clear hb)) | ((with_reducible refine gate_dst (N := 6) rfl ?_); refine box_event ?hg (N := 6) ?hd (cs := #[.int .i64 0, .int .i64 0, .int .u64 0]) (t := 82) ?hr ?_; (case hd => rfl); (case hg => rfl); (case hr => first | (go_simp; done) | (go_simp; rfl)); intro gb107 hg w24 hbox hb; have BK107 := A0_ (hbox); have GW107 := A0_ ((by rw [hg]; exact (below_size qz_) : w.heap.size ≤ gb107)); have GE107 := GW107; replace HB := hs_ hb; have NB102_107 := nl_ hg BK102; have NB107_102 := ng_ hg BK102; replace BK102 := bb_ BK102 hb; clear hb hbox hg; have hnb25 := NB107_102.out; have hnc25 := NB102_107.out; have hcz26 := bc3_ BK107.out; have hfz26 := bf3_ BK107.out; have hcz27 := bc3_ BK102.out; have hfz27 := bf3_ BK102.out))
  refine bodyPost_ret (results_ct rfl _ _ gb102 82 #[.int .i64 t103, .int .i64 t104, .int .u64 t105] (0, 0) _ rfl (by (with_reducible repeat first | apply bN_ | apply bD_ | apply bA_); refine blk_put (cs := #[.int .i64 t103, .int .i64 t104, .int .u64 0]) ?_ 2 _ rfl; refine blk_put (cs := #[.int .i64 t103, .int .i64 0, .int .u64 0]) ?_ 1 _ rfl; refine blk_put (cs := #[.int .i64 0, .int .i64 0, .int .u64 0]) ?_ 0 _ rfl; refine blk_far ?_ NB102_107.out _; refine blk_far ?_ NB102_107.out _; refine blk_far ?_ NB102_107.out _; exact bm_ BK102.out) Try.underlying82 rfl (by kernel_rfl)) rfl ?_
  exact ⟨by first | rfl | (simp [errW_none, errW_some] <;> rfl) | (simp [*, errW_none, errW_some] <;> rfl), qz_⟩
def word_shape_inf.f (a0_0 : Int) (a0_1 : Int) (a0_2 : Int) : Option (Int) := if 0 ≤ a0_0 then (some (shl .u64 (IntKind.u64.wrap (a0_1)) a0_0)) else (none)
theorem word_shape_inf.calls (a0_0 : Int) (a0_1 : Int) (a0_2 : Int) (r : Int) (w : World) (h : word_shape_inf.f a0_0 a0_1 a0_2 = some r) :
  Calls Try.prog 37 #[.agg #[.int .i64 a0_0, .int .i64 a0_1, .int .u64 a0_2]] w fun e w' => e = .returned (.int .u64 r) ∧ Below w.heap.size w w' := by
 have hu82 := Try.underlying82
 have HB := A0_ (Below.refl w.heap.size w)
 have H := h
 clear h
 unfold word_shape_inf.f at H
 obtain ⟨c2, H⟩ := ic_ H
 have c2b0 := eq_true c2
 have c2b1 : decide (0 ≤ a0_0) = true := decide_eq_true c2
 clear c2
 obtain ⟨ji3, hji3⟩ : ∃ j_ : Int, (shl .u64 (IntKind.u64.wrap (a0_1)) a0_0) = j_ := ⟨_, rfl⟩
 replace H : (some ji3) = some r := by first | (rw [hji3] at H; exact H) | (simp only [hji3] at H ⊢; exact H)
 have hji3_ : (IntKind.u64.wrap ((IntKind.u64.wrap (a0_1)) * 2 ^ min a0_0.toNat 64)) = ji3 := hji3
 have hji3z : a0_0 ≤ 64 → (IntKind.u64.wrap ((IntKind.u64.wrap (a0_1)) * 2 ^ a0_0.toNat)) = ji3 := shl_small hji3
 obtain rfl := Option.some.inj H
 go_enter Try.func37, Try.ntmps37
 go_wp2_with (first | ((with_reducible refine gate_dst (N := 1) rfl ?_); refine box_event ?hg (N := 1) ?hd (cs := #[.int .i64 a0_0, .int .i64 a0_1, .int .u64 a0_2]) (t := 82) ?hr ?_; (case hd => rfl); (case hg => rfl); (case hr => first | (go_simp; done) | (go_simp; rfl)); intro gb109 hg w4 hbox hb; have BK109 := A0_ (hbox); have GW109 := A0_ ((by rw [hg]; exact (below_size (qm_ HB.out)) : w.heap.size ≤ gb109)); have GE109 := GW109; replace HB := hs_ hb; clear hb hbox hg; have hcz5 := bc3_ BK109.out; have hfz5 := bf3_ BK109.out))
 go_ret
 exact ⟨by first | rfl | (simp [errW_none, errW_some] <;> rfl) | (simp only [← hji3]; first | rfl | (simp [errW_none, errW_some] <;> rfl)) | (simp [*, errW_none, errW_some] <;> rfl), qz_⟩
end Go.Proofs.Ytlgapmhjaaajfaa.PA
end

section
namespace Go.Proofs.Ytlgapmhjaaajfaa.PA
open Go.RowKit Go.Proofs.YtlgapmhjaaajfaaW.PrintWords Go.Proofs.YtlgapmhjaaajfaaW.PrintLast Go.Proofs.YtlgapmhjaaajfaaW.PrintMore
attribute [local go_sem] max2_int min2_int max_two min_two max_three min_three max_four min_four   -- for this text's walks alone
set_option linter.unusedVariables false
set_option linter.unusedSimpArgs false
def word_named.f (k : Nat) (a0 : Int) (a1 : Bool) (a2 : Int → Int → Int → Option (Int)) : Option (Int × Int) := (word_open.f k a0 ([] : List Int)).bind fun bt127 => (if bt127.2.2.2 = 0 then ((a2 bt127.1 bt127.2.1 bt127.2.2.1).bind fun t132 => (if a1 = true then (some (Go.bits .or .u64 t132 bt127.2.2.1, 0)) else (some (t132, 0)))) else (some (0, bt127.2.2.2)))
theorem word_named.mono : ∀ a0 a1 a2 k, LeO (word_named.f k a0 a1 a2) (word_named.f (k + 1) a0 a1 a2) := by
 intro a0 a1 a2 k
 unfold word_named.f
 repeat' first
   | (with_reducible exact word_open.mono _ _ _)
   | (with_reducible exact LeO.refl _)
   | (with_reducible exact LeO.none _)
   | (with_reducible refine LeO.ite ?_ ?_)
   | (with_reducible refine LeO.bind ?_ (fun _ => ?_))
   | exact word_open.mono _ _ _
   | exact LeO.none _
   | refine LeO.ite ?_ ?_
   | refine LeO.bind ?_ (fun _ => ?_)
theorem word_named.calls (k : Nat) (a0 : Int) (a1 : Bool) (a2 : Int → Int → Int → Option (Int)) (r1 : Int) (r2 : Int) (w : World) (fg2 : Nat) (fn2 : Func) (fc2 : List Value) (FV2 : Aside0 (Try.prog.funcs[fg2]? = some fn2 ∧ (fn2.name == "runtime.NumGoroutine") = false ∧ fn2.body.isSome = true ∧ ∀ (s0_ : Int) (s1_ : Int) (s2_ : Int) (q0_ : Int) (w_ : World), Below w.heap.size w w_ → a2 s0_ s1_ s2_ = some q0_ → Calls Try.prog fg2 (List.toArray ([.agg #[.int .i64 s0_, .int .i64 s1_, .int .u64 s2_]] ++ fc2)) w_ fun e w' => e = .returned (.int .u64 q0_) ∧ Below w_.heap.size w_ w')) (h : word_named.f k a0 a1 a2 = some (r1, r2)) :
  Calls Try.prog 36 #[.int .u8 a0, .bool a1, .func (.func fg2) #[] fc2.toArray] w fun e w' => e = .returned (.tuple #[.int .u64 r1, .int .i64 r2]) ∧ Below w.heap.size w w' := by
 have hu82 := Try.underlying82
 have HB := A0_ (Below.refl w.heap.size w)
 have H := h
 clear h
 unfold word_named.f at H
 obtain ⟨⟨t127, t128, t129, t130⟩, A4, H⟩ := bs_ H
 try dsimp -simprocs only at H
 by_cases c5 : t130 = 0
 ·rw [if_pos c5] at H
  have c5b0 : (t130 == 0) = true := beq_iff_eq.mpr c5
  have c5b1 : (t130 != 0) = false := bne_eq_false_iff_eq.mpr c5
  clear c5
  obtain ⟨t132, A6, H⟩ := bs_ H
  try dsimp -simprocs only at H
  by_cases c7 : a1 = true
  ·subst c7
   rw [if_pos rfl] at H
   simp only [Option.some.injEq, Prod.mk.injEq] at H
   obtain ⟨rfl, rfl⟩ := H
   go_enter Try.func36, Try.ntmps36
   go_wp2_with (first | ((with_reducible refine gate_callee (f := 53) rfl ?_); refine goesL_ (some 13) rfl rfl Try.func53 (by kernel_rfl) rfl #[.int .u8 a0, .slice none 0 0] rfl (am_ rfl) ?_; (refine (word_open.calls k a0 _ _ ([] : List Int) t127 t128 t129 t130 _ ?side1 ?side2 A4.out).mono ?_); (case side1 => exact Kd.C_nil _ _); (case side2 => exact Nat.le_refl _); rintro e w8 ⟨rfl, hb⟩; refine ⟨_, rfl, ?_⟩; replace HB := hs_ hb; (try clear hb)) | ((with_reducible refine gate_dst (N := 8) rfl ?_); refine box_event ?hg (N := 8) ?hd (cs := #[.int .i64 0, .int .i64 0, .int .u64 0]) (t := 82) ?hr ?_; (case hd => rfl); (case hg => rfl); (case hr => first | (go_simp; done) | (go_simp; rfl)); intro gb131 hg w9 hbox hb; have BK131 := A0_ (hbox); have GW131 := A0_ ((by rw [hg]; exact (below_size (qm_ HB.out)) : w.heap.size ≤ gb131)); have GE131 := GW131; replace HB := hs_ hb; clear hb hbox hg; have hcz10 := bc3_ BK131.out; have hfz10 := bf3_ BK131.out) | ((with_reducible refine gate_value rfl ?_); refine goesV_ (some 21) rfl rfl FV2.out.1 FV2.out.2.1 FV2.out.2.2.1 [.agg #[.int .i64 t127, .int .i64 t128, .int .u64 t129]] fc2 rfl rfl (by (try simp only [List.map_toArray, List.map_cons, List.map_nil]); first | done | rfl) ?_; (refine (FV2.out.2.2.2 t127 t128 t129 t132 _ qz_ A6.out).mono ?_); rintro e w11 ⟨rfl, hb⟩; refine ⟨_, rfl, ?_⟩; replace BK131 := A0_ (blk_below (g := gb131) (o := .cells #[.int .i64 t127, .int .i64 t128, .int .u64 t129] 82 (0, 0)) (by (with_reducible repeat first | apply bN_ | apply bD_ | apply bA_); refine blk_put (cs := #[.int .i64 t127, .int .i64 t128, .int .u64 0]) ?_ 2 _ rfl; refine blk_put (cs := #[.int .i64 t127, .int .i64 0, .int .u64 0]) ?_ 1 _ rfl; refine blk_put (cs := #[.int .i64 0, .int .i64 0, .int .u64 0]) ?_ 0 _ rfl; exact bm_ BK131.out) hb); replace HB := hs_ hb; (try clear hb); have hcz12 := bc3_ BK131.out; have hfz12 := bf3_ BK131.out))
   go_ret2
   exact ⟨by first | rfl | (simp [errW_none, errW_some] <;> rfl) | (simp [*, errW_none, errW_some] <;> rfl), qz_⟩
  ·replace c7 := Bool.eq_false_iff.mpr c7
   subst c7
   rw [if_neg (show ¬ (false = true) by decide)] at H
   simp only [Option.some.injEq, Prod.mk.injEq] at H
   obtain ⟨rfl, rfl⟩ := H
   go_enter Try.func36, Try.ntmps36
   go_wp2_with (first | ((with_reducible refine gate_callee (f := 53) rfl ?_); refine goesL_ (some 13) rfl rfl Try.func53 (by kernel_rfl) rfl #[.int .u8 a0, .slice none 0 0] rfl (am_ rfl) ?_; (refine (word_open.calls k a0 _ _ ([] : List Int) t127 t128 t129 t130 _ ?side1 ?side2 A4.out).mono ?_); (case side1 => exact Kd.C_nil _ _); (case side2 => exact Nat.le_refl _); rintro e w13 ⟨rfl, hb⟩; refine ⟨_, rfl, ?_⟩; replace HB := hs_ hb; (try clear hb)) | ((with_reducible refine gate_dst (N := 8) rfl ?_); refine box_event ?hg (N := 8) ?hd (cs := #[.int .i64 0, .int .i64 0, .int .u64 0]) (t := 82) ?hr ?_; (case hd => rfl); (case hg => rfl); (case hr => first | (go_simp; done) | (go_simp; rfl)); intro gb131 hg w14 hbox hb; have BK131 := A0_ (hbox); have GW131 := A0_ ((by rw [hg]; exact (below_size (qm_ HB.out)) : w.heap.size ≤ gb131)); have GE131 := GW131; replace HB := hs_ hb; clear hb hbox hg; have hcz15 := bc3_ BK131.out; have hfz15 := bf3_ BK131.out) | ((with_reducible refine gate_value rfl ?_); refine goesV_ (some 21) rfl rfl FV2.out.1 FV2.out.2.1 FV2.out.2.2.1 [.agg #[.int .i64 t127, .int .i64 t128, .int .u64 t129]] fc2 rfl rfl (by (try simp only [List.map_toArray, List.map_cons, List.map_nil]); first | done | rfl) ?_; (refine (FV2.out.2.2.2 t127 t128 t129 t132 _ qz_ A6.out).mono ?_); rintro e w16 ⟨rfl, hb⟩; refine ⟨_, rfl, ?_⟩; replace BK131 := A0_ (blk_below (g := gb131) (o := .cells #[.int .i64 t127, .int .i64 t128, .int .u64 t129] 82 (0, 0)) (by (with_reducible repeat first | apply bN_ | apply bD_ | apply bA_); refine blk_put (cs := #[.int .i64 t127, .int .i64 t128, .int .u64 0]) ?_ 2 _ rfl; refine blk_put (cs := #[.int .i64 t127, .int .i64 0, .int .u64 0]) ?_ 1 _ rfl; refine blk_put (cs := #[.int .i64 0, .int .i64 0, .int .u64 0]) ?_ 0 _ rfl; exact bm_ BK131.out) hb); replace HB := hs_ hb; (try clear hb)))
   go_ret2
   exact ⟨by first | rfl | (simp [errW_none, errW_some] <;> rfl) | (simp [*, errW_none, errW_some] <;> rfl), qz_⟩
 ·rw [if_neg c5] at H
  have c5b0 : (t130 == 0) = false := beq_eq_false_iff_ne.mpr c5
  have c5b1 : (t130 != 0) = true := bne_iff_ne.mpr c5
  simp only [Option.some.injEq, Prod.mk.injEq] at H
  obtain ⟨rfl, rfl⟩ := H
  go_enter Try.func36, Try.ntmps36
  go_wp2_with (first | ((with_reducible refine gate_callee (f := 53) rfl ?_); refine goesL_ (some 13) rfl rfl Try.func53 (by kernel_rfl) rfl #[.int .u8 a0, .slice none 0 0] rfl (am_ rfl) ?_; (refine (word_open.calls k a0 _ _ ([] : List Int) t127 t128 t129 t130 _ ?side1 ?side2 A4.out).mono ?_); (case side1 => exact Kd.C_nil _ _); (case side2 => exact Nat.le_refl _); rintro e w17 ⟨rfl, hb⟩; refine ⟨_, rfl, ?_⟩; replace HB := hs_ hb; (try clear hb)) | ((with_reducible refine gate_dst (N := 8) rfl ?_); refine box_event ?hg (N := 8) ?hd (cs := #[.int .i64 0, .int .i64 0, .int .u64 0]) (t := 82) ?hr ?_; (case hd => rfl); (case hg => rfl); (case hr => first | (go_simp; done) | (go_simp; rfl)); intro gb131 hg w18 hbox hb; have BK131 := A0_ (hbox); have GW131 := A0_ ((by rw [hg]; exact (below_size (qm_ HB.out)) : w.heap.size ≤ gb131)); have GE131 := GW131; replace HB := hs_ hb; clear hb hbox hg; have hcz19 := bc3_ BK131.out; have hfz19 := bf3_ BK131.out))
  go_ret2
  exact ⟨by first | rfl | (simp [errW_none, errW_some] <;> rfl) | (simp [*, errW_none, errW_some] <;> rfl), qz_⟩
def word_Inf.f (k : Nat) (a0 : Int) (a1 : Bool) : Option (Int × Int) := (word_named.f k a0 a1 (word_shape_inf.f)).bind fun bt133 => (some (bt133.1, bt133.2))
theorem word_Inf.mono : ∀ a0 a1 k, LeO (word_Inf.f k a0 a1) (word_Inf.f (k + 1) a0 a1) := by
 intro a0 a1 k
 unfold word_Inf.f
 repeat' first
   | (with_reducible exact word_named.mono _ _ _ _)
   | (with_reducible exact LeO.refl _)
   | (with_reducible exact LeO.none _)
   | (with_reducible refine LeO.ite ?_ ?_)
   | (with_reducible refine LeO.bind ?_ (fun _ => ?_))
   | exact word_named.mono _ _ _ _
   | exact LeO.none _
   | refine LeO.ite ?_ ?_
   | refine LeO.bind ?_ (fun _ => ?_)
theorem word_Inf.calls (k : Nat) (a0 : Int) (a1 : Bool) (r1 : Int) (r2 : Int) (w : World) (h : word_Inf.f k a0 a1 = some (r1, r2)) :
  Calls Try.prog 17 #[.int .u8 a0, .bool a1] w fun e w' => e = .returned (.tuple #[.int .u64 r1, .int .i64 r2]) ∧ Below w.heap.size w w' := by
 have HB := A0_ (Below.refl w.heap.size w)
 have H := h
 clear h
 unfold word_Inf.f at H
 obtain ⟨⟨t133, t134⟩, A3, H⟩ := bs_ H
 try dsimp -simprocs only at H
 simp only [Option.some.injEq, Prod.mk.injEq] at H
 obtain ⟨rfl, rfl⟩ := H
 go_enter Try.func17, Try.ntmps17
 go_wp2_with (first | ((with_reducible refine gate_callee (f := 36) rfl ?_); refine goesL_ (some 8) rfl rfl Try.func36 (by kernel_rfl) rfl #[.int .u8 a0, .bool a1, .func (.func 37) #[] #[]] rfl (am_ rfl) ?_; (refine (word_named.calls (fg2 := 37) (fn2 := Try.f37) (fc2 := []) (FV2 := A0_ ⟨Try.func37, by kernel_rfl, rfl, fun s0_ s1_ s2_ q0_ w_ hbw_ hh_ => word_shape_inf.calls s0_ s1_ s2_ q0_ w_ hh_⟩) k a0 a1 (word_shape_inf.f) t133 t134 _ A3.out).mono ?_); rintro e w4 ⟨rfl, hb⟩; refine ⟨_, rfl, ?_⟩; replace HB := hs_ hb; (try clear hb)))
 go_ret2
 exact ⟨by first | rfl | (simp [errW_none, errW_some] <;> rfl) | (simp [*, errW_none, errW_some] <;> rfl), qm_ HB.out⟩
def nat_May.f (l0 : List Int) : Option (Bool) := if (l0.length : Int) ≤ 4096 then (if (l0.length : Int) = 0 then (some true) else (if 0 ≤ (wrap64 ((l0.length : Int) - 1)) then (if (wrap64 ((l0.length : Int) - 1)) < (l0.length : Int) then (some ((rd l0 (wrap64 ((l0.length : Int) - 1))) != 0)) else (none)) else (none))) else (some false)
theorem nat_May.calls (A0 : Option Addr) (c0 : Nat) (l0 : List Int) (r : Bool) (w : World) (hr0 : Kd.C (Kd.int .u32) w A0 l0.length l0) (hc0 : l0.length ≤ c0) (h : nat_May.f l0 = some r) :
  Calls Try.prog 80 #[.slice A0 l0.length c0] w fun e w' => e = .returned (.bool r) ∧ Drawn0 w w' := by
 have HR0 := A0_ hr0
 have HC0 := A0_ hc0
 clear hr0 hc0
 have H := h
 clear h
 unfold nat_May.f at H
 by_cases c2 : (l0.length : Int) ≤ 4096
 ·rw [if_pos c2] at H
  have c2b0 : decide ((l0.length : Int) ≤ 4096) = true := decide_eq_true c2
  have c2b1 : decide (l0.length ≤ 4096) = true := decide_eq_true (by omega)
  clear c2
  by_cases c3 : (l0.length : Int) = 0
  ·rw [if_pos c3] at H
   have c3b0 : ((l0.length : Int) == 0) = true := beq_iff_eq.mpr c3
   have c3b1 : ((l0.length : Int) != 0) = false := bne_eq_false_iff_eq.mpr c3
   clear c3
   obtain rfl := Option.some.inj H
   go_enter Try.func80, Try.ntmps80
   go_wp2
   go_ret
   exact ⟨by first | rfl | (simp; done) | (simp [*]; done), by repeat (first | exact Drawn0.refl _ | apply Drawn0.step)⟩
  ·rw [if_neg c3] at H
   have c3b0 : ((l0.length : Int) == 0) = false := beq_eq_false_iff_ne.mpr c3
   have c3b1 : ((l0.length : Int) != 0) = true := bne_iff_ne.mpr c3
   have c3b2 : ¬ (l0 = []) := fun h_ => c3 (by rw [h_]; rfl)
   obtain ⟨ji4, hji4⟩ : ∃ j_ : Int, (wrap64 ((l0.length : Int) - 1)) = j_ := ⟨_, rfl⟩
   replace H : (if 0 ≤ (ji4) then (if (ji4) < (l0.length : Int) then (some ((rd l0 (ji4)) != 0)) else (none)) else (none)) = some r := by first | (rw [hji4] at H; exact H) | (simp only [hji4] at H ⊢; exact H)
   have hji4w : (IntKind.i64.wrap ((l0.length : Int) - 1)) = ji4 := (i64_w _).trans hji4
   obtain ⟨c5, H⟩ := ic_ H
   have c5b0 : decide (0 ≤ (ji4)) = true := decide_eq_true c5
   clear c5
   obtain ⟨c6, H⟩ := ic_ H
   have c6b0 : decide ((ji4) < (l0.length : Int)) = true := decide_eq_true c6
   clear c6
   obtain rfl := Option.some.inj H
   have p135 : 0 ≤ ((ji4) : Int) := of_decide_eq_true (by first | (with_reducible assumption) | assumption)
   have q135 : (ji4) < (l0.length : Int) := of_decide_eq_true (by first | (with_reducible assumption) | assumption)
   obtain ⟨ad135, e135, hx135_0⟩ := Kd.at_int HR0.out (ji4) p135 q135
   cases e135
   replace p135 := eq_true p135
   replace q135 := eq_true q135
   go_enter Try.func80, Try.ntmps80
   go_wp2
   go_ret
   exact ⟨by first | rfl | (simp; done) | (simp only [← hji4] <;> (first | rfl | simp)) | (simp [*]; done), by repeat (first | exact Drawn0.refl _ | apply Drawn0.step)⟩
 ·rw [if_neg c2] at H
  have c2b0 : decide ((l0.length : Int) ≤ 4096) = false := decide_eq_false c2
  have c2b1 : decide (l0.length ≤ 4096) = false := decide_eq_false (by omega)
  clear c2
  obtain rfl := Option.some.inj H
  go_enter Try.func80, Try.ntmps80
  go_wp2
  go_ret
  exact ⟨by first | rfl | (simp; done) | (simp [*]; done), by repeat (first | exact Drawn0.refl _ | apply Drawn0.step)⟩
def dyad_inside.f (a0 : Int) : Option (Bool) := if (-16777216) ≤ a0 then (some (decide (a0 ≤ 16777216))) else (some false)
theorem dyad_inside.calls (a0 : Int) (r : Bool) (w : World) (h : dyad_inside.f a0 = some r) :
  Calls Try.prog 81 #[.int .i64 a0] w fun e w' => e = .returned (.bool r) ∧ Drawn0 w w' := by
 have H := h
 clear h
 unfold dyad_inside.f at H
 by_cases c2 : (-16777216) ≤ a0
 ·rw [if_pos c2] at H
  have c2b0 : decide ((-16777216) ≤ a0) = true := decide_eq_true c2
  clear c2
  obtain rfl := Option.some.inj H
  go_enter Try.func81, Try.ntmps81
  go_wp2
  go_ret
  exact ⟨by first | rfl | (simp; done) | (simp [*]; done), by repeat (first | exact Drawn0.refl _ | apply Drawn0.step)⟩
 ·rw [if_neg c2] at H
  have c2b0 : decide ((-16777216) ≤ a0) = false := decide_eq_false c2
  clear c2
  obtain rfl := Option.some.inj H
  go_enter Try.func81, Try.ntmps81
  go_wp2
  go_ret
  exact ⟨by first | rfl | (simp; done) | (simp [*]; done), by repeat (first | exact Drawn0.refl _ | apply Drawn0.step)⟩
def dyad_May.f (a0_0 : Bool) (l0_1 : List Int) (a0_2 : Int) : Option (Bool) := (nat_May.f l0_1).bind fun t137 => (if t137 = true then (if (l0_1.length : Int) = 0 then (if a0_0 = true then (some false) else (some (a0_2 == 0))) else (if 0 < (l0_1.length : Int) then (if (Go.bits .and .u32 (rd l0_1 0) 1) = 1 then ((dyad_inside.f a0_2).bind fun t139 => (some t139)) else (some false)) else (none))) else (some false))
theorem dyad_May.calls (a0_0 : Bool) (A0_1 : Option Addr) (c0_1 : Nat) (l0_1 : List Int) (a0_2 : Int) (r : Bool) (w : World) (hr0_1 : Kd.C (Kd.int .u32) w A0_1 l0_1.length l0_1) (hc0_1 : l0_1.length ≤ c0_1) (h : dyad_May.f a0_0 l0_1 a0_2 = some r) :
  Calls Try.prog 54 #[.agg #[.bool a0_0, .slice A0_1 l0_1.length c0_1, .int .i64 a0_2]] w fun e w' => e = .returned (.bool r) ∧ Below w.heap.size w w' := by
 have hu69 := Try.underlying69
 have HR0_1 := A0_ hr0_1
 have HC0_1 := A0_ hc0_1
 clear hr0_1 hc0_1
 have HB := A0_ (Below.refl w.heap.size w)
 have H := h
 clear h
 unfold dyad_May.f at H
 obtain ⟨t137, A2, H⟩ := bs_ H
 try dsimp -simprocs only at H
 by_cases c3 : t137 = true
 ·subst c3
  rw [if_pos rfl] at H
  by_cases c4 : (l0_1.length : Int) = 0
  ·rw [if_pos c4] at H
   have c4b0 : ((l0_1.length : Int) == 0) = true := beq_iff_eq.mpr c4
   have c4b1 : ((l0_1.length : Int) != 0) = false := bne_eq_false_iff_eq.mpr c4
   clear c4
   by_cases c5 : a0_0 = true
   ·subst c5
    rw [if_pos rfl] at H
    obtain rfl := Option.some.inj H
    go_enter Try.func54, Try.ntmps54
    go_wp2_with (first | ((with_reducible refine gate_dst (N := 1) rfl ?_); refine box_event ?hg (N := 1) ?hd (cs := #[.bool true, .slice A0_1 l0_1.length c0_1, .int .i64 a0_2]) (t := 69) ?hr ?_; (case hd => rfl); (case hg => rfl); (case hr => first | (go_simp; done) | (go_simp; rfl)); intro gb136 hg w6 hbox hb; have BK136 := A0_ (hbox); have GW136 := A0_ ((by rw [hg]; exact (below_size (qm_ HB.out)) : w.heap.size ≤ gb136)); have GE136 := GW136; replace HB := hs_ hb; clear hb hbox hg; have hcz7 := bc3_ BK136.out; have hfz7 := bf3_ BK136.out) | ((with_reducible refine gate_callee (f := 80) rfl ?_); refine goesL_ (some 5) rfl rfl Try.func80 (by kernel_rfl) rfl #[.slice A0_1 l0_1.length c0_1] rfl (am_ rfl) ?_; (with_reducible refine (nat_May.calls _ _ l0_1 true _ ?side1 ?side2 A2.out).mono ?_); (case side1 => repeat (first | exact (Kd.C_below HR0_1.out HB.out) | (with_reducible refine Kd.C_alloc ?_ _) | (with_reducible refine Kd.C_drewN ?_ _) | (with_reducible refine Kd.C_drew ?_))); (case side2 => exact HC0_1.out); rintro e w' ⟨rfl, ⟨nd, rfl⟩⟩; refine ⟨_, rfl, ?_⟩))
    go_ret
    exact ⟨by first | rfl | (simp [errW_none, errW_some] <;> rfl) | (simp [*, errW_none, errW_some] <;> rfl), qz_⟩
   ·replace c5 := Bool.eq_false_iff.mpr c5
    subst c5
    rw [if_neg (show ¬ (false = true) by decide)] at H
    obtain rfl := Option.some.inj H
    go_enter Try.func54, Try.ntmps54
    go_wp2_with (first | ((with_reducible refine gate_dst (N := 1) rfl ?_); refine box_event ?hg (N := 1) ?hd (cs := #[.bool false, .slice A0_1 l0_1.length c0_1, .int .i64 a0_2]) (t := 69) ?hr ?_; (case hd => rfl); (case hg => rfl); (case hr => first | (go_simp; done) | (go_simp; rfl)); intro gb136 hg w8 hbox hb; have BK136 := A0_ (hbox); have GW136 := A0_ ((by rw [hg]; exact (below_size (qm_ HB.out)) : w.heap.size ≤ gb136)); have GE136 := GW136; replace HB := hs_ hb; clear hb hbox hg; have hcz9 := bc3_ BK136.out; have hfz9 := bf3_ BK136.out) | ((with_reducible refine gate_callee (f := 80) rfl ?_); refine goesL_ (some 5) rfl rfl Try.func80 (by kernel_rfl) rfl #[.slice A0_1 l0_1.length c0_1] rfl (am_ rfl) ?_; (with_reducible refine (nat_May.calls _ _ l0_1 true _ ?side1 ?side2 A2.out).mono ?_); (case side1 => repeat (first | exact (Kd.C_below HR0_1.out HB.out) | (with_reducible refine Kd.C_alloc ?_ _) | (with_reducible refine Kd.C_drewN ?_ _) | (with_reducible refine Kd.C_drew ?_))); (case side2 => exact HC0_1.out); rintro e w' ⟨rfl, ⟨nd, rfl⟩⟩; refine ⟨_, rfl, ?_⟩))
    go_ret
    exact ⟨by first | rfl | (simp [errW_none, errW_some] <;> rfl) | (simp [*, errW_none, errW_some] <;> rfl), qz_⟩
  ·rw [if_neg c4] at H
   have c4b0 : ((l0_1.length : Int) == 0) = false := beq_eq_false_iff_ne.mpr c4
   have c4b1 : ((l0_1.length : Int) != 0) = true := bne_iff_ne.mpr c4
   have c4b2 : ¬ (l0_1 = []) := fun h_ => c4 (by rw [h_]; rfl)
   obtain ⟨(c10 : 0 < (l0_1.length : Int)), H⟩ := ic_ H
   have c10b0 : decide (0 < (l0_1.length : Int)) = true := decide_eq_true c10
   have c10b1 : decide (0 < l0_1.length) = true := decide_eq_true (by omega)
   clear c10
   by_cases c11 : (Go.bits .and .u32 (rd l0_1 0) 1) = 1
   ·rw [if_pos c11] at H
    have c11b0 : ((Go.bits .and .u32 (rd l0_1 0) 1) == 1) = true := beq_iff_eq.mpr c11
    have c11b1 : ((Go.bits .and .u32 (rd l0_1 0) 1) != 1) = false := bne_eq_false_iff_eq.mpr c11
    clear c11
    obtain ⟨t139, A12, H⟩ := bs_ H
    try dsimp -simprocs only at H
    obtain rfl := Option.some.inj H
    go_enter Try.func54, Try.ntmps54
    go_wp2_with (first | ((with_reducible refine gate_dst (N := 1) rfl ?_); refine box_event ?hg (N := 1) ?hd (cs := #[.bool a0_0, .slice A0_1 l0_1.length c0_1, .int .i64 a0_2]) (t := 69) ?hr ?_; (case hd => rfl); (case hg => rfl); (case hr => first | (go_simp; done) | (go_simp; rfl)); intro gb136 hg w13 hbox hb; have BK136 := A0_ (hbox); have GW136 := A0_ ((by rw [hg]; exact (below_size (qm_ HB.out)) : w.heap.size ≤ gb136)); have GE136 := GW136; replace HB := hs_ hb; clear hb hbox hg; have hcz14 := bc3_ BK136.out; have hfz14 := bf3_ BK136.out) | ((with_reducible refine gate_callee (f := 80) rfl ?_); refine goesL_ (some 5) rfl rfl Try.func80 (by kernel_rfl) rfl #[.slice A0_1 l0_1.length c0_1] rfl (am_ rfl) ?_; (with_reducible refine (nat_May.calls _ _ l0_1 true _ ?side1 ?side2 A2.out).mono ?_); (case side1 => repeat (first | exact (Kd.C_below HR0_1.out HB.out) | (with_reducible refine Kd.C_alloc ?_ _) | (with_reducible refine Kd.C_drewN ?_ _) | (with_reducible refine Kd.C_drew ?_))); (case side2 => exact HC0_1.out); rintro e w' ⟨rfl, ⟨nd, rfl⟩⟩; refine ⟨_, rfl, ?_⟩; have p138 : 0 ≤ (0 : Int) := (by omega); have q138 : 0 < (l0_1.length : Int) := of_decide_eq_true (by first | (with_reducible assumption) | assumption); obtain ⟨ad138, e138, hx138_0⟩ := Kd.at_int HR0_1.out 0 p138 q138; cases e138; have qi138 : (0 < l0_1.length) = True := eq_true (by omega); (try rw [show ((0 : Int)).toNat = 0 from rfl] at hx138_0); (try rw [Addr.add_zero'] at hx138_0); replace hx138_0 := (HB.out.cell (World.block_lt_of_cell? w _ hx138_0)).trans hx138_0; replace p138 := eq_true p138; replace q138 := eq_true q138) | (go_at_call 81; (with_reducible refine (dyad_inside.calls a0_2 t139 _ A12.out).mono ?_); rintro e w' ⟨rfl, ⟨nd, rfl⟩⟩))
    go_ret
    exact ⟨by first | rfl | (simp [errW_none, errW_some] <;> rfl) | (simp [*, errW_none, errW_some] <;> rfl), qz_⟩
   ·rw [if_neg c11] at H
    have c11b0 : ((Go.bits .and .u32 (rd l0_1 0) 1) == 1) = false := beq_eq_false_iff_ne.mpr c11
    have c11b1 : ((Go.bits .and .u32 (rd l0_1 0) 1) != 1) = true := bne_iff_ne.mpr c11
    obtain rfl := Option.some.inj H
    go_enter Try.func54, Try.ntmps54
    go_wp2_with (first | ((with_reducible refine gate_dst (N := 1) rfl ?_); refine box_event ?hg (N := 1) ?hd (cs := #[.bool a0_0, .slice A0_1 l0_1.length c0_1, .int .i64 a0_2]) (t := 69) ?hr ?_; (case hd => rfl); (case hg => rfl); (case hr => first | (go_simp; done) | (go_simp; rfl)); intro gb136 hg w15 hbox hb; have BK136 := A0_ (hbox); have GW136 := A0_ ((by rw [hg]; exact (below_size (qm_ HB.out)) : w.heap.size ≤ gb136)); have GE136 := GW136; replace HB := hs_ hb; clear hb hbox hg; have hcz16 := bc3_ BK136.out; have hfz16 := bf3_ BK136.out) | ((with_reducible refine gate_callee (f := 80) rfl ?_); refine goesL_ (some 5) rfl rfl Try.func80 (by kernel_rfl) rfl #[.slice A0_1 l0_1.length c0_1] rfl (am_ rfl) ?_; (with_reducible refine (nat_May.calls _ _ l0_1 true _ ?side1 ?side2 A2.out).mono ?_); (case side1 => repeat (first | exact (Kd.C_below HR0_1.out HB.out) | (with_reducible refine Kd.C_alloc ?_ _) | (with_reducible refine Kd.C_drewN ?_ _) | (with_reducible refine Kd.C_drew ?_))); (case side2 => exact HC0_1.out); rintro e w' ⟨rfl, ⟨nd, rfl⟩⟩; refine ⟨_, rfl, ?_⟩; have p138 : 0 ≤ (0 : Int) := (by omega); have q138 : 0 < (l0_1.length : Int) := of_decide_eq_true (by first | (with_reducible assumption) | assumption); obtain ⟨ad138, e138, hx138_0⟩ := Kd.at_int HR0_1.out 0 p138 q138; cases e138; have qi138 : (0 < l0_1.length) = True := eq_true (by omega); (try rw [show ((0 : Int)).toNat = 0 from rfl] at hx138_0); (try rw [Addr.add_zero'] at hx138_0); replace hx138_0 := (HB.out.cell (World.block_lt_of_cell? w _ hx138_0)).trans hx138_0; replace p138 := eq_true p138; replace q138 := eq_true q138))
    go_ret
    exact ⟨by first | rfl | (simp [errW_none, errW_some] <;> rfl) | (simp [*, errW_none, errW_some] <;> rfl), qz_⟩
 ·replace c3 := Bool.eq_false_iff.mpr c3
  subst c3
  rw [if_neg (show ¬ (false = true) by decide)] at H
  obtain rfl := Option.some.inj H
  go_enter Try.func54, Try.ntmps54
  go_wp2_with (first | ((with_reducible refine gate_dst (N := 1) rfl ?_); refine box_event ?hg (N := 1) ?hd (cs := #[.bool a0_0, .slice A0_1 l0_1.length c0_1, .int .i64 a0_2]) (t := 69) ?hr ?_; (case hd => rfl); (case hg => rfl); (case hr => first | (go_simp; done) | (go_simp; rfl)); intro gb136 hg w17 hbox hb; have BK136 := A0_ (hbox); have GW136 := A0_ ((by rw [hg]; exact (below_size (qm_ HB.out)) : w.heap.size ≤ gb136)); have GE136 := GW136; replace HB := hs_ hb; clear hb hbox hg; have hcz18 := bc3_ BK136.out; have hfz18 := bf3_ BK136.out) | ((with_reducible refine gate_callee (f := 80) rfl ?_); refine goesL_ (some 5) rfl rfl Try.func80 (by kernel_rfl) rfl #[.slice A0_1 l0_1.length c0_1] rfl (am_ rfl) ?_; (with_reducible refine (nat_May.calls _ _ l0_1 false _ ?side1 ?side2 A2.out).mono ?_); (case side1 => repeat (first | exact (Kd.C_below HR0_1.out HB.out) | (with_reducible refine Kd.C_alloc ?_ _) | (with_reducible refine Kd.C_drewN ?_ _) | (with_reducible refine Kd.C_drew ?_))); (case side2 => exact HC0_1.out); rintro e w' ⟨rfl, ⟨nd, rfl⟩⟩; refine ⟨_, rfl, ?_⟩))
  go_ret
  exact ⟨by first | rfl | (simp [errW_none, errW_some] <;> rfl) | (simp [*, errW_none, errW_some] <;> rfl), qz_⟩
end Go.Proofs.Ytlgapmhjaaajfaa.PA
end

section
namespace Go.Proofs.Ytlgapmhjaaajfaa.PA
open Go.RowKit Go.Proofs.YtlgapmhjaaajfaaW.PrintWords Go.Proofs.YtlgapmhjaaajfaaW.PrintLast Go.Proofs.YtlgapmhjaaajfaaW.PrintMore
attribute [local go_sem] max2_int min2_int max_two min_two max_three min_three max_four min_four   -- for this text's walks alone
set_option linter.unusedVariables false
set_option linter.unusedSimpArgs false
def word_shape_class.f (a0_0 : Int) (a0_1 : Int) (a0_2 : Int) (a1 : Int) : Option (Int) := if (Go.bits .andNot .u64 a1 a0_2) = 0 then (some 1) else (if 0 ≤ a0_0 then (if (Go.bits .andNot .u64 a1 a0_2) < (shl .u64 1 a0_0) then (some 2) else ((word_shape_inf.f a0_0 a0_1 a0_2).bind fun t111 => (if (Go.bits .andNot .u64 a1 a0_2) < t111 then (some 3) else ((word_shape_inf.f a0_0 a0_1 a0_2).bind fun t112 => (if (Go.bits .andNot .u64 a1 a0_2) = t112 then (some 4) else (some 5)))))) else (none))
theorem word_shape_class.calls (a0_0 : Int) (a0_1 : Int) (a0_2 : Int) (a1 : Int) (r : Int) (w : World) (h : word_shape_class.f a0_0 a0_1 a0_2 a1 = some r) :
  Calls Try.prog 78 #[.agg #[.int .i64 a0_0, .int .i64 a0_1, .int .u64 a0_2], .int .u64 a1] w fun e w' => e = .returned (.int .u8 r) ∧ Below w.heap.size w w' := by
 have hu82 := Try.underlying82
 have HB := A0_ (Below.refl w.heap.size w)
 have H := h
 clear h
 unfold word_shape_class.f at H
 by_cases c3 : (Go.bits .andNot .u64 a1 a0_2) = 0
 ·rw [if_pos c3] at H
  have c3b0 : ((Go.bits .andNot .u64 a1 a0_2) == 0) = true := beq_iff_eq.mpr c3
  have c3b1 : ((Go.bits .andNot .u64 a1 a0_2) != 0) = false := bne_eq_false_iff_eq.mpr c3
  clear c3
  obtain rfl := Option.some.inj H
  go_enter Try.func78, Try.ntmps78
  go_wp2_with (first | ((with_reducible refine gate_dst (N := 2) rfl ?_); refine box_event ?hg (N := 2) ?hd (cs := #[.int .i64 a0_0, .int .i64 a0_1, .int .u64 a0_2]) (t := 82) ?hr ?_; (case hd => rfl); (case hg => rfl); (case hr => first | (go_simp; done) | (go_simp; rfl)); intro gb110 hg w4 hbox hb; have BK110 := A0_ (hbox); have GW110 := A0_ ((by rw [hg]; exact (below_size (qm_ HB.out)) : w.heap.size ≤ gb110)); have GE110 := GW110; replace HB := hs_ hb; clear hb hbox hg; have hcz5 := bc3_ BK110.out; have hfz5 := bf3_ BK110.out))
  go_ret
  exact ⟨by first | rfl | (simp [errW_none, errW_some] <;> rfl) | (simp [*, errW_none, errW_some] <;> rfl), qz_⟩
 ·rw [if_neg c3] at H
  have c3b0 : ((Go.bits .andNot .u64 a1 a0_2) == 0) = false := beq_eq_false_iff_ne.mpr c3
  have c3b1 : ((Go.bits .andNot .u64 a1 a0_2) != 0) = true := bne_iff_ne.mpr c3
  obtain ⟨c6, H⟩ := ic_ H
  have c6b0 := eq_true c6
  have c6b1 : decide (0 ≤ a0_0) = true := decide_eq_true c6
  clear c6
  obtain ⟨ji7, hji7⟩ : ∃ j_ : Int, (shl .u64 1 a0_0) = j_ := ⟨_, rfl⟩
  replace H : (if (Go.bits .andNot .u64 a1 a0_2) < (ji7) then (some 2) else ((word_shape_inf.f a0_0 a0_1 a0_2).bind fun t111 => (if (Go.bits .andNot .u64 a1 a0_2) < t111 then (some 3) else ((word_shape_inf.f a0_0 a0_1 a0_2).bind fun t112 => (if (Go.bits .andNot .u64 a1 a0_2) = t112 then (some 4) else (some 5)))))) = some r := by first | (rw [hji7] at H; exact H) | (simp only [hji7] at H ⊢; exact H)
  have hji7_ : (IntKind.u64.wrap (1 * 2 ^ min a0_0.toNat 64)) = ji7 := hji7
  have hji7z : a0_0 ≤ 64 → (IntKind.u64.wrap (1 * 2 ^ a0_0.toNat)) = ji7 := shl_small hji7
  have hji7u : (IntKind.u64.wrap (2 ^ min a0_0.toNat 64)) = ji7 := by have h_ := hji7_; rw [Int.one_mul] at h_; exact h_
  have hji7v : a0_0 ≤ 64 → (IntKind.u64.wrap (2 ^ a0_0.toNat)) = ji7 := fun hle_ => by have h_ := hji7z hle_; rw [Int.one_mul] at h_; exact h_
  by_cases c8 : (Go.bits .andNot .u64 a1 a0_2) < (ji7)
  ·rw [if_pos c8] at H
   have c8b0 : decide ((Go.bits .andNot .u64 a1 a0_2) < (ji7)) = true := decide_eq_true c8
   clear c8
   obtain rfl := Option.some.inj H
   go_enter Try.func78, Try.ntmps78
   go_wp2_with (first | ((with_reducible refine gate_dst (N := 2) rfl ?_); refine box_event ?hg (N := 2) ?hd (cs := #[.int .i64 a0_0, .int .i64 a0_1, .int .u64 a0_2]) (t := 82) ?hr ?_; (case hd => rfl); (case hg => rfl); (case hr => first | (go_simp; done) | (go_simp; rfl)); intro gb110 hg w9 hbox hb; have BK110 := A0_ (hbox); have GW110 := A0_ ((by rw [hg]; exact (below_size (qm_ HB.out)) : w.heap.size ≤ gb110)); have GE110 := GW110; replace HB := hs_ hb; clear hb hbox hg; have hcz10 := bc3_ BK110.out; have hfz10 := bf3_ BK110.out))
   go_ret
   exact ⟨by first | rfl | (simp [errW_none, errW_some] <;> rfl) | (simp only [← hji7]; first | rfl | (simp [errW_none, errW_some] <;> rfl)) | (simp [*, errW_none, errW_some] <;> rfl), qz_⟩
  ·rw [if_neg c8] at H
   have c8b0 : decide ((Go.bits .andNot .u64 a1 a0_2) < (ji7)) = false := decide_eq_false c8
   clear c8
   obtain ⟨t111, A11, H⟩ := bs_ H
   try dsimp -simprocs only at H
   by_cases c12 : (Go.bits .andNot .u64 a1 a0_2) < t111
   ·rw [if_pos c12] at H
    have c12b0 : decide ((Go.bits .andNot .u64 a1 a0_2) < t111) = true := decide_eq_true c12
    clear c12
    obtain rfl := Option.some.inj H
    go_enter Try.func78, Try.ntmps78
    go_wp2_with (first | ((with_reducible refine gate_dst (N := 2) rfl ?_); refine box_event ?hg (N := 2) ?hd (cs := #[.int .i64 a0_0, .int .i64 a0_1, .int .u64 a0_2]) (t := 82) ?hr ?_; (case hd => rfl); (case hg => rfl); (case hr => first | (go_simp; done) | (go_simp; rfl)); intro gb110 hg w13 hbox hb; have BK110 := A0_ (hbox); have GW110 := A0_ ((by rw [hg]; exact (below_size (qm_ HB.out)) : w.heap.size ≤ gb110)); have GE110 := GW110; replace HB := hs_ hb; clear hb hbox hg; have hcz14 := bc3_ BK110.out; have hfz14 := bf3_ BK110.out) | ((with_reducible refine gate_callee (f := 37) rfl ?_); refine goesL_ (some 22) rfl rfl Try.func37 (by kernel_rfl) rfl #[.agg #[.int .i64 a0_0, .int .i64 a0_1, .int .u64 a0_2]] rfl (am_ rfl) ?_; (with_reducible refine (word_shape_inf.calls a0_0 a0_1 a0_2 t111 _ A11.out).mono ?_); rintro e w15 ⟨rfl, hb⟩; refine ⟨_, rfl, ?_⟩; replace BK110 := bb_ BK110 hb; replace HB := hs_ hb; (try clear hb)))
    go_ret
    exact ⟨by first | rfl | (simp [errW_none, errW_some] <;> rfl) | (simp only [← hji7]; first | rfl | (simp [errW_none, errW_some] <;> rfl)) | (simp [*, errW_none, errW_some] <;> rfl), qz_⟩
   ·rw [if_neg c12] at H
    have c12b0 : decide ((Go.bits .andNot .u64 a1 a0_2) < t111) = false := decide_eq_false c12
    clear c12
    obtain ⟨t112, A16, H⟩ := bs_ H
    try dsimp -simprocs only at H
    by_cases c17 : (Go.bits .andNot .u64 a1 a0_2) = t112
    ·rw [if_pos c17] at H
     have c17b0 : ((Go.bits .andNot .u64 a1 a0_2) == t112) = true := beq_iff_eq.mpr c17
     have c17b1 : ((Go.bits .andNot .u64 a1 a0_2) != t112) = false := bne_eq_false_iff_eq.mpr c17
     clear c17
     obtain rfl := Option.some.inj H
     go_enter Try.func78, Try.ntmps78
     go_wp2_with (first | ((with_reducible refine gate_dst (N := 2) rfl ?_); refine box_event ?hg (N := 2) ?hd (cs := #[.int .i64 a0_0, .int .i64 a0_1, .int .u64 a0_2]) (t := 82) ?hr ?_; (case hd => rfl); (case hg => rfl); (case hr => first | (go_simp; done) | (go_simp; rfl)); intro gb110 hg w18 hbox hb; have BK110 := A0_ (hbox); have GW110 := A0_ ((by rw [hg]; exact (below_size (qm_ HB.out)) : w.heap.size ≤ gb110)); have GE110 := GW110; replace HB := hs_ hb; clear hb hbox hg; have hcz19 := bc3_ BK110.out; have hfz19 := bf3_ BK110.out) | ((with_reducible refine gate_callee (f := 37) rfl ?_); refine goesL_ (some 22) rfl rfl Try.func37 (by kernel_rfl) rfl #[.agg #[.int .i64 a0_0, .int .i64 a0_1, .int .u64 a0_2]] rfl (am_ rfl) ?_; (with_reducible refine (word_shape_inf.calls a0_0 a0_1 a0_2 t111 _ A11.out).mono ?_); rintro e w20 ⟨rfl, hb⟩; refine ⟨_, rfl, ?_⟩; replace BK110 := bb_ BK110 hb; replace HB := hs_ hb; (try clear hb); have hcz21 := bc3_ BK110.out; have hfz21 := bf3_ BK110.out) | ((with_reducible refine gate_callee (f := 37) rfl ?_); refine goesL_ (some 27) rfl rfl Try.func37 (by kernel_rfl) rfl #[.agg #[.int .i64 a0_0, .int .i64 a0_1, .int .u64 a0_2]] rfl (am_ rfl) ?_; (with_reducible refine (word_shape_inf.calls a0_0 a0_1 a0_2 t112 _ A16.out).mono ?_); rintro e w22 ⟨rfl, hb⟩; refine ⟨_, rfl, ?_⟩; replace BK110 := bb_ BK110 hb; replace HB := hs_ hb; (try clear hb)))
     go_ret
     exact ⟨by first | rfl | (simp [errW_none, errW_some] <;> rfl) | (simp only [← hji7]; first | rfl | (simp [errW_none, errW_some] <;> rfl)) | (simp [*, errW_none, errW_some] <;> rfl), qz_⟩
    ·rw [if_neg c17] at H
     have c17b0 : ((Go.bits .andNot .u64 a1 a0_2) == t112) = false := beq_eq_false_iff_ne.mpr c17
     have c17b1 : ((Go.bits .andNot .u64 a1 a0_2) != t112) = true := bne_iff_ne.mpr c17
     obtain rfl := Option.some.inj H
     go_enter Try.func78, Try.ntmps78
     go_wp2_with (first | ((with_reducible refine gate_dst (N := 2) rfl ?_); refine box_event ?hg (N := 2) ?hd (cs := #[.int .i64 a0_0, .int .i64 a0_1, .int .u64 a0_2]) (t := 82) ?hr ?_; (case hd => rfl); (case hg => rfl); (case hr => first | (go_simp; done) | (go_simp; rfl)); intro gb110 hg w23 hbox hb; have BK110 := A0_ (hbox); have GW110 := A0_ ((by rw [hg]; exact (below_size (qm_ HB.out)) : w.heap.size ≤ gb110)); have GE110 := GW110; replace HB := hs_ hb; clear hb hbox hg; have hcz24 := bc3_ BK110.out; have hfz24 := bf3_ BK110.out) | ((with_reducible refine gate_callee (f := 37) rfl ?_); refine goesL_ (some 22) rfl rfl Try.func37 (by kernel_rfl) rfl #[.agg #[.int .i64 a0_0, .int .i64 a0_1, .int .u64 a0_2]] rfl (am_ rfl) ?_; (with_reducible refine (word_shape_inf.calls a0_0 a0_1 a0_2 t111 _ A11.out).mono ?_); rintro e w25 ⟨rfl, hb⟩; refine ⟨_, rfl, ?_⟩; replace BK110 := bb_ BK110 hb; replace HB := hs_ hb; (try clear hb); have hcz26 := bc3_ BK110.out; have hfz26 := bf3_ BK110.out) | ((with_reducible refine gate_callee (f := 37) rfl ?_); refine goesL_ (some 27) rfl rfl Try.func37 (by kernel_rfl) rfl #[.agg #[.int .i64 a0_0, .int .i64 a0_1, .int .u64 a0_2]] rfl (am_ rfl) ?_; (with_reducible refine (word_shape_inf.calls a0_0 a0_1 a0_2 t112 _ A16.out).mono ?_); rintro e w27 ⟨rfl, hb⟩; refine ⟨_, rfl, ?_⟩; replace BK110 := bb_ BK110 hb; replace HB := hs_ hb; (try clear hb)))
     go_ret
     exact ⟨by first | rfl | (simp [errW_none, errW_some] <;> rfl) | (simp only [← hji7]; first | rfl | (simp [errW_none, errW_some] <;> rfl)) | (simp [*, errW_none, errW_some] <;> rfl), qz_⟩
def word_Class.f (k : Nat) (a0 : Int) (a1 : Int) : Option (Int × Int) := (word_open.f k a0 (([a1] : List Int))).bind fun bt116 => (if bt116.2.2.2 = 0 then ((word_shape_class.f bt116.1 bt116.2.1 bt116.2.2.1 a1).bind fun t121 => (some (t121, 0))) else (some (0, bt116.2.2.2)))
theorem word_Class.mono : ∀ a0 a1 k, LeO (word_Class.f k a0 a1) (word_Class.f (k + 1) a0 a1) := by
 intro a0 a1 k
 unfold word_Class.f
 repeat' first
   | (with_reducible exact word_open.mono _ _ _)
   | (with_reducible exact LeO.refl _)
   | (with_reducible exact LeO.none _)
   | (with_reducible refine LeO.ite ?_ ?_)
   | (with_reducible refine LeO.bind ?_ (fun _ => ?_))
   | exact word_open.mono _ _ _
   | exact LeO.none _
   | refine LeO.ite ?_ ?_
   | refine LeO.bind ?_ (fun _ => ?_)
theorem word_Class.calls (k : Nat) (a0 : Int) (a1 : Int) (r1 : Int) (r2 : Int) (w : World) (h : word_Class.f k a0 a1 = some (r1, r2)) :
  Calls Try.prog 52 #[.int .u8 a0, .int .u64 a1] w fun e w' => e = .returned (.tuple #[.int .u8 r1, .int .i64 r2]) ∧ Below w.heap.size w w' := by
 have hu82 := Try.underlying82
 have HB := A0_ (Below.refl w.heap.size w)
 have H := h
 clear h
 unfold word_Class.f at H
 obtain ⟨y113, hy113⟩ : ∃ y_ : List Int, y_ = (([a1] : List Int)) := ⟨_, rfl⟩
 replace H : ((word_open.f k a0 y113).bind fun bt116 => (if bt116.2.2.2 = 0 then ((word_shape_class.f bt116.1 bt116.2.1 bt116.2.2.1 a1).bind fun t121 => (some (t121, 0))) else (some (0, bt116.2.2.2)))) = some (r1, r2) := by first | (rw [hy113]; with_reducible exact H) | (have H2_ := (Option.bind_some _ _).symm.trans H; rw [hy113]; with_reducible exact H2_) | (have H2_ := (Option.bind_some _ _).symm.trans H; with_reducible exact H2_) | with_reducible exact H | (rw [hy113]; exact H) | exact H
 have Ny113 := A0_ hy113
 clear hy113
 obtain ⟨⟨t116, t117, t118, t119⟩, A3, H⟩ := bs_ H
 try dsimp -simprocs only at H
 by_cases c4 : t119 = 0
 ·rw [if_pos c4] at H
  have c4b0 : (t119 == 0) = true := beq_iff_eq.mpr c4
  have c4b1 : (t119 != 0) = false := bne_eq_false_iff_eq.mpr c4
  clear c4
  obtain ⟨t121, A5, H⟩ := bs_ H
  try dsimp -simprocs only at H
  simp only [Option.some.injEq, Prod.mk.injEq] at H
  obtain ⟨rfl, rfl⟩ := H
  go_enter Try.func52, Try.ntmps52
  go_wp2_with (first | ((with_reducible refine gate_dst (N := 11) rfl ?_); refine Kd.R_lit (Kd.int .u64) _ 24 ?hg (N := 11) ?hd (xs := ([a1] : List Int)) (inner := [.int .u64 a1]) (ok := fun _ => True) (okp := fun _ => True) ?hr ?hp (fun _ hk => hk) trivial (Below.refl _ _) (Nat.le_refl _) (by simp) ?_; (case hd => rfl); (case hg => rfl); (case hr => first | (go_simp; done) | (go_simp; rfl)); (case hp => exact (Reps.one (show Kd.M (Kd.int .u64) _ _ _ a1 [.int .u64 a1] from rfl) (Reps.none _ _))); intro v114 w6 ho7 hb hg_ hnew_; clear hg_ hnew_; (first | rw [← Ny113.out] at ho7 | (simp only [Int.reduceToNat] at ho7; rw [← Ny113.out] at ho7)); have HO115 := A0_ (Kd.R_lower ho7 (below_size (qm_ HB.out))); replace HB := hs_ hb; clear hb ho7; obtain ⟨Ao8, co8, eo8⟩ := Kd.R_slice HO115.out; subst eo8) | ((with_reducible refine gate_callee (f := 53) rfl ?_); refine goesL_ (some 12) rfl rfl Try.func53 (by kernel_rfl) rfl #[.int .u8 a0, .slice Ao8 y113.length co8] rfl (am_ rfl) ?_; (with_reducible refine (word_open.calls k a0 _ _ y113 t116 t117 t118 t119 _ ?side1 ?side2 A3.out).mono ?_); (case side1 => repeat (first | exact (Kd.R_reads' HO115.out).2.2 | (with_reducible refine Kd.C_alloc ?_ _) | (with_reducible refine Kd.C_drewN ?_ _) | (with_reducible refine Kd.C_drew ?_))); (case side2 => exact (Kd.R_reads' HO115.out).2.1); rintro e w9 ⟨rfl, hb⟩; refine ⟨_, rfl, ?_⟩; replace HO115 := A0_ (Kd.R_below (by exact rm_ HO115.out) hb); replace HB := hs_ hb; (try clear hb)) | ((with_reducible refine gate_dst (N := 6) rfl ?_); refine box_event ?hg (N := 6) ?hd (cs := #[.int .i64 0, .int .i64 0, .int .u64 0]) (t := 82) ?hr ?_; (case hd => rfl); (case hg => rfl); (case hr => first | (go_simp; done) | (go_simp; rfl)); intro gb120 hg w10 hbox hb; replace HO115 := A0_ (Kd.R_below (by exact rm_ HO115.out) hb); have BK120 := A0_ (hbox); have GW120 := A0_ ((by rw [hg]; exact (below_size (qm_ HB.out)) : w.heap.size ≤ gb120)); have GE120 := GW120; replace HB := hs_ hb; clear hb hbox hg; have hcz11 := bc3_ BK120.out; have hfz11 := bf3_ BK120.out) | ((with_reducible refine gate_callee (f := 78) rfl ?_); refine goesL_ (some 20) rfl rfl Try.func78 (by kernel_rfl) rfl #[.agg #[.int .i64 t116, .int .i64 t117, .int .u64 t118], .int .u64 a1] rfl (am_ rfl) ?_; (with_reducible refine (word_shape_class.calls t116 t117 t118 a1 t121 _ A5.out).mono ?_); rintro e w12 ⟨rfl, hb⟩; refine ⟨_, rfl, ?_⟩; replace HO115 := A0_ (Kd.R_below (by (with_reducible repeat (first | apply Kd.R_alloc | apply Kd.R_drewN | apply Kd.R_drew)); exact (Kd.R_mono (Kd.R_far (p := ⟨gb120, 2, none⟩) (Kd.R_far (p := ⟨gb120, 1, none⟩) (Kd.R_far (p := ⟨gb120, 0, none⟩) (Kd.R_types HO115.out BK120.out (by decide)) (fun _ hk => hk.2) (.int .i64 t116)) (fun _ hk => hk.2) (.int .i64 t117)) (fun _ hk => hk.2) (.int .u64 t118)) (fun _ h_ => h_.1))) hb); replace BK120 := A0_ (blk_below (g := gb120) (o := .cells #[.int .i64 t116, .int .i64 t117, .int .u64 t118] 82 (0, 0)) (by (with_reducible repeat first | apply bN_ | apply bD_ | apply bA_); refine blk_put (cs := #[.int .i64 t116, .int .i64 t117, .int .u64 0]) ?_ 2 _ rfl; refine blk_put (cs := #[.int .i64 t116, .int .i64 0, .int .u64 0]) ?_ 1 _ rfl; refine blk_put (cs := #[.int .i64 0, .int .i64 0, .int .u64 0]) ?_ 0 _ rfl; exact bm_ BK120.out) hb); replace HB := hs_ hb; (try clear hb)))
  go_ret2
  exact ⟨by first | rfl | (simp [errW_none, errW_some] <;> rfl) | (simp [*, errW_none, errW_some] <;> rfl), qz_⟩
 ·rw [if_neg c4] at H
  have c4b0 : (t119 == 0) = false := beq_eq_false_iff_ne.mpr c4
  have c4b1 : (t119 != 0) = true := bne_iff_ne.mpr c4
  simp only [Option.some.injEq, Prod.mk.injEq] at H
  obtain ⟨rfl, rfl⟩ := H
  go_enter Try.func52, Try.ntmps52
  go_wp2_with (first | ((with_reducible refine gate_dst (N := 11) rfl ?_); refine Kd.R_lit (Kd.int .u64) _ 24 ?hg (N := 11) ?hd (xs := ([a1] : List Int)) (inner := [.int .u64 a1]) (ok := fun _ => True) (okp := fun _ => True) ?hr ?hp (fun _ hk => hk) trivial (Below.refl _ _) (Nat.le_refl _) (by simp) ?_; (case hd => rfl); (case hg => rfl); (case hr => first | (go_simp; done) | (go_simp; rfl)); (case hp => exact (Reps.one (show Kd.M (Kd.int .u64) _ _ _ a1 [.int .u64 a1] from rfl) (Reps.none _ _))); intro v114 w13 ho14 hb hg_ hnew_; clear hg_ hnew_; (first | rw [← Ny113.out] at ho14 | (simp only [Int.reduceToNat] at ho14; rw [← Ny113.out] at ho14)); have HO115 := A0_ (Kd.R_lower ho14 (below_size (qm_ HB.out))); replace HB := hs_ hb; clear hb ho14; obtain ⟨Ao15, co15, eo15⟩ := Kd.R_slice HO115.out; subst eo15) | ((with_reducible refine gate_callee (f := 53) rfl ?_); refine goesL_ (some 12) rfl rfl Try.func53 (by kernel_rfl) rfl #[.int .u8 a0, .slice Ao15 y113.length co15] rfl (am_ rfl) ?_; (with_reducible refine (word_open.calls k a0 _ _ y113 t116 t117 t118 t119 _ ?side1 ?side2 A3.out).mono ?_); (case side1 => repeat (first | exact (Kd.R_reads' HO115.out).2.2 | (with_reducible refine Kd.C_alloc ?_ _) | (with_reducible refine Kd.C_drewN ?_ _) | (with_reducible refine Kd.C_drew ?_))); (case side2 => exact (Kd.R_reads' HO115.out).2.1); rintro e w16 ⟨rfl, hb⟩; refine ⟨_, rfl, ?_⟩; replace HO115 := A0_ (Kd.R_below (by exact rm_ HO115.out) hb); replace HB := hs_ hb; (try clear hb)) | ((with_reducible refine gate_dst (N := 6) rfl ?_); refine box_event ?hg (N := 6) ?hd (cs := #[.int .i64 0, .int .i64 0, .int .u64 0]) (t := 82) ?hr ?_; (case hd => rfl); (case hg => rfl); (case hr => first | (go_simp; done) | (go_simp; rfl)); intro gb120 hg w17 hbox hb; replace HO115 := A0_ (Kd.R_below (by exact rm_ HO115.out) hb); have BK120 := A0_ (hbox); have GW120 := A0_ ((by rw [hg]; exact (below_size (qm_ HB.out)) : w.heap.size ≤ gb120)); have GE120 := GW120; replace HB := hs_ hb; clear hb hbox hg; have hcz18 := bc3_ BK120.out; have hfz18 := bf3_ BK120.out))
  go_ret2
  exact ⟨by first | rfl | (simp [errW_none, errW_some] <;> rfl) | (simp [*, errW_none, errW_some] <;> rfl), qz_⟩
end Go.Proofs.Ytlgapmhjaaajfaa.PA
end

section
namespace Go.Proofs.Ytlgapmhjaaajfaa.PA
open Go.RowKit Go.Proofs.YtlgapmhjaaajfaaW.PrintWords Go.Proofs.YtlgapmhjaaajfaaW.PrintLast Go.Proofs.YtlgapmhjaaajfaaW.PrintMore
attribute [local go_sem] max2_int min2_int max_two min_two max_three min_three max_four min_four   -- for this text's walks alone
set_option linter.unusedVariables false
set_option linter.unusedSimpArgs false
mutual
def pair_Class.j0 : Nat → Int → Int → Bool → Option (Int × Int)
 | 0, _, _, _ => none
 | k + 1, x6, x8, x30 => if x30 = true then (some (3, 0)) else (if x6 = 5 then (pair_Class.j1 k x6 x8 true) else (pair_Class.j1 k x6 x8 (x8 == 5)))
def pair_Class.j1 : Nat → Int → Int → Bool → Option (Int × Int)
 | 0, _, _, _ => none
 | k + 1, x6, x8, x37 => if x37 = true then (some (4, 0)) else (if x6 = 1 then (if x8 = 1 then (some (1, 0)) else (some (2, 0))) else (some (2, 0)))
end
def pair_Class.f (k : Nat) (a0 : Int) (a1_0 : Int) (a1_1 : Int) : Option (Int × Int) := (word_Class.f k a0 a1_0).bind fun bt123 => (if bt123.2 = 0 then ((word_Class.f k a0 a1_1).bind fun bt125 => (if bt125.2 = 0 then (if bt123.1 = 4 then (pair_Class.j0 k bt123.1 bt125.1 true) else (pair_Class.j0 k bt123.1 bt125.1 (bt125.1 == 4))) else (some (0, bt125.2)))) else (some (0, bt123.2)))
theorem pair_Class.mono_l : ∀ k, (∀ y0 y1 y2, LeO (pair_Class.j0 k y0 y1 y2) (pair_Class.j0 (k + 1) y0 y1 y2)) ∧ (∀ y0 y1 y2, LeO (pair_Class.j1 k y0 y1 y2) (pair_Class.j1 (k + 1) y0 y1 y2))
 | 0 => ⟨fun _ _ _ r h => by simp [pair_Class.j0] at h, fun _ _ _ r h => by simp [pair_Class.j1] at h⟩
 | k + 1 => by
  obtain ⟨ih0, ih1⟩ := pair_Class.mono_l k
  refine ⟨?_, ?_⟩
  ·intro y0 y1 y2
   unfold pair_Class.j0
   repeat' first
   | (with_reducible exact ih0 _ _ _)
   | (with_reducible exact ih1 _ _ _)
   | (with_reducible exact word_Class.mono _ _ _)
   | (with_reducible exact LeO.refl _)
   | (with_reducible exact LeO.none _)
   | (with_reducible refine LeO.ite ?_ ?_)
   | (with_reducible refine LeO.bind ?_ (fun _ => ?_))
   | exact ih0 _ _ _
   | exact ih1 _ _ _
   | exact word_Class.mono _ _ _
   | exact LeO.none _
   | refine LeO.ite ?_ ?_
   | refine LeO.bind ?_ (fun _ => ?_)
  ·intro y0 y1 y2
   unfold pair_Class.j1
   repeat' first
   | (with_reducible exact ih0 _ _ _)
   | (with_reducible exact ih1 _ _ _)
   | (with_reducible exact word_Class.mono _ _ _)
   | (with_reducible exact LeO.refl _)
   | (with_reducible exact LeO.none _)
   | (with_reducible refine LeO.ite ?_ ?_)
   | (with_reducible refine LeO.bind ?_ (fun _ => ?_))
   | exact ih0 _ _ _
   | exact ih1 _ _ _
   | exact word_Class.mono _ _ _
   | exact LeO.none _
   | refine LeO.ite ?_ ?_
   | refine LeO.bind ?_ (fun _ => ?_)
theorem pair_Class.mono : ∀ a0 a1 a2 k, LeO (pair_Class.f k a0 a1 a2) (pair_Class.f (k + 1) a0 a1 a2) := by
 intro a0 a1 a2 k
 obtain ⟨ih0, ih1⟩ := pair_Class.mono_l k
 unfold pair_Class.f
 repeat' first
   | (with_reducible exact ih0 _ _ _)
   | (with_reducible exact ih1 _ _ _)
   | (with_reducible exact word_Class.mono _ _ _)
   | (with_reducible exact LeO.refl _)
   | (with_reducible exact LeO.none _)
   | (with_reducible refine LeO.ite ?_ ?_)
   | (with_reducible refine LeO.bind ?_ (fun _ => ?_))
   | exact ih0 _ _ _
   | exact ih1 _ _ _
   | exact word_Class.mono _ _ _
   | exact LeO.none _
   | refine LeO.ite ?_ ?_
   | refine LeO.bind ?_ (fun _ => ?_)
theorem pair_Class.calls (k : Nat) (a0 : Int) (a1_0 : Int) (a1_1 : Int) (r1 : Int) (r2 : Int) (w : World) (h : pair_Class.f k a0 a1_0 a1_1 = some (r1, r2)) :
  Calls Try.prog 27 #[.int .u8 a0, .agg #[.int .u64 a1_0, .int .u64 a1_1]] w fun e w' => e = .returned (.tuple #[.int .u8 r1, .int .i64 r2]) ∧ Below w.heap.size w w' := by
 have hu26 := Try.underlying26
 have HB := A0_ (Below.refl w.heap.size w)
 have H := h
 clear h
 unfold pair_Class.f at H
 obtain ⟨⟨t123, t124⟩, A3, H⟩ := bs_ H
 try dsimp -simprocs only at H
 by_cases c4 : t124 = 0
 ·rw [if_pos c4] at H
  have c4b0 : (t124 == 0) = true := beq_iff_eq.mpr c4
  have c4b1 : (t124 != 0) = false := bne_eq_false_iff_eq.mpr c4
  clear c4
  obtain ⟨⟨t125, t126⟩, A5, H⟩ := bs_ H
  try dsimp -simprocs only at H
  by_cases c6 : t126 = 0
  ·rw [if_pos c6] at H
   have c6b0 : (t126 == 0) = true := beq_iff_eq.mpr c6
   have c6b1 : (t126 != 0) = false := bne_eq_false_iff_eq.mpr c6
   clear c6
   have HC7 := A0_ H
   clear H
   go_enter Try.func27, Try.ntmps27
   go_upto_region 7 with (first | ((with_reducible refine gate_dst (N := 3) rfl ?_); refine box_event ?hg (N := 3) ?hd (cs := #[.int .u64 a1_0, .int .u64 a1_1]) (t := 26) ?hr ?_; (case hd => rfl); (case hg => rfl); (case hr => first | (go_simp; done) | (go_simp; rfl)); intro gb122 hg w8 hbox hb; have BK122 := A0_ (hbox); have GW122 := A0_ ((by rw [hg]; exact (below_size (qm_ HB.out)) : w.heap.size ≤ gb122)); have GE122 := GW122; replace HB := hs_ hb; clear hb hbox hg; have hcz9 := bc2_ BK122.out; have hfz9 := bf2_ BK122.out) | ((with_reducible refine gate_callee (f := 52) rfl ?_); refine goesL_ (some 13) rfl rfl Try.func52 (by kernel_rfl) rfl #[.int .u8 a0, .int .u64 a1_0] rfl (am_ rfl) ?_; (with_reducible refine (word_Class.calls k a0 a1_0 t123 t124 _ A3.out).mono ?_); rintro e w10 ⟨rfl, hb⟩; refine ⟨_, rfl, ?_⟩; replace BK122 := bb_ BK122 hb; replace HB := hs_ hb; (try clear hb); have hcz11 := bc2_ BK122.out; have hfz11 := bf2_ BK122.out) | ((with_reducible refine gate_callee (f := 52) rfl ?_); refine goesL_ (some 23) rfl rfl Try.func52 (by kernel_rfl) rfl #[.int .u8 a0, .int .u64 a1_1] rfl (am_ rfl) ?_; (with_reducible refine (word_Class.calls k a0 a1_1 t125 t126 _ A5.out).mono ?_); rintro e w12 ⟨rfl, hb⟩; refine ⟨_, rfl, ?_⟩; replace BK122 := bb_ BK122 hb; replace HB := hs_ hb; (try clear hb)))
   (try simp only [Act.put, sp_])
   go_cut [30] (fun v30 wc => ∃ (kq : Nat) (x30_6 : Bool), v30 = .bool x30_6 ∧ Aside0 (pair_Class.j0 kq t123 t125 x30_6 = some (r1, r2)) ∧ Aside0 (kq ≤ k) ∧ Aside0 (wc.heap[gb122]? = some (.cells #[.int .u64 a1_0, .int .u64 a1_1] 26 (0, 0))) ∧ Aside0 (Below w.heap.size w wc))
   case first =>
    have H := HC7.out
    clear HC7
    by_cases c13 : t123 = 4
    ·rw [if_pos c13] at H
     have c13b0 : (t123 == 4) = true := beq_iff_eq.mpr c13
     have c13b1 : (t123 != 4) = false := bne_eq_false_iff_eq.mpr c13
     clear c13
     (first | rw [c13b0] | (simp only [i64_w, i32_w]; rw [c13b0]) | skip)
     have H' := A0_ H
     clear H
     go_wp2
     go_meet
     case rel => exact ⟨_, (true), (by first | rfl | (simp; done) | (simp [*]; done)), H', ⟨by first | omega | exact Nat.le_refl _⟩, ⟨bm_ BK122.out⟩, ⟨qz_⟩⟩
    ·rw [if_neg c13] at H
     have c13b0 : (t123 == 4) = false := beq_eq_false_iff_ne.mpr c13
     have c13b1 : (t123 != 4) = true := bne_iff_ne.mpr c13
     (first | rw [c13b0] | (simp only [i64_w, i32_w]; rw [c13b0]) | skip)
     have H' := A0_ H
     clear H
     go_wp2
     go_meet
     case rel => exact ⟨_, ((t125 == 4)), (by first | rfl | (simp; done) | (simp [*]; done)), H', ⟨by first | omega | exact Nat.le_refl _⟩, ⟨bm_ BK122.out⟩, ⟨qz_⟩⟩
   case rest =>
    clear HC7
    try clear c1
    try clear c2
    try clear p2
    try clear c4
    try clear c4b0
    try clear c4b1
    try clear c5
    try clear c6
    try clear c6b0
    try clear c6b1
    try clear c13
    try clear c13b0
    try clear c13b1
    try clear hcz11
    try clear hcz9
    try clear hfz11
    try clear hfz9
    obtain ⟨kq, x30_6, rfl, HA, HJ6, BK122, HB⟩ := hcut
    cases kq with
    | zero => exact absurd HA.out (by simp [pair_Class.j0])
    | succ kj6 =>
     have H := HA.out
     clear HA
     simp only [pair_Class.j0] at H
     by_cases c14 : x30_6 = true
     ·subst c14
      rw [if_pos rfl] at H
      simp only [Option.some.injEq, Prod.mk.injEq] at H
      obtain ⟨rfl, rfl⟩ := H
      go_wp2
      go_ret2
      exact ⟨by first | rfl | (simp [errW_none, errW_some] <;> rfl) | (simp [*, errW_none, errW_some] <;> rfl), qz_⟩
     ·replace c14 := Bool.eq_false_iff.mpr c14
      subst c14
      rw [if_neg (show ¬ (false = true) by decide)] at H
      have HC15 := A0_ H
      clear H
      go_upto_region 9 with (fail)
      go_cut [37] (fun v37 wc => ∃ (kq : Nat) (x37_14 : Bool), v37 = .bool x37_14 ∧ Aside0 (pair_Class.j1 kq t123 t125 x37_14 = some (r1, r2)) ∧ Aside0 (kq ≤ kj6) ∧ Aside0 (wc.heap[gb122]? = some (.cells #[.int .u64 a1_0, .int .u64 a1_1] 26 (0, 0))) ∧ Aside0 (Below w.heap.size w wc))
      case first =>
       have H := HC15.out
       clear HC15
       by_cases c16 : t123 = 5
       ·rw [if_pos c16] at H
        have c16b0 : (t123 == 5) = true := beq_iff_eq.mpr c16
        have c16b1 : (t123 != 5) = false := bne_eq_false_iff_eq.mpr c16
        clear c16
        (first | rw [c16b0] | (simp only [i64_w, i32_w]; rw [c16b0]) | skip)
        have H' := A0_ H
        clear H
        go_wp2
        go_meet
        case rel => exact ⟨_, (true), (by first | rfl | (simp; done) | (simp [*]; done)), H', ⟨by have := HJ6.out; first | omega | exact Nat.le_refl _⟩, ⟨bm_ BK122.out⟩, ⟨qz_⟩⟩
       ·rw [if_neg c16] at H
        have c16b0 : (t123 == 5) = false := beq_eq_false_iff_ne.mpr c16
        have c16b1 : (t123 != 5) = true := bne_iff_ne.mpr c16
        (first | rw [c16b0] | (simp only [i64_w, i32_w]; rw [c16b0]) | skip)
        have H' := A0_ H
        clear H
        go_wp2
        go_meet
        case rel => exact ⟨_, ((t125 == 5)), (by first | rfl | (simp; done) | (simp [*]; done)), H', ⟨by have := HJ6.out; first | omega | exact Nat.le_refl _⟩, ⟨bm_ BK122.out⟩, ⟨qz_⟩⟩
      case rest =>
       clear HC15
       try clear c1
       try clear c2
       try clear p2
       try clear c4
       try clear c4b0
       try clear c4b1
       try clear c5
       try clear c6
       try clear c6b0
       try clear c6b1
       try clear c13
       try clear c13b0
       try clear c13b1
       try clear c14
       try clear c16
       try clear c16b0
       try clear c16b1
       try clear hcz11
       try clear hcz9
       try clear hfz11
       try clear hfz9
       try clear p2
       obtain ⟨kq, x37_14, rfl, HA, HJ14, BK122, HB⟩ := hcut
       cases kq with
       | zero => exact absurd HA.out (by simp [pair_Class.j1])
       | succ kj14 =>
        have H := HA.out
        clear HA
        simp only [pair_Class.j1] at H
        by_cases c17 : x37_14 = true
        ·subst c17
         rw [if_pos rfl] at H
         simp only [Option.some.injEq, Prod.mk.injEq] at H
         obtain ⟨rfl, rfl⟩ := H
         go_wp2
         go_ret2
         exact ⟨by first | rfl | (simp [errW_none, errW_some] <;> rfl) | (simp [*, errW_none, errW_some] <;> rfl), qz_⟩
        ·replace c17 := Bool.eq_false_iff.mpr c17
         subst c17
         rw [if_neg (show ¬ (false = true) by decide)] at H
         by_cases c18 : t123 = 1
         ·rw [if_pos c18] at H
          have c18b0 : (t123 == 1) = true := beq_iff_eq.mpr c18
          have c18b1 : (t123 != 1) = false := bne_eq_false_iff_eq.mpr c18
          clear c18
          by_cases c19 : t125 = 1
          ·rw [if_pos c19] at H
           have c19b0 : (t125 == 1) = true := beq_iff_eq.mpr c19
           have c19b1 : (t125 != 1) = false := bne_eq_false_iff_eq.mpr c19
           clear c19
           simp only [Option.some.injEq, Prod.mk.injEq] at H
           obtain ⟨rfl, rfl⟩ := H
           go_wp2
           go_ret2
           exact ⟨by first | rfl | (simp [errW_none, errW_some] <;> rfl) | (simp [*, errW_none, errW_some] <;> rfl), qz_⟩
          ·rw [if_neg c19] at H
           have c19b0 : (t125 == 1) = false := beq_eq_false_iff_ne.mpr c19
           have c19b1 : (t125 != 1) = true := bne_iff_ne.mpr c19
           simp only [Option.some.injEq, Prod.mk.injEq] at H
           obtain ⟨rfl, rfl⟩ := H
           go_wp2
           go_ret2
           exact ⟨by first | rfl | (simp [errW_none, errW_some] <;> rfl) | (simp [*, errW_none, errW_some] <;> rfl), qz_⟩
         ·rw [if_neg c18] at H
          have c18b0 : (t123 == 1) = false := beq_eq_false_iff_ne.mpr c18
          have c18b1 : (t123 != 1) = true := bne_iff_ne.mpr c18
          simp only [Option.some.injEq, Prod.mk.injEq] at H
          obtain ⟨rfl, rfl⟩ := H
          go_wp2
          go_ret2
          exact ⟨by first | rfl | (simp [errW_none, errW_some] <;> rfl) | (simp [*, errW_none, errW_some] <;> rfl), qz_⟩
  ·rw [if_neg c6] at H
   have c6b0 : (t126 == 0) = false := beq_eq_false_iff_ne.mpr c6
   have c6b1 : (t126 != 0) = true := bne_iff_ne.mpr c6
   simp only [Option.some.injEq, Prod.mk.injEq] at H
   obtain ⟨rfl, rfl⟩ := H
   go_enter Try.func27, Try.ntmps27
   go_wp2_with (first | ((with_reducible refine gate_dst (N := 3) rfl ?_); refine box_event ?hg (N := 3) ?hd (cs := #[.int .u64 a1_0, .int .u64 a1_1]) (t := 26) ?hr ?_; (case hd => rfl); (case hg => rfl); (case hr => first | (go_simp; done) | (go_simp; rfl)); intro gb122 hg w20 hbox hb; have BK122 := A0_ (hbox); have GW122 := A0_ ((by rw [hg]; exact (below_size (qm_ HB.out)) : w.heap.size ≤ gb122)); have GE122 := GW122; replace HB := hs_ hb; clear hb hbox hg; have hcz21 := bc2_ BK122.out; have hfz21 := bf2_ BK122.out) | ((with_reducible refine gate_callee (f := 52) rfl ?_); refine goesL_ (some 13) rfl rfl Try.func52 (by kernel_rfl) rfl #[.int .u8 a0, .int .u64 a1_0] rfl (am_ rfl) ?_; (with_reducible refine (word_Class.calls k a0 a1_0 t123 t124 _ A3.out).mono ?_); rintro e w22 ⟨rfl, hb⟩; refine ⟨_, rfl, ?_⟩; replace BK122 := bb_ BK122 hb; replace HB := hs_ hb; (try clear hb); have hcz23 := bc2_ BK122.out; have hfz23 := bf2_ BK122.out) | ((with_reducible refine gate_callee (f := 52) rfl ?_); refine goesL_ (some 23) rfl rfl Try.func52 (by kernel_rfl) rfl #[.int .u8 a0, .int .u64 a1_1] rfl (am_ rfl) ?_; (with_reducible refine (word_Class.calls k a0 a1_1 t125 t126 _ A5.out).mono ?_); rintro e w24 ⟨rfl, hb⟩; refine ⟨_, rfl, ?_⟩; replace BK122 := bb_ BK122 hb; replace HB := hs_ hb; (try clear hb)))
   go_ret2
   exact ⟨by first | rfl | (simp [errW_none, errW_some] <;> rfl) | (simp [*, errW_none, errW_some] <;> rfl), qz_⟩
 ·rw [if_neg c4] at H
  have c4b0 : (t124 == 0) = false := beq_eq_false_iff_ne.mpr c4
  have c4b1 : (t124 != 0) = true := bne_iff_ne.mpr c4
  simp only [Option.some.injEq, Prod.mk.injEq] at H
  obtain ⟨rfl, rfl⟩ := H
  go_enter Try.func27, Try.ntmps27
  go_wp2_with (first | ((with_reducible refine gate_dst (N := 3) rfl ?_); refine box_event ?hg (N := 3) ?hd (cs := #[.int .u64 a1_0, .int .u64 a1_1]) (t := 26) ?hr ?_; (case hd => rfl); (case hg => rfl); (case hr => first | (go_simp; done) | (go_simp; rfl)); intro gb122 hg w25 hbox hb; have BK122 := A0_ (hbox); have GW122 := A0_ ((by rw [hg]; exact (below_size (qm_ HB.out)) : w.heap.size ≤ gb122)); have GE122 := GW122; replace HB := hs_ hb; clear hb hbox hg; have hcz26 := bc2_ BK122.out; have hfz26 := bf2_ BK122.out) | ((with_reducible refine gate_callee (f := 52) rfl ?_); refine goesL_ (some 13) rfl rfl Try.func52 (by kernel_rfl) rfl #[.int .u8 a0, .int .u64 a1_0] rfl (am_ rfl) ?_; (with_reducible refine (word_Class.calls k a0 a1_0 t123 t124 _ A3.out).mono ?_); rintro e w27 ⟨rfl, hb⟩; refine ⟨_, rfl, ?_⟩; replace BK122 := bb_ BK122 hb; replace HB := hs_ hb; (try clear hb)))
  go_ret2
  exact ⟨by first | rfl | (simp [errW_none, errW_some] <;> rfl) | (simp [*, errW_none, errW_some] <;> rfl), qz_⟩
end Go.Proofs.Ytlgapmhjaaajfaa.PA
end

section
namespace Go.Proofs.Ytlgapmhjaaajfaa.PA
open Go.RowKit Go.Proofs.YtlgapmhjaaajfaaW.PrintWords Go.Proofs.YtlgapmhjaaajfaaW.PrintLast Go.Proofs.YtlgapmhjaaajfaaW.PrintMore
attribute [local go_sem] max2_int min2_int max_two min_two max_three min_three max_four min_four   -- for this text's walks alone
set_option linter.unusedVariables false
set_option linter.unusedSimpArgs false
def round_formOf.f (a0 : Int) : Option (Int × Int × Int × Bool) := if a0 = 1 then (some (24, (-149), 128, true)) else (if a0 = 2 then (some (53, (-1074), 1024, true)) else (some (0, 0, 0, false)))
theorem round_formOf.calls (a0 : Int) (r1 : Int) (r2 : Int) (r3 : Int) (r4 : Bool) (w : World) (h : round_formOf.f a0 = some (r1, r2, r3, r4)) :
  Calls Try.prog 82 #[.int .u8 a0] w fun e w' => e = .returned (.tuple #[.agg #[.int .i64 r1, .int .i64 r2, .int .i64 r3], .bool r4]) ∧ Below w.heap.size w w' := by
 have hu110 := Try.underlying110
 have HB := A0_ (Below.refl w.heap.size w)
 have H := h
 clear h
 unfold round_formOf.f at H
 by_cases c2 : a0 = 1
 ·rw [if_pos c2] at H
  have c2b0 : (a0 == 1) = true := beq_iff_eq.mpr c2
  have c2b1 : (a0 != 1) = false := bne_eq_false_iff_eq.mpr c2
  clear c2
  simp only [Option.some.injEq, Prod.mk.injEq] at H
  obtain ⟨rfl, rfl, rfl, rfl⟩ := H
  go_enter Try.func82, Try.ntmps82
  go_wp2_with (first | ((with_reducible refine gate_dst (N := 2) rfl ?_); refine box_event ?hg (N := 2) ?hd (cs := #[.int .i64 0, .int .i64 0, .int .i64 0]) (t := 110) ?hr ?_; (case hd => rfl); (case hg => rfl); (case hr => first | (go_simp; done) | (go_simp; rfl)); intro gb140 hg w3 hbox hb; have BK140 := A0_ (hbox); have GW140 := A0_ ((by rw [hg]; exact (below_size (qm_ HB.out)) : w.heap.size ≤ gb140)); have GE140 := GW140; replace HB := hs_ hb; clear hb hbox hg; have hcz4 := bc3_ BK140.out; have hfz4 := bf3_ BK140.out))
  refine bodyPost_ret (results_ct rfl _ _ gb140 110 #[.int .i64 24, .int .i64 (-149), .int .i64 128] (0, 0) _ rfl (by (with_reducible repeat first | apply bN_ | apply bD_ | apply bA_); refine blk_put (cs := #[.int .i64 24, .int .i64 (-149), .int .i64 0]) ?_ 2 _ rfl; refine blk_put (cs := #[.int .i64 24, .int .i64 0, .int .i64 0]) ?_ 1 _ rfl; refine blk_put (cs := #[.int .i64 0, .int .i64 0, .int .i64 0]) ?_ 0 _ rfl; exact bm_ BK140.out) Try.underlying110 rfl (by kernel_rfl)) rfl ?_
  exact ⟨by first | rfl | (simp [errW_none, errW_some] <;> rfl) | (simp [*, errW_none, errW_some] <;> rfl), qz_⟩
 ·rw [if_neg c2] at H
  have c2b0 : (a0 == 1) = false := beq_eq_false_iff_ne.mpr c2
  have c2b1 : (a0 != 1) = true := bne_iff_ne.mpr c2
  by_cases c5 : a0 = 2
  ·rw [if_pos c5] at H
   have c5b0 : (a0 == 2) = true := beq_iff_eq.mpr c5
   have c5b1 : (a0 != 2) = false := bne_eq_false_iff_eq.mpr c5
   clear c5
   simp only [Option.some.injEq, Prod.mk.injEq] at H
   obtain ⟨rfl, rfl, rfl, rfl⟩ := H
   go_enter Try.func82, Try.ntmps82
   go_wp2_with (first | ((with_reducible refine gate_dst (N := 2) rfl ?_); refine box_event ?hg (N := 2) ?hd (cs := #[.int .i64 0, .int .i64 0, .int .i64 0]) (t := 110) ?hr ?_; (case hd => rfl); (case hg => rfl); (case hr => first | (go_simp; done) | (go_simp; rfl)); intro gb140 hg w6 hbox hb; have BK140 := A0_ (hbox); have GW140 := A0_ ((by rw [hg]; exact (below_size (qm_ HB.out)) : w.heap.size ≤ gb140)); have GE140 := GW140; replace HB := hs_ hb; clear hb hbox hg; have hcz7 := bc3_ BK140.out; have hfz7 := bf3_ BK140.out))
   refine bodyPost_ret (results_ct rfl _ _ gb140 110 #[.int .i64 53, .int .i64 (-1074), .int .i64 1024] (0, 0) _ rfl (by (with_reducible repeat first | apply bN_ | apply bD_ | apply bA_); refine blk_put (cs := #[.int .i64 53, .int .i64 (-1074), .int .i64 0]) ?_ 2 _ rfl; refine blk_put (cs := #[.int .i64 53, .int .i64 0, .int .i64 0]) ?_ 1 _ rfl; refine blk_put (cs := #[.int .i64 0, .int .i64 0, .int .i64 0]) ?_ 0 _ rfl; exact bm_ BK140.out) Try.underlying110 rfl (by kernel_rfl)) rfl ?_
   exact ⟨by first | rfl | (simp [errW_none, errW_some] <;> rfl) | (simp [*, errW_none, errW_some] <;> rfl), qz_⟩
  ·rw [if_neg c5] at H
   have c5b0 : (a0 == 2) = false := beq_eq_false_iff_ne.mpr c5
   have c5b1 : (a0 != 2) = true := bne_iff_ne.mpr c5
   simp only [Option.some.injEq, Prod.mk.injEq] at H
   obtain ⟨rfl, rfl, rfl, rfl⟩ := H
   go_enter Try.func82, Try.ntmps82
   go_wp2_with (first | ((with_reducible refine gate_dst (N := 2) rfl ?_); refine box_event ?hg (N := 2) ?hd (cs := #[.int .i64 0, .int .i64 0, .int .i64 0]) (t := 110) ?hr ?_; (case hd => rfl); (case hg => rfl); (case hr => first | (go_simp; done) | (go_simp; rfl)); intro gb140 hg w8 hbox hb; have BK140 := A0_ (hbox); have GW140 := A0_ ((by rw [hg]; exact (below_size (qm_ HB.out)) : w.heap.size ≤ gb140)); have GE140 := GW140; replace HB := hs_ hb; clear hb hbox hg; have hcz9 := bc3_ BK140.out; have hfz9 := bf3_ BK140.out))
   refine bodyPost_ret (results_ct rfl _ _ gb140 110 #[.int .i64 0, .int .i64 0, .int .i64 0] (0, 0) _ rfl (by (with_reducible repeat first | apply bN_ | apply bD_ | apply bA_); refine blk_put (cs := #[.int .i64 0, .int .i64 0, .int .i64 0]) ?_ 2 _ rfl; refine blk_put (cs := #[.int .i64 0, .int .i64 0, .int .i64 0]) ?_ 1 _ rfl; refine blk_put (cs := #[.int .i64 0, .int .i64 0, .int .i64 0]) ?_ 0 _ rfl; exact bm_ BK140.out) Try.underlying110 rfl (by kernel_rfl)) rfl ?_
   exact ⟨by first | rfl | (simp [errW_none, errW_some] <;> rfl) | (simp [*, errW_none, errW_some] <;> rfl), qz_⟩
end Go.Proofs.Ytlgapmhjaaajfaa.PA
end
