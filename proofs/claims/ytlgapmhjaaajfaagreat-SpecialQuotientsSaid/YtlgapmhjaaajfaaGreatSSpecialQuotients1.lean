/- Steps of Go functions that the law SpecialQuotients uses, told as plain Lean functions, each with the proof that its call comes to what it tells; words on memory; plain facts. No condition beyond those that each text names. -/
import Derived.Test.YtlgapmhjaaajfaaGreatProg
import Derived.WalkMore
import Derived.Test.YtlgapmhjaaajfaaGreatSSpecialQuotients0
set_option maxHeartbeats 16000000
set_option maxRecDepth 100000
section
namespace Go.Proofs.YtlgapmhjaaajfaaGreat.PA
open Go.RowKit Go.Proofs.YtlgapmhjaaajfaaGreatW.PrintWords Go.Proofs.YtlgapmhjaaajfaaGreatW.PrintLast Go.Proofs.YtlgapmhjaaajfaaGreatW.PrintMore
attribute [local go_sem] max2_int min2_int max_two min_two max_three min_three max_four min_four   -- for this text's walks alone
set_option linter.unusedVariables false
set_option linter.unusedSimpArgs false
def errW : Option Int → Value
  | none => .nilIface
  | some c => .iface 0 (.int .i64 c)
theorem errW_none : errW none = .nilIface := rfl
theorem errW_some (c : Int) : errW (some c) = .iface 0 (.int .i64 c) := rfl
theorem info41 : (Tryz.prog.info? 41).map (fun i => (i.zero, i.size, i.bytes)) = some (some (.int .u8 0), 1, 1) := by kernel_rfl
theorem info132 : (Tryz.prog.info? 132).map (fun i => (i.zero, i.size, i.bytes)) = some (some (.int .u32 0), 1, 4) := by kernel_rfl
structure S107 where
  f0 : Bool
  f1 : (List Int)
  f2 : Int
def z107 : S107 := ⟨false, ([] : List Int), (0 : Int)⟩
def k107 : Kd S107 := Kd.iso (Kd.pair Kd.bool (Kd.pair (Kd.slice 132 (Kd.int .u32)) (Kd.int .i64))) (fun x : S107 => (x.f0, x.f1, x.f2))
theorem k107_open {w : World} {x : S107} {cs : List Value} (h : k107.K w x cs) : ∃ A1 c1, cs = [.bool x.f0, .slice A1 x.f1.length c1, .int .i64 x.f2] ∧ x.f1.length ≤ c1 ∧ (Kd.int .u32).C w A1 x.f1.length x.f1 := by
  obtain ⟨_, _, rfl, rfl, ⟨_, _, rfl, ⟨A1, c1, rfl, l1, g1⟩, rfl⟩⟩ := h
  exact ⟨A1, c1, rfl, l1, g1⟩
def rd_T107 (xs : List S107) (i : Int) : S107 := xs.getD i.toNat z107
theorem at_T107 {w : World} {A : Option Addr} {n : Nat} {xs : List S107} (h : Kd.C k107 w A n xs) (i : Int) (h0 : 0 ≤ i) (h1 : i < n) : ∃ ad A1 c1, A = some ad ∧ w.cell? (ad.add (i.toNat * 3)) = some (.bool (rd_T107 xs i).f0) ∧ w.cell? ⟨(ad.add (i.toNat * 3)).block, (ad.add (i.toNat * 3)).off + 1, none⟩ = some (.slice A1 (rd_T107 xs i).f1.length c1) ∧ w.cell? ⟨(ad.add (i.toNat * 3)).block, (ad.add (i.toNat * 3)).off + 2, none⟩ = some (.int .i64 (rd_T107 xs i).f2) ∧ (rd_T107 xs i).f1.length ≤ c1 ∧ (Kd.int .u32).C w A1 (rd_T107 xs i).f1.length (rd_T107 xs i).f1 := by
  obtain ⟨ad, c, e, _, hK, hc0⟩ := Kd.C_get h z107 i h0 h1
  have hc : ∀ j u, c[j]? = some u → w.cell? (ad.add (i.toNat * 3 + j)) = some u := hc0
  obtain ⟨A1, c1, rfl, l1, g1⟩ := k107_open hK
  exact ⟨ad, A1, c1, e, hc 0 _ rfl, by rw [← add_field _ _ 1 (by omega)]; exact hc 1 _ rfl, by rw [← add_field _ _ 2 (by omega)]; exact hc 2 _ rfl, l1, g1⟩
structure S26 where
  f0 : Int
  f1 : Int
def z26 : S26 := ⟨(0 : Int), (0 : Int)⟩
def k26 : Kd S26 := Kd.iso (Kd.pair (Kd.int .u64) (Kd.int .u64)) (fun x : S26 => (x.f0, x.f1))
theorem k26_open {w : World} {x : S26} {cs : List Value} (h : k26.K w x cs) : cs = [.int .u64 x.f0, .int .u64 x.f1] := by
  obtain ⟨_, _, rfl, rfl, rfl⟩ := h
  exact rfl
theorem k26_mkM (w : World) (base : Nat) (ok : Nat → Prop) (x : S26)  : k26.M w base ok x [.int .u64 x.f0, .int .u64 x.f1] := ⟨[.int .u64 x.f0], [.int .u64 x.f1], rfl, rfl, rfl⟩
def rd_T26 (xs : List S26) (i : Int) : S26 := xs.getD i.toNat z26
theorem at_T26 {w : World} {A : Option Addr} {n : Nat} {xs : List S26} (h : Kd.C k26 w A n xs) (i : Int) (h0 : 0 ≤ i) (h1 : i < n) : ∃ ad , A = some ad ∧ w.cell? (ad.add (i.toNat * 2)) = some (.int .u64 (rd_T26 xs i).f0) ∧ w.cell? ⟨(ad.add (i.toNat * 2)).block, (ad.add (i.toNat * 2)).off + 1, none⟩ = some (.int .u64 (rd_T26 xs i).f1) := by
  obtain ⟨ad, c, e, _, hK, hc0⟩ := Kd.C_get h z26 i h0 h1
  have hc : ∀ j u, c[j]? = some u → w.cell? (ad.add (i.toNat * 2 + j)) = some u := hc0
  obtain rfl := k26_open hK
  exact ⟨ad, e, hc 0 _ rfl, by rw [← add_field _ _ 1 (by omega)]; exact hc 1 _ rfl⟩
end Go.Proofs.YtlgapmhjaaajfaaGreat.PA
end

section
namespace Go.Proofs.YtlgapmhjaaajfaaGreat.PA
open Go.RowKit Go.Proofs.YtlgapmhjaaajfaaGreatW.PrintWords Go.Proofs.YtlgapmhjaaajfaaGreatW.PrintLast Go.Proofs.YtlgapmhjaaajfaaGreatW.PrintMore
attribute [local go_sem] max2_int min2_int max_two min_two max_three min_three max_four min_four   -- for this text's walks alone
set_option linter.unusedVariables false
set_option linter.unusedSimpArgs false
theorem eqA26 (d : Nat) (w : World) (x0 y0 : Int) (x1 y1 : Int) :
    (Op.equalIn (d + 2) 26 (.agg #[.int .u64 x0, .int .u64 x1]) (.agg #[.int .u64 y0, .int .u64 y1])).run Tryz.prog w = .ok (x0 == y0 && (x1 == y1)) w := by
  refine eqA_of Tryz.underlying26 (by kernel_rfl) ?_
  refine eqf_cons (by rfl) (by go_simp; rfl) (by go_simp; rfl) (by go_simp) ?_
  exact eqf_last (by rfl) (by go_simp; rfl) (by go_simp; rfl) (by go_simp)
theorem eqA29 (d : Nat) (w : World) (x0 y0 : Int) (x1 y1 : Int) (x2 y2 : Int) (x3 y3 : Int) :
    (Op.equalIn (d + 3) 29 (.agg #[.int .u64 x0, .int .u64 x1, .int .u8 x2, .int .u8 x3]) (.agg #[.int .u64 y0, .int .u64 y1, .int .u8 y2, .int .u8 y3])).run Tryz.prog w = .ok ((x0 == y0 && (x1 == y1)) && (x2 == y2 && (x3 == y3))) w := by
  refine eqA_of Tryz.underlying29 (by kernel_rfl) ?_
  refine eqf_cons (by rfl) (by go_simp) (by go_simp) (eqA26 (d + 0) w _ _ _ _) ?_
  refine eqf_cons (by rfl) (by go_simp; rfl) (by go_simp; rfl) (by go_simp) ?_
  exact eqf_last (by rfl) (by go_simp; rfl) (by go_simp; rfl) (by go_simp)
end Go.Proofs.YtlgapmhjaaajfaaGreat.PA
end

section
namespace Go.Proofs.YtlgapmhjaaajfaaGreat.PA
open Go.RowKit Go.Proofs.YtlgapmhjaaajfaaGreatW.PrintWords Go.Proofs.YtlgapmhjaaajfaaGreatW.PrintLast Go.Proofs.YtlgapmhjaaajfaaGreatW.PrintMore
attribute [local go_sem] max2_int min2_int max_two min_two max_three min_three max_four min_four   -- for this text's walks alone
set_option linter.unusedVariables false
set_option linter.unusedSimpArgs false
def word_shapeOf.f (a0 : Int) : Option (Int × Int × Int × Bool) := if a0 = 1 then (some (23, 255, 2147483648, true)) else (if a0 = 2 then (some (52, 2047, 9223372036854775808, true)) else (some (0, 0, 0, false)))
theorem word_shapeOf.calls (a0 : Int) (r1 : Int) (r2 : Int) (r3 : Int) (r4 : Bool) (w : World) (h : word_shapeOf.f a0 = some (r1, r2, r3, r4)) :
  Calls Tryz.prog 76 #[.int .u8 a0] w fun e w' => e = .returned (.tuple #[.agg #[.int .i64 r1, .int .i64 r2, .int .u64 r3], .bool r4]) ∧ Below w.heap.size w w' := by
 have hu72 := Tryz.underlying72
 have HB := A0_ (Below.refl w.heap.size w)
 have H := h
 clear h
 unfold word_shapeOf.f at H
 by_cases c2 : a0 = 1
 ·rw [if_pos c2] at H
  have c2b0 : (a0 == 1) = true := beq_iff_eq.mpr c2
  have c2b1 : (a0 != 1) = false := bne_eq_false_iff_eq.mpr c2
  clear c2
  simp only [Option.some.injEq, Prod.mk.injEq] at H
  obtain ⟨rfl, rfl, rfl, rfl⟩ := H
  go_enter Tryz.func76, Tryz.ntmps76
  go_wp2_with (first | ((with_reducible refine gate_dst (N := 2) rfl ?_); refine box_event ?hg (N := 2) ?hd (cs := #[.int .i64 0, .int .i64 0, .int .u64 0]) (t := 72) ?hr ?_; (case hd => rfl); (case hg => rfl); (case hr => first | (go_simp; done) | (go_simp; rfl)); intro gb101 hg w3 hbox hb; have BK101 := A0_ (hbox); have GW101 := A0_ ((by rw [hg]; exact (below_size (qm_ HB.out)) : w.heap.size ≤ gb101)); have GE101 := GW101; replace HB := hs_ hb; clear hb hbox hg; have hcz4 := bc3_ BK101.out; have hfz4 := bf3_ BK101.out))
  refine bodyPost_ret (results_ct rfl _ _ gb101 72 #[.int .i64 23, .int .i64 255, .int .u64 2147483648] (0, 0) _ rfl (by (with_reducible repeat first | apply bN_ | apply bD_ | apply bA_); refine blk_put (cs := #[.int .i64 23, .int .i64 255, .int .u64 0]) ?_ 2 _ rfl; refine blk_put (cs := #[.int .i64 23, .int .i64 0, .int .u64 0]) ?_ 1 _ rfl; refine blk_put (cs := #[.int .i64 0, .int .i64 0, .int .u64 0]) ?_ 0 _ rfl; exact bm_ BK101.out) Tryz.underlying72 rfl (by kernel_rfl)) rfl ?_
  exact ⟨by first | rfl | (simp [errW_none, errW_some] <;> rfl) | (simp [*, errW_none, errW_some] <;> rfl), qz_⟩
 ·rw [if_neg c2] at H
  have c2b0 : (a0 == 1) = false := beq_eq_false_iff_ne.mpr c2
  have c2b1 : (a0 != 1) = true := bne_iff_ne.mpr c2
  by_cases c5 : a0 = 2
  ·rw [if_pos c5] at H
   have c5b0 : (a0 == 2) = true := beq_iff_eq.mpr c5
   have c5b1 : (a0 != 2) = false := bne_eq_false_iff_eq.mpr c5
   clear c5
   simp only [Option.some.injEq, Prod.mk.injEq] at H
   obtain ⟨rfl, rfl, rfl, rfl⟩ := H
   go_enter Tryz.func76, Tryz.ntmps76
   go_wp2_with (first | ((with_reducible refine gate_dst (N := 2) rfl ?_); refine box_event ?hg (N := 2) ?hd (cs := #[.int .i64 0, .int .i64 0, .int .u64 0]) (t := 72) ?hr ?_; (case hd => rfl); (case hg => rfl); (case hr => first | (go_simp; done) | (go_simp; rfl)); intro gb101 hg w6 hbox hb; have BK101 := A0_ (hbox); have GW101 := A0_ ((by rw [hg]; exact (below_size (qm_ HB.out)) : w.heap.size ≤ gb101)); have GE101 := GW101; replace HB := hs_ hb; clear hb hbox hg; have hcz7 := bc3_ BK101.out; have hfz7 := bf3_ BK101.out))
   refine bodyPost_ret (results_ct rfl _ _ gb101 72 #[.int .i64 52, .int .i64 2047, .int .u64 9223372036854775808] (0, 0) _ rfl (by (with_reducible repeat first | apply bN_ | apply bD_ | apply bA_); refine blk_put (cs := #[.int .i64 52, .int .i64 2047, .int .u64 0]) ?_ 2 _ rfl; refine blk_put (cs := #[.int .i64 52, .int .i64 0, .int .u64 0]) ?_ 1 _ rfl; refine blk_put (cs := #[.int .i64 0, .int .i64 0, .int .u64 0]) ?_ 0 _ rfl; exact bm_ BK101.out) Tryz.underlying72 rfl (by kernel_rfl)) rfl ?_
   exact ⟨by first | rfl | (simp [errW_none, errW_some] <;> rfl) | (simp [*, errW_none, errW_some] <;> rfl), qz_⟩
  ·rw [if_neg c5] at H
   have c5b0 : (a0 == 2) = false := beq_eq_false_iff_ne.mpr c5
   have c5b1 : (a0 != 2) = true := bne_iff_ne.mpr c5
   simp only [Option.some.injEq, Prod.mk.injEq] at H
   obtain ⟨rfl, rfl, rfl, rfl⟩ := H
   go_enter Tryz.func76, Tryz.ntmps76
   go_wp2_with (first | ((with_reducible refine gate_dst (N := 2) rfl ?_); refine box_event ?hg (N := 2) ?hd (cs := #[.int .i64 0, .int .i64 0, .int .u64 0]) (t := 72) ?hr ?_; (case hd => rfl); (case hg => rfl); (case hr => first | (go_simp; done) | (go_simp; rfl)); intro gb101 hg w8 hbox hb; have BK101 := A0_ (hbox); have GW101 := A0_ ((by rw [hg]; exact (below_size (qm_ HB.out)) : w.heap.size ≤ gb101)); have GE101 := GW101; replace HB := hs_ hb; clear hb hbox hg; have hcz9 := bc3_ BK101.out; have hfz9 := bf3_ BK101.out))
   refine bodyPost_ret (results_ct rfl _ _ gb101 72 #[.int .i64 0, .int .i64 0, .int .u64 0] (0, 0) _ rfl (by (with_reducible repeat first | apply bN_ | apply bD_ | apply bA_); refine blk_put (cs := #[.int .i64 0, .int .i64 0, .int .u64 0]) ?_ 2 _ rfl; refine blk_put (cs := #[.int .i64 0, .int .i64 0, .int .u64 0]) ?_ 1 _ rfl; refine blk_put (cs := #[.int .i64 0, .int .i64 0, .int .u64 0]) ?_ 0 _ rfl; exact bm_ BK101.out) Tryz.underlying72 rfl (by kernel_rfl)) rfl ?_
   exact ⟨by first | rfl | (simp [errW_none, errW_some] <;> rfl) | (simp [*, errW_none, errW_some] <;> rfl), qz_⟩
def word_open.l0 : Nat → List Int → Int → Int → Int → Int → Int → Option (Int × Int × Int × Int)
 | 0, _, _, _, _, _, _ => none
 | k + 1, x18, x19, x20, x108000, x108001, x108002 => if x20 < x19 then (if 0 ≤ x20 then (if x20 < (x18.length : Int) then (if (rd x18 x20) > (Go.bits .or .u64 x108002 (IntKind.u64.wrap (x108002 - 1))) then (some (x108000, x108001, x108002, 6)) else (word_open.l0 k x18 x19 (wrap64 (x20 + 1)) x108000 x108001 x108002)) else (none)) else (none)) else (some (x108000, x108001, x108002, 0))
def word_open.f (k : Nat) (a0 : Int) (l1 : List Int) : Option (Int × Int × Int × Int) := (word_shapeOf.f a0).bind fun bt103 => (if bt103.2.2.2 = true then (word_open.l0 k l1 (l1.length : Int) 0 bt103.1 bt103.2.1 bt103.2.2.1) else (some (bt103.1, bt103.2.1, bt103.2.2.1, 4)))
theorem word_open.mono_l : ∀ k, (∀ y0 y1 y2 y3 y4 y5, LeO (word_open.l0 k y0 y1 y2 y3 y4 y5) (word_open.l0 (k + 1) y0 y1 y2 y3 y4 y5))
 | 0 => fun _ _ _ _ _ _ r h => by simp [word_open.l0] at h
 | k + 1 => by
  have ih0 := word_open.mono_l k
  ·intro y0 y1 y2 y3 y4 y5
   unfold word_open.l0
   repeat' first
   | (with_reducible exact ih0 _ _ _ _ _ _)
   | (with_reducible exact LeO.refl _)
   | (with_reducible exact LeO.none _)
   | (with_reducible refine LeO.ite ?_ ?_)
   | (with_reducible refine LeO.bind ?_ (fun _ => ?_))
   | exact ih0 _ _ _ _ _ _
   | exact LeO.none _
   | refine LeO.ite ?_ ?_
   | refine LeO.bind ?_ (fun _ => ?_)
theorem word_open.mono : ∀ a0 a1 k, LeO (word_open.f k a0 a1) (word_open.f (k + 1) a0 a1) := by
 intro a0 a1 k
 have ih0 := word_open.mono_l k
 unfold word_open.f
 repeat' first
   | (with_reducible exact ih0 _ _ _ _ _ _)
   | (with_reducible exact LeO.refl _)
   | (with_reducible exact LeO.none _)
   | (with_reducible refine LeO.ite ?_ ?_)
   | (with_reducible refine LeO.bind ?_ (fun _ => ?_))
   | exact ih0 _ _ _ _ _ _
   | exact LeO.none _
   | refine LeO.ite ?_ ?_
   | refine LeO.bind ?_ (fun _ => ?_)
theorem word_open.calls (k : Nat) (a0 : Int) (A1 : Option Addr) (c1 : Nat) (l1 : List Int) (r1 : Int) (r2 : Int) (r3 : Int) (r4 : Int) (w : World) (hr1 : Kd.C (Kd.int .u64) w A1 l1.length l1) (hc1 : l1.length ≤ c1) (h : word_open.f k a0 l1 = some (r1, r2, r3, r4)) :
  Calls Tryz.prog 57 #[.int .u8 a0, .slice A1 l1.length c1] w fun e w' => e = .returned (.tuple #[.agg #[.int .i64 r1, .int .i64 r2, .int .u64 r3], .int .i64 r4]) ∧ Below w.heap.size w w' := by
 have hu72 := Tryz.underlying72
 have HR1 := A0_ hr1
 have HC1 := A0_ hc1
 clear hr1 hc1
 have HB := A0_ (Below.refl w.heap.size w)
 have H := h
 clear h
 unfold word_open.f at H
 obtain ⟨⟨t103, t104, t105, t106⟩, A3, H⟩ := bs_ H
 try dsimp -simprocs only at H
 by_cases c4 : t106 = true
 ·subst c4
  rw [if_pos rfl] at H
  have H' := A0_ H
  clear H
  go_enter Tryz.func57, Tryz.ntmps57
  go_wp2_with (first | ((with_reducible refine gate_dst (N := 4) rfl ?_); refine box_event ?hg (N := 4) ?hd (cs := #[.int .i64 0, .int .i64 0, .int .u64 0]) (t := 72) ?hr ?_; (case hd => rfl); (case hg => rfl); (case hr => first | (go_simp; done) | (go_simp; rfl)); intro gb102 hg w5 hbox hb; have BK102 := A0_ (hbox); have GW102 := A0_ ((by rw [hg]; exact (below_size (qm_ HB.out)) : w.heap.size ≤ gb102)); have GE102 := GW102; replace HB := hs_ hb; clear hb hbox hg) | ((with_reducible refine gate_callee (f := 76) rfl ?_); refine goesL_ (some 12) rfl rfl Tryz.func76 (by kernel_rfl) rfl #[.int .u8 a0] rfl (am_ rfl) ?_; (with_reducible refine (word_shapeOf.calls a0 t103 t104 t105 true _ A3.out).mono ?_); rintro e w6 ⟨rfl, hb⟩; refine ⟨_, rfl, ?_⟩; replace BK102 := bb_ BK102 hb; replace HB := hs_ hb; (try clear hb)) | ((with_reducible refine gate_dst (N := 6) rfl ?_); refine box_event ?hg (N := 6) ?hd (cs := #[.int .i64 0, .int .i64 0, .int .u64 0]) (t := 72) ?hr ?_; (case hd => rfl); (case hg => rfl); (case hr => first | (go_simp; done) | (go_simp; rfl)); intro gb107 hg w7 hbox hb; have BK107 := A0_ (hbox); have GW107 := A0_ ((by rw [hg]; exact (below_size qz_) : w.heap.size ≤ gb107)); have GE107 := GW107; replace HB := hs_ hb; have NB102_107 := nl_ hg BK102; have NB107_102 := ng_ hg BK102; replace BK102 := bb_ BK102 hb; clear hb hbox hg; have hnb8 := NB107_102.out; have hnc8 := NB102_107.out; have hcz9 := bc3_ BK107.out; have hfz9 := bf3_ BK107.out))
  go_loopg [20] k (fun kq v20 w' => ∃ (x20_1 : Int) (x103000_1 : Int) (x103001_1 : Int) (x103002_1 : Int), v20 = .int .i64 x20_1 ∧ Aside0 (word_open.l0 kq l1 (l1.length : Int) x20_1 t103 t104 t105 = some (r1, r2, r3, r4)) ∧ Aside0 (kq ≤ k) ∧ Aside0 (w'.heap[gb102]? = some (.cells #[.int .i64 x103000_1, .int .i64 x103001_1, .int .u64 x103002_1] 72 (0, 0))) ∧ Aside0 (w'.heap[gb107]? = some (.cells #[.int .i64 t103, .int .i64 t104, .int .u64 t105] 72 (0, 0))) ∧ Aside0 (Below w.heap.size w w'))
  case atStart => exact ⟨(0), (0), (0), (0), (by first | rfl | (simp; done) | (simp [*]; done)), H', ⟨Nat.le_refl _⟩, ⟨by (with_reducible repeat first | apply bN_ | apply bD_ | apply bA_); refine blk_far ?_ NB102_107.out _; refine blk_far ?_ NB102_107.out _; refine blk_far ?_ NB102_107.out _; exact bm_ BK102.out⟩, ⟨by (with_reducible repeat first | apply bN_ | apply bD_ | apply bA_); refine blk_put (cs := #[.int .i64 t103, .int .i64 t104, .int .u64 0]) ?_ 2 _ rfl; refine blk_put (cs := #[.int .i64 t103, .int .i64 0, .int .u64 0]) ?_ 1 _ rfl; refine blk_put (cs := #[.int .i64 0, .int .i64 0, .int .u64 0]) ?_ 0 _ rfl; exact bm_ BK107.out⟩, ⟨qz_⟩⟩
  case round =>
   clear H'
   try clear c1
   try clear p2
   try clear c4
   try clear c5
   try clear c7
   try clear c8
   try clear hcz9
   try clear hfz9
   obtain ⟨x20_1, x103000_1, x103001_1, x103002_1, rfl, HA, HK1, BK102, BK107, HB⟩ := hrel
   cases gk with
   | zero => exact absurd HA.out (by simp [word_open.l0])
   | succ k1 =>
    have H := HA.out
    clear HA
    simp only [word_open.l0] at H
    by_cases c10 : x20_1 < (l1.length : Int)
    ·rw [if_pos c10] at H
     have c10b0 : decide (x20_1 < (l1.length : Int)) = true := decide_eq_true c10
     clear c10
     obtain ⟨c11, H⟩ := ic_ H
     have c11b0 : decide (0 ≤ x20_1) = true := decide_eq_true c11
     clear c11
     obtain ⟨c12, H⟩ := ic_ H
     have c12b0 : decide (x20_1 < (l1.length : Int)) = true := decide_eq_true c12
     clear c12
     by_cases c13 : (rd l1 x20_1) > (Go.bits .or .u64 t105 (IntKind.u64.wrap (t105 - 1)))
     ·rw [if_pos c13] at H
      have c13b0 : decide ((Go.bits .or .u64 t105 (IntKind.u64.wrap (t105 - 1))) < (rd l1 x20_1)) = true := decide_eq_true c13
      clear c13
      simp only [Option.some.injEq, Prod.mk.injEq] at H
      obtain ⟨rfl, rfl, rfl, rfl⟩ := H
      have p108 : 0 ≤ (x20_1 : Int) := of_decide_eq_true (by first | (with_reducible assumption) | assumption)
      have q108 : x20_1 < (l1.length : Int) := of_decide_eq_true (by first | (with_reducible assumption) | assumption)
      obtain ⟨ad108, e108, hx108_0⟩ := Kd.at_int HR1.out x20_1 p108 q108
      cases e108
      replace hx108_0 := (HB.out.cell (World.block_lt_of_cell? w _ hx108_0)).trans hx108_0
      replace p108 := eq_true p108
      replace q108 := eq_true q108
      have hnb14 := NB107_102.out
      have hnc14 := NB102_107.out
      have hcz15 := bc3_ BK107.out
      have hfz15 := bf3_ BK107.out
      have hcz16 := bc3_ BK102.out
      have hfz16 := bf3_ BK102.out
      go_wp2
      refine bodyPost_ret (results_ct rfl _ _ gb102 72 #[.int .i64 t103, .int .i64 t104, .int .u64 t105] (0, 0) _ rfl (by (with_reducible repeat first | apply bN_ | apply bD_ | apply bA_); refine blk_put (cs := #[.int .i64 t103, .int .i64 t104, .int .u64 x103002_1]) ?_ 2 _ rfl; refine blk_put (cs := #[.int .i64 t103, .int .i64 x103001_1, .int .u64 x103002_1]) ?_ 1 _ rfl; refine blk_put (cs := #[.int .i64 x103000_1, .int .i64 x103001_1, .int .u64 x103002_1]) ?_ 0 _ rfl; exact bm_ BK102.out) Tryz.underlying72 rfl (by kernel_rfl)) rfl ?_
      exact ⟨by first | rfl | (simp [errW_none, errW_some] <;> rfl) | (simp [*, errW_none, errW_some] <;> rfl), qz_⟩
     ·rw [if_neg c13] at H
      have c13b0 : decide ((Go.bits .or .u64 t105 (IntKind.u64.wrap (t105 - 1))) < (rd l1 x20_1)) = false := decide_eq_false c13
      clear c13
      have H' := A0_ H
      clear H
      have p108 : 0 ≤ (x20_1 : Int) := of_decide_eq_true (by first | (with_reducible assumption) | assumption)
      have q108 : x20_1 < (l1.length : Int) := of_decide_eq_true (by first | (with_reducible assumption) | assumption)
      obtain ⟨ad108, e108, hx108_0⟩ := Kd.at_int HR1.out x20_1 p108 q108
      cases e108
      replace hx108_0 := (HB.out.cell (World.block_lt_of_cell? w _ hx108_0)).trans hx108_0
      replace p108 := eq_true p108
      replace q108 := eq_true q108
      have hnb17 := NB107_102.out
      have hnc17 := NB102_107.out
      have hcz18 := bc3_ BK107.out
      have hfz18 := bf3_ BK107.out
      go_wp2
      go_roundg k1
      case measure => have := HK1.out; omega
      case rel => exact ⟨(wrap64 (x20_1 + 1)), (x103000_1), (x103001_1), (x103002_1), (by first | rfl | (simp; done) | (simp [*]; done)), H', ⟨by have := HK1.out; omega⟩, ⟨bm_ BK102.out⟩, ⟨bm_ BK107.out⟩, ⟨qz_⟩⟩
    ·rw [if_neg c10] at H
     have c10b0 : decide (x20_1 < (l1.length : Int)) = false := decide_eq_false c10
     clear c10
     simp only [Option.some.injEq, Prod.mk.injEq] at H
     obtain ⟨rfl, rfl, rfl, rfl⟩ := H
     have hnb19 := NB107_102.out
     have hnc19 := NB102_107.out
     have hcz20 := bc3_ BK107.out
     have hfz20 := bf3_ BK107.out
     have hcz21 := bc3_ BK102.out
     have hfz21 := bf3_ BK102.out
     go_wp2
     refine bodyPost_ret (results_ct rfl _ _ gb102 72 #[.int .i64 t103, .int .i64 t104, .int .u64 t105] (0, 0) _ rfl (by (with_reducible repeat first | apply bN_ | apply bD_ | apply bA_); refine blk_put (cs := #[.int .i64 t103, .int .i64 t104, .int .u64 x103002_1]) ?_ 2 _ rfl; refine blk_put (cs := #[.int .i64 t103, .int .i64 x103001_1, .int .u64 x103002_1]) ?_ 1 _ rfl; refine blk_put (cs := #[.int .i64 x103000_1, .int .i64 x103001_1, .int .u64 x103002_1]) ?_ 0 _ rfl; exact bm_ BK102.out) Tryz.underlying72 rfl (by kernel_rfl)) rfl ?_
     exact ⟨by first | rfl | (simp [errW_none, errW_some] <;> rfl) | (simp [*, errW_none, errW_some] <;> rfl), qz_⟩
 ·replace c4 := Bool.eq_false_iff.mpr c4
  subst c4
  rw [if_neg (show ¬ (false = true) by decide)] at H
  simp only [Option.some.injEq, Prod.mk.injEq] at H
  obtain ⟨rfl, rfl, rfl, rfl⟩ := H
  go_enter Tryz.func57, Tryz.ntmps57
  go_wp2_with (first | ((with_reducible refine gate_dst (N := 4) rfl ?_); refine box_event ?hg (N := 4) ?hd (cs := #[.int .i64 0, .int .i64 0, .int .u64 0]) (t := 72) ?hr ?_; (case hd => rfl); (case hg => rfl); (case hr => first | (go_simp; done) | (go_simp; rfl)); intro gb102 hg w22 hbox hb; have BK102 := A0_ (hbox); have GW102 := A0_ ((by rw [hg]; exact (below_size (qm_ HB.out)) : w.heap.size ≤ gb102)); have GE102 := GW102; replace HB := hs_ hb; clear hb hbox hg) | ((with_reducible refine gate_callee (f := 76) rfl ?_); refine goesL_ (some 12) rfl rfl Tryz.func76 (by kernel_rfl) rfl #[.int .u8 a0] rfl (am_ rfl) ?_; (with_reducible refine (word_shapeOf.calls a0 t103 t104 t105 false _ A3.out).mono ?_); rintro e w23 ⟨rfl, hb⟩; refine ⟨_, rfl, ?_⟩; replace BK102 := bb_ BK102 hb; replace HB := hs_ hb; (try clear hb)) | ((with_reducible refine gate_dst (N := 6) rfl ?_); refine box_event ?hg (N := 6) ?hd (cs := #[.int .i64 0, .int .i64 0, .int .u64 0]) (t := 72) ?hr ?_; (case hd => rfl); (case hg => rfl); (case hr => first | (go_simp; done) | (go_simp; rfl)); intro gb107 hg w24 hbox hb; have BK107 := A0_ (hbox); have GW107 := A0_ ((by rw [hg]; exact (below_size qz_) : w.heap.size ≤ gb107)); have GE107 := GW107; replace HB := hs_ hb; have NB102_107 := nl_ hg BK102; have NB107_102 := ng_ hg BK102; replace BK102 := bb_ BK102 hb; clear hb hbox hg; have hnb25 := NB107_102.out; have hnc25 := NB102_107.out; have hcz26 := bc3_ BK107.out; have hfz26 := bf3_ BK107.out; have hcz27 := bc3_ BK102.out; have hfz27 := bf3_ BK102.out))
  refine bodyPost_ret (results_ct rfl _ _ gb102 72 #[.int .i64 t103, .int .i64 t104, .int .u64 t105] (0, 0) _ rfl (by (with_reducible repeat first | apply bN_ | apply bD_ | apply bA_); refine blk_put (cs := #[.int .i64 t103, .int .i64 t104, .int .u64 0]) ?_ 2 _ rfl; refine blk_put (cs := #[.int .i64 t103, .int .i64 0, .int .u64 0]) ?_ 1 _ rfl; refine blk_put (cs := #[.int .i64 0, .int .i64 0, .int .u64 0]) ?_ 0 _ rfl; refine blk_far ?_ NB102_107.out _; refine blk_far ?_ NB102_107.out _; refine blk_far ?_ NB102_107.out _; exact bm_ BK102.out) Tryz.underlying72 rfl (by kernel_rfl)) rfl ?_
  exact ⟨by first | rfl | (simp [errW_none, errW_some] <;> rfl) | (simp [*, errW_none, errW_some] <;> rfl), qz_⟩
def word_named.f (k : Nat) (a0 : Int) (a1 : Bool) (a2 : Int → Int → Int → Option (Int)) : Option (Int × Int) := (word_open.f k a0 ([] : List Int)).bind fun bt109 => (if bt109.2.2.2 = 0 then ((a2 bt109.1 bt109.2.1 bt109.2.2.1).bind fun t114 => (if a1 = true then (some (Go.bits .or .u64 t114 bt109.2.2.1, 0)) else (some (t114, 0)))) else (some (0, bt109.2.2.2)))
theorem word_named.mono : ∀ a0 a1 a2 k, LeO (word_named.f k a0 a1 a2) (word_named.f (k + 1) a0 a1 a2) := by
 intro a0 a1 a2 k
 unfold word_named.f
 repeat' first
   | (with_reducible exact word_open.mono _ _ _)
   | (with_reducible exact LeO.refl _)
   | (with_reducible exact LeO.none _)
   | (with_reducible refine LeO.ite ?_ ?_)
   | (with_reducible refine LeO.bind ?_ (fun _ => ?_))
   | exact word_open.mono _ _ _
   | exact LeO.none _
   | refine LeO.ite ?_ ?_
   | refine LeO.bind ?_ (fun _ => ?_)
theorem word_named.calls (k : Nat) (a0 : Int) (a1 : Bool) (a2 : Int → Int → Int → Option (Int)) (r1 : Int) (r2 : Int) (w : World) (fg2 : Nat) (fn2 : Func) (fc2 : List Value) (FV2 : Aside0 (Tryz.prog.funcs[fg2]? = some fn2 ∧ (fn2.name == "runtime.NumGoroutine") = false ∧ fn2.body.isSome = true ∧ ∀ (s0_ : Int) (s1_ : Int) (s2_ : Int) (q0_ : Int) (w_ : World), Below w.heap.size w w_ → a2 s0_ s1_ s2_ = some q0_ → Calls Tryz.prog fg2 (List.toArray ([.agg #[.int .i64 s0_, .int .i64 s1_, .int .u64 s2_]] ++ fc2)) w_ fun e w' => e = .returned (.int .u64 q0_) ∧ Below w_.heap.size w_ w')) (h : word_named.f k a0 a1 a2 = some (r1, r2)) :
  Calls Tryz.prog 30 #[.int .u8 a0, .bool a1, .func (.func fg2) #[] fc2.toArray] w fun e w' => e = .returned (.tuple #[.int .u64 r1, .int .i64 r2]) ∧ Below w.heap.size w w' := by
 have hu72 := Tryz.underlying72
 have HB := A0_ (Below.refl w.heap.size w)
 have H := h
 clear h
 unfold word_named.f at H
 obtain ⟨⟨t109, t110, t111, t112⟩, A4, H⟩ := bs_ H
 try dsimp -simprocs only at H
 by_cases c5 : t112 = 0
 ·rw [if_pos c5] at H
  have c5b0 : (t112 == 0) = true := beq_iff_eq.mpr c5
  have c5b1 : (t112 != 0) = false := bne_eq_false_iff_eq.mpr c5
  clear c5
  obtain ⟨t114, A6, H⟩ := bs_ H
  try dsimp -simprocs only at H
  by_cases c7 : a1 = true
  ·subst c7
   rw [if_pos rfl] at H
   simp only [Option.some.injEq, Prod.mk.injEq] at H
   obtain ⟨rfl, rfl⟩ := H
   go_enter Tryz.func30, Tryz.ntmps30
   go_wp2_with (first | ((with_reducible refine gate_callee (f := 57) rfl ?_); refine goesL_ (some 13) rfl rfl Tryz.func57 (by kernel_rfl) rfl #[.int .u8 a0, .slice none 0 0] rfl (am_ rfl) ?_; (refine (word_open.calls k a0 _ _ ([] : List Int) t109 t110 t111 t112 _ ?side1 ?side2 A4.out).mono ?_); (case side1 => exact Kd.C_nil _ _); (case side2 => exact Nat.le_refl _); rintro e w8 ⟨rfl, hb⟩; refine ⟨_, rfl, ?_⟩; replace HB := hs_ hb; (try clear hb)) | ((with_reducible refine gate_dst (N := 8) rfl ?_); refine box_event ?hg (N := 8) ?hd (cs := #[.int .i64 0, .int .i64 0, .int .u64 0]) (t := 72) ?hr ?_; (case hd => rfl); (case hg => rfl); (case hr => first | (go_simp; done) | (go_simp; rfl)); intro gb113 hg w9 hbox hb; have BK113 := A0_ (hbox); have GW113 := A0_ ((by rw [hg]; exact (below_size (qm_ HB.out)) : w.heap.size ≤ gb113)); have GE113 := GW113; replace HB := hs_ hb; clear hb hbox hg; have hcz10 := bc3_ BK113.out; have hfz10 := bf3_ BK113.out) | ((with_reducible refine gate_value rfl ?_); refine goesV_ (some 21) rfl rfl FV2.out.1 FV2.out.2.1 FV2.out.2.2.1 [.agg #[.int .i64 t109, .int .i64 t110, .int .u64 t111]] fc2 rfl rfl (by (try simp only [List.map_toArray, List.map_cons, List.map_nil]); first | done | rfl) ?_; (refine (FV2.out.2.2.2 t109 t110 t111 t114 _ qz_ A6.out).mono ?_); rintro e w11 ⟨rfl, hb⟩; refine ⟨_, rfl, ?_⟩; replace BK113 := A0_ (blk_below (g := gb113) (o := .cells #[.int .i64 t109, .int .i64 t110, .int .u64 t111] 72 (0, 0)) (by (with_reducible repeat first | apply bN_ | apply bD_ | apply bA_); refine blk_put (cs := #[.int .i64 t109, .int .i64 t110, .int .u64 0]) ?_ 2 _ rfl; refine blk_put (cs := #[.int .i64 t109, .int .i64 0, .int .u64 0]) ?_ 1 _ rfl; refine blk_put (cs := #[.int .i64 0, .int .i64 0, .int .u64 0]) ?_ 0 _ rfl; exact bm_ BK113.out) hb); replace HB := hs_ hb; (try clear hb); have hcz12 := bc3_ BK113.out; have hfz12 := bf3_ BK113.out))
   go_ret2
   exact ⟨by first | rfl | (simp [errW_none, errW_some] <;> rfl) | (simp [*, errW_none, errW_some] <;> rfl), qz_⟩
  ·replace c7 := Bool.eq_false_iff.mpr c7
   subst c7
   rw [if_neg (show ¬ (false = true) by decide)] at H
   simp only [Option.some.injEq, Prod.mk.injEq] at H
   obtain ⟨rfl, rfl⟩ := H
   go_enter Tryz.func30, Tryz.ntmps30
   go_wp2_with (first | ((with_reducible refine gate_callee (f := 57) rfl ?_); refine goesL_ (some 13) rfl rfl Tryz.func57 (by kernel_rfl) rfl #[.int .u8 a0, .slice none 0 0] rfl (am_ rfl) ?_; (refine (word_open.calls k a0 _ _ ([] : List Int) t109 t110 t111 t112 _ ?side1 ?side2 A4.out).mono ?_); (case side1 => exact Kd.C_nil _ _); (case side2 => exact Nat.le_refl _); rintro e w13 ⟨rfl, hb⟩; refine ⟨_, rfl, ?_⟩; replace HB := hs_ hb; (try clear hb)) | ((with_reducible refine gate_dst (N := 8) rfl ?_); refine box_event ?hg (N := 8) ?hd (cs := #[.int .i64 0, .int .i64 0, .int .u64 0]) (t := 72) ?hr ?_; (case hd => rfl); (case hg => rfl); (case hr => first | (go_simp; done) | (go_simp; rfl)); intro gb113 hg w14 hbox hb; have BK113 := A0_ (hbox); have GW113 := A0_ ((by rw [hg]; exact (below_size (qm_ HB.out)) : w.heap.size ≤ gb113)); have GE113 := GW113; replace HB := hs_ hb; clear hb hbox hg; have hcz15 := bc3_ BK113.out; have hfz15 := bf3_ BK113.out) | ((with_reducible refine gate_value rfl ?_); refine goesV_ (some 21) rfl rfl FV2.out.1 FV2.out.2.1 FV2.out.2.2.1 [.agg #[.int .i64 t109, .int .i64 t110, .int .u64 t111]] fc2 rfl rfl (by (try simp only [List.map_toArray, List.map_cons, List.map_nil]); first | done | rfl) ?_; (refine (FV2.out.2.2.2 t109 t110 t111 t114 _ qz_ A6.out).mono ?_); rintro e w16 ⟨rfl, hb⟩; refine ⟨_, rfl, ?_⟩; replace BK113 := A0_ (blk_below (g := gb113) (o := .cells #[.int .i64 t109, .int .i64 t110, .int .u64 t111] 72 (0, 0)) (by (with_reducible repeat first | apply bN_ | apply bD_ | apply bA_); refine blk_put (cs := #[.int .i64 t109, .int .i64 t110, .int .u64 0]) ?_ 2 _ rfl; refine blk_put (cs := #[.int .i64 t109, .int .i64 0, .int .u64 0]) ?_ 1 _ rfl; refine blk_put (cs := #[.int .i64 0, .int .i64 0, .int .u64 0]) ?_ 0 _ rfl; exact bm_ BK113.out) hb); replace HB := hs_ hb; (try clear hb)))
   go_ret2
   exact ⟨by first | rfl | (simp [errW_none, errW_some] <;> rfl) | (simp [*, errW_none, errW_some] <;> rfl), qz_⟩
 ·rw [if_neg c5] at H
  have c5b0 : (t112 == 0) = false := beq_eq_false_iff_ne.mpr c5
  have c5b1 : (t112 != 0) = true := bne_iff_ne.mpr c5
  simp only [Option.some.injEq, Prod.mk.injEq] at H
  obtain ⟨rfl, rfl⟩ := H
  go_enter Tryz.func30, Tryz.ntmps30
  go_wp2_with (first | ((with_reducible refine gate_callee (f := 57) rfl ?_); refine goesL_ (some 13) rfl rfl Tryz.func57 (by kernel_rfl) rfl #[.int .u8 a0, .slice none 0 0] rfl (am_ rfl) ?_; (refine (word_open.calls k a0 _ _ ([] : List Int) t109 t110 t111 t112 _ ?side1 ?side2 A4.out).mono ?_); (case side1 => exact Kd.C_nil _ _); (case side2 => exact Nat.le_refl _); rintro e w17 ⟨rfl, hb⟩; refine ⟨_, rfl, ?_⟩; replace HB := hs_ hb; (try clear hb)) | ((with_reducible refine gate_dst (N := 8) rfl ?_); refine box_event ?hg (N := 8) ?hd (cs := #[.int .i64 0, .int .i64 0, .int .u64 0]) (t := 72) ?hr ?_; (case hd => rfl); (case hg => rfl); (case hr => first | (go_simp; done) | (go_simp; rfl)); intro gb113 hg w18 hbox hb; have BK113 := A0_ (hbox); have GW113 := A0_ ((by rw [hg]; exact (below_size (qm_ HB.out)) : w.heap.size ≤ gb113)); have GE113 := GW113; replace HB := hs_ hb; clear hb hbox hg; have hcz19 := bc3_ BK113.out; have hfz19 := bf3_ BK113.out))
  go_ret2
  exact ⟨by first | rfl | (simp [errW_none, errW_some] <;> rfl) | (simp [*, errW_none, errW_some] <;> rfl), qz_⟩
end Go.Proofs.YtlgapmhjaaajfaaGreat.PA
end

section
namespace Go.Proofs.YtlgapmhjaaajfaaGreat.PA
open Go.RowKit Go.Proofs.YtlgapmhjaaajfaaGreatW.PrintWords Go.Proofs.YtlgapmhjaaajfaaGreatW.PrintLast Go.Proofs.YtlgapmhjaaajfaaGreatW.PrintMore
attribute [local go_sem] max2_int min2_int max_two min_two max_three min_three max_four min_four   -- for this text's walks alone
set_option linter.unusedVariables false
set_option linter.unusedSimpArgs false
def word_shape_inf.f (a0_0 : Int) (a0_1 : Int) (a0_2 : Int) : Option (Int) := if 0 ≤ a0_0 then (some (shl .u64 (IntKind.u64.wrap (a0_1)) a0_0)) else (none)
theorem word_shape_inf.calls (a0_0 : Int) (a0_1 : Int) (a0_2 : Int) (r : Int) (w : World) (h : word_shape_inf.f a0_0 a0_1 a0_2 = some r) :
  Calls Tryz.prog 31 #[.agg #[.int .i64 a0_0, .int .i64 a0_1, .int .u64 a0_2]] w fun e w' => e = .returned (.int .u64 r) ∧ Below w.heap.size w w' := by
 have hu72 := Tryz.underlying72
 have HB := A0_ (Below.refl w.heap.size w)
 have H := h
 clear h
 unfold word_shape_inf.f at H
 obtain ⟨c2, H⟩ := ic_ H
 have c2b0 := eq_true c2
 have c2b1 : decide (0 ≤ a0_0) = true := decide_eq_true c2
 clear c2
 obtain ⟨ji3, hji3⟩ : ∃ j_ : Int, (shl .u64 (IntKind.u64.wrap (a0_1)) a0_0) = j_ := ⟨_, rfl⟩
 replace H : (some ji3) = some r := by first | (rw [hji3] at H; exact H) | (simp only [hji3] at H ⊢; exact H)
 have hji3_ : (IntKind.u64.wrap ((IntKind.u64.wrap (a0_1)) * 2 ^ min a0_0.toNat 64)) = ji3 := hji3
 have hji3z : a0_0 ≤ 64 → (IntKind.u64.wrap ((IntKind.u64.wrap (a0_1)) * 2 ^ a0_0.toNat)) = ji3 := shl_small hji3
 obtain rfl := Option.some.inj H
 go_enter Tryz.func31, Tryz.ntmps31
 go_wp2_with (first | ((with_reducible refine gate_dst (N := 1) rfl ?_); refine box_event ?hg (N := 1) ?hd (cs := #[.int .i64 a0_0, .int .i64 a0_1, .int .u64 a0_2]) (t := 72) ?hr ?_; (case hd => rfl); (case hg => rfl); (case hr => first | (go_simp; done) | (go_simp; rfl)); intro gb115 hg w4 hbox hb; have BK115 := A0_ (hbox); have GW115 := A0_ ((by rw [hg]; exact (below_size (qm_ HB.out)) : w.heap.size ≤ gb115)); have GE115 := GW115; replace HB := hs_ hb; clear hb hbox hg; have hcz5 := bc3_ BK115.out; have hfz5 := bf3_ BK115.out))
 go_ret
 exact ⟨by first | rfl | (simp [errW_none, errW_some] <;> rfl) | (simp only [← hji3]; first | rfl | (simp [errW_none, errW_some] <;> rfl)) | (simp [*, errW_none, errW_some] <;> rfl), qz_⟩
def word_Inf.f (k : Nat) (a0 : Int) (a1 : Bool) : Option (Int × Int) := (word_named.f k a0 a1 (word_shape_inf.f)).bind fun bt116 => (some (bt116.1, bt116.2))
theorem word_Inf.mono : ∀ a0 a1 k, LeO (word_Inf.f k a0 a1) (word_Inf.f (k + 1) a0 a1) := by
 intro a0 a1 k
 unfold word_Inf.f
 repeat' first
   | (with_reducible exact word_named.mono _ _ _ _)
   | (with_reducible exact LeO.refl _)
   | (with_reducible exact LeO.none _)
   | (with_reducible refine LeO.ite ?_ ?_)
   | (with_reducible refine LeO.bind ?_ (fun _ => ?_))
   | exact word_named.mono _ _ _ _
   | exact LeO.none _
   | refine LeO.ite ?_ ?_
   | refine LeO.bind ?_ (fun _ => ?_)
theorem word_Inf.calls (k : Nat) (a0 : Int) (a1 : Bool) (r1 : Int) (r2 : Int) (w : World) (h : word_Inf.f k a0 a1 = some (r1, r2)) :
  Calls Tryz.prog 9 #[.int .u8 a0, .bool a1] w fun e w' => e = .returned (.tuple #[.int .u64 r1, .int .i64 r2]) ∧ Below w.heap.size w w' := by
 have HB := A0_ (Below.refl w.heap.size w)
 have H := h
 clear h
 unfold word_Inf.f at H
 obtain ⟨⟨t116, t117⟩, A3, H⟩ := bs_ H
 try dsimp -simprocs only at H
 simp only [Option.some.injEq, Prod.mk.injEq] at H
 obtain ⟨rfl, rfl⟩ := H
 go_enter Tryz.func9, Tryz.ntmps9
 go_wp2_with (first | ((with_reducible refine gate_callee (f := 30) rfl ?_); refine goesL_ (some 8) rfl rfl Tryz.func30 (by kernel_rfl) rfl #[.int .u8 a0, .bool a1, .func (.func 31) #[] #[]] rfl (am_ rfl) ?_; (refine (word_named.calls (fg2 := 31) (fn2 := Tryz.f31) (fc2 := []) (FV2 := A0_ ⟨Tryz.func31, by kernel_rfl, rfl, fun s0_ s1_ s2_ q0_ w_ hbw_ hh_ => word_shape_inf.calls s0_ s1_ s2_ q0_ w_ hh_⟩) k a0 a1 (word_shape_inf.f) t116 t117 _ A3.out).mono ?_); rintro e w4 ⟨rfl, hb⟩; refine ⟨_, rfl, ?_⟩; replace HB := hs_ hb; (try clear hb)))
 go_ret2
 exact ⟨by first | rfl | (simp [errW_none, errW_some] <;> rfl) | (simp [*, errW_none, errW_some] <;> rfl), qm_ HB.out⟩
def round_formOf.f (a0 : Int) : Option (Int × Int × Int × Bool) := if a0 = 1 then (some (24, (-149), 128, true)) else (if a0 = 2 then (some (53, (-1074), 1024, true)) else (some (0, 0, 0, false)))
theorem round_formOf.calls (a0 : Int) (r1 : Int) (r2 : Int) (r3 : Int) (r4 : Bool) (w : World) (h : round_formOf.f a0 = some (r1, r2, r3, r4)) :
  Calls Tryz.prog 72 #[.int .u8 a0] w fun e w' => e = .returned (.tuple #[.agg #[.int .i64 r1, .int .i64 r2, .int .i64 r3], .bool r4]) ∧ Below w.heap.size w w' := by
 have hu94 := Tryz.underlying94
 have HB := A0_ (Below.refl w.heap.size w)
 have H := h
 clear h
 unfold round_formOf.f at H
 by_cases c2 : a0 = 1
 ·rw [if_pos c2] at H
  have c2b0 : (a0 == 1) = true := beq_iff_eq.mpr c2
  have c2b1 : (a0 != 1) = false := bne_eq_false_iff_eq.mpr c2
  clear c2
  simp only [Option.some.injEq, Prod.mk.injEq] at H
  obtain ⟨rfl, rfl, rfl, rfl⟩ := H
  go_enter Tryz.func72, Tryz.ntmps72
  go_wp2_with (first | ((with_reducible refine gate_dst (N := 2) rfl ?_); refine box_event ?hg (N := 2) ?hd (cs := #[.int .i64 0, .int .i64 0, .int .i64 0]) (t := 94) ?hr ?_; (case hd => rfl); (case hg => rfl); (case hr => first | (go_simp; done) | (go_simp; rfl)); intro gb118 hg w3 hbox hb; have BK118 := A0_ (hbox); have GW118 := A0_ ((by rw [hg]; exact (below_size (qm_ HB.out)) : w.heap.size ≤ gb118)); have GE118 := GW118; replace HB := hs_ hb; clear hb hbox hg; have hcz4 := bc3_ BK118.out; have hfz4 := bf3_ BK118.out))
  refine bodyPost_ret (results_ct rfl _ _ gb118 94 #[.int .i64 24, .int .i64 (-149), .int .i64 128] (0, 0) _ rfl (by (with_reducible repeat first | apply bN_ | apply bD_ | apply bA_); refine blk_put (cs := #[.int .i64 24, .int .i64 (-149), .int .i64 0]) ?_ 2 _ rfl; refine blk_put (cs := #[.int .i64 24, .int .i64 0, .int .i64 0]) ?_ 1 _ rfl; refine blk_put (cs := #[.int .i64 0, .int .i64 0, .int .i64 0]) ?_ 0 _ rfl; exact bm_ BK118.out) Tryz.underlying94 rfl (by kernel_rfl)) rfl ?_
  exact ⟨by first | rfl | (simp [errW_none, errW_some] <;> rfl) | (simp [*, errW_none, errW_some] <;> rfl), qz_⟩
 ·rw [if_neg c2] at H
  have c2b0 : (a0 == 1) = false := beq_eq_false_iff_ne.mpr c2
  have c2b1 : (a0 != 1) = true := bne_iff_ne.mpr c2
  by_cases c5 : a0 = 2
  ·rw [if_pos c5] at H
   have c5b0 : (a0 == 2) = true := beq_iff_eq.mpr c5
   have c5b1 : (a0 != 2) = false := bne_eq_false_iff_eq.mpr c5
   clear c5
   simp only [Option.some.injEq, Prod.mk.injEq] at H
   obtain ⟨rfl, rfl, rfl, rfl⟩ := H
   go_enter Tryz.func72, Tryz.ntmps72
   go_wp2_with (first | ((with_reducible refine gate_dst (N := 2) rfl ?_); refine box_event ?hg (N := 2) ?hd (cs := #[.int .i64 0, .int .i64 0, .int .i64 0]) (t := 94) ?hr ?_; (case hd => rfl); (case hg => rfl); (case hr => first | (go_simp; done) | (go_simp; rfl)); intro gb118 hg w6 hbox hb; have BK118 := A0_ (hbox); have GW118 := A0_ ((by rw [hg]; exact (below_size (qm_ HB.out)) : w.heap.size ≤ gb118)); have GE118 := GW118; replace HB := hs_ hb; clear hb hbox hg; have hcz7 := bc3_ BK118.out; have hfz7 := bf3_ BK118.out))
   refine bodyPost_ret (results_ct rfl _ _ gb118 94 #[.int .i64 53, .int .i64 (-1074), .int .i64 1024] (0, 0) _ rfl (by (with_reducible repeat first | apply bN_ | apply bD_ | apply bA_); refine blk_put (cs := #[.int .i64 53, .int .i64 (-1074), .int .i64 0]) ?_ 2 _ rfl; refine blk_put (cs := #[.int .i64 53, .int .i64 0, .int .i64 0]) ?_ 1 _ rfl; refine blk_put (cs := #[.int .i64 0, .int .i64 0, .int .i64 0]) ?_ 0 _ rfl; exact bm_ BK118.out) Tryz.underlying94 rfl (by kernel_rfl)) rfl ?_
   exact ⟨by first | rfl | (simp [errW_none, errW_some] <;> rfl) | (simp [*, errW_none, errW_some] <;> rfl), qz_⟩
  ·rw [if_neg c5] at H
   have c5b0 : (a0 == 2) = false := beq_eq_false_iff_ne.mpr c5
   have c5b1 : (a0 != 2) = true := bne_iff_ne.mpr c5
   simp only [Option.some.injEq, Prod.mk.injEq] at H
   obtain ⟨rfl, rfl, rfl, rfl⟩ := H
   go_enter Tryz.func72, Tryz.ntmps72
   go_wp2_with (first | ((with_reducible refine gate_dst (N := 2) rfl ?_); refine box_event ?hg (N := 2) ?hd (cs := #[.int .i64 0, .int .i64 0, .int .i64 0]) (t := 94) ?hr ?_; (case hd => rfl); (case hg => rfl); (case hr => first | (go_simp; done) | (go_simp; rfl)); intro gb118 hg w8 hbox hb; have BK118 := A0_ (hbox); have GW118 := A0_ ((by rw [hg]; exact (below_size (qm_ HB.out)) : w.heap.size ≤ gb118)); have GE118 := GW118; replace HB := hs_ hb; clear hb hbox hg; have hcz9 := bc3_ BK118.out; have hfz9 := bf3_ BK118.out))
   refine bodyPost_ret (results_ct rfl _ _ gb118 94 #[.int .i64 0, .int .i64 0, .int .i64 0] (0, 0) _ rfl (by (with_reducible repeat first | apply bN_ | apply bD_ | apply bA_); refine blk_put (cs := #[.int .i64 0, .int .i64 0, .int .i64 0]) ?_ 2 _ rfl; refine blk_put (cs := #[.int .i64 0, .int .i64 0, .int .i64 0]) ?_ 1 _ rfl; refine blk_put (cs := #[.int .i64 0, .int .i64 0, .int .i64 0]) ?_ 0 _ rfl; exact bm_ BK118.out) Tryz.underlying94 rfl (by kernel_rfl)) rfl ?_
   exact ⟨by first | rfl | (simp [errW_none, errW_some] <;> rfl) | (simp [*, errW_none, errW_some] <;> rfl), qz_⟩
def nat_May.f (l0 : List Int) : Option (Bool) := if (l0.length : Int) ≤ 4096 then (if (l0.length : Int) = 0 then (some true) else (if 0 ≤ (wrap64 ((l0.length : Int) - 1)) then (if (wrap64 ((l0.length : Int) - 1)) < (l0.length : Int) then (some ((rd l0 (wrap64 ((l0.length : Int) - 1))) != 0)) else (none)) else (none))) else (some false)
theorem nat_May.calls (A0 : Option Addr) (c0 : Nat) (l0 : List Int) (r : Bool) (w : World) (hr0 : Kd.C (Kd.int .u32) w A0 l0.length l0) (hc0 : l0.length ≤ c0) (h : nat_May.f l0 = some r) :
  Calls Tryz.prog 93 #[.slice A0 l0.length c0] w fun e w' => e = .returned (.bool r) ∧ Drawn0 w w' := by
 have HR0 := A0_ hr0
 have HC0 := A0_ hc0
 clear hr0 hc0
 have H := h
 clear h
 unfold nat_May.f at H
 by_cases c2 : (l0.length : Int) ≤ 4096
 ·rw [if_pos c2] at H
  have c2b0 : decide ((l0.length : Int) ≤ 4096) = true := decide_eq_true c2
  have c2b1 : decide (l0.length ≤ 4096) = true := decide_eq_true (by omega)
  clear c2
  by_cases c3 : (l0.length : Int) = 0
  ·rw [if_pos c3] at H
   have c3b0 : ((l0.length : Int) == 0) = true := beq_iff_eq.mpr c3
   have c3b1 : ((l0.length : Int) != 0) = false := bne_eq_false_iff_eq.mpr c3
   clear c3
   obtain rfl := Option.some.inj H
   go_enter Tryz.func93, Tryz.ntmps93
   go_wp2
   go_ret
   exact ⟨by first | rfl | (simp; done) | (simp [*]; done), by repeat (first | exact Drawn0.refl _ | apply Drawn0.step)⟩
  ·rw [if_neg c3] at H
   have c3b0 : ((l0.length : Int) == 0) = false := beq_eq_false_iff_ne.mpr c3
   have c3b1 : ((l0.length : Int) != 0) = true := bne_iff_ne.mpr c3
   have c3b2 : ¬ (l0 = []) := fun h_ => c3 (by rw [h_]; rfl)
   obtain ⟨ji4, hji4⟩ : ∃ j_ : Int, (wrap64 ((l0.length : Int) - 1)) = j_ := ⟨_, rfl⟩
   replace H : (if 0 ≤ (ji4) then (if (ji4) < (l0.length : Int) then (some ((rd l0 (ji4)) != 0)) else (none)) else (none)) = some r := by first | (rw [hji4] at H; exact H) | (simp only [hji4] at H ⊢; exact H)
   have hji4w : (IntKind.i64.wrap ((l0.length : Int) - 1)) = ji4 := (i64_w _).trans hji4
   obtain ⟨c5, H⟩ := ic_ H
   have c5b0 : decide (0 ≤ (ji4)) = true := decide_eq_true c5
   clear c5
   obtain ⟨c6, H⟩ := ic_ H
   have c6b0 : decide ((ji4) < (l0.length : Int)) = true := decide_eq_true c6
   clear c6
   obtain rfl := Option.some.inj H
   have p119 : 0 ≤ ((ji4) : Int) := of_decide_eq_true (by first | (with_reducible assumption) | assumption)
   have q119 : (ji4) < (l0.length : Int) := of_decide_eq_true (by first | (with_reducible assumption) | assumption)
   obtain ⟨ad119, e119, hx119_0⟩ := Kd.at_int HR0.out (ji4) p119 q119
   cases e119
   replace p119 := eq_true p119
   replace q119 := eq_true q119
   go_enter Tryz.func93, Tryz.ntmps93
   go_wp2
   go_ret
   exact ⟨by first | rfl | (simp; done) | (simp only [← hji4] <;> (first | rfl | simp)) | (simp [*]; done), by repeat (first | exact Drawn0.refl _ | apply Drawn0.step)⟩
 ·rw [if_neg c2] at H
  have c2b0 : decide ((l0.length : Int) ≤ 4096) = false := decide_eq_false c2
  have c2b1 : decide (l0.length ≤ 4096) = false := decide_eq_false (by omega)
  clear c2
  obtain rfl := Option.some.inj H
  go_enter Tryz.func93, Tryz.ntmps93
  go_wp2
  go_ret
  exact ⟨by first | rfl | (simp; done) | (simp [*]; done), by repeat (first | exact Drawn0.refl _ | apply Drawn0.step)⟩
def dyad_inside.f (a0 : Int) : Option (Bool) := if (-16777216) ≤ a0 then (some (decide (a0 ≤ 16777216))) else (some false)
theorem dyad_inside.calls (a0 : Int) (r : Bool) (w : World) (h : dyad_inside.f a0 = some r) :
  Calls Tryz.prog 94 #[.int .i64 a0] w fun e w' => e = .returned (.bool r) ∧ Drawn0 w w' := by
 have H := h
 clear h
 unfold dyad_inside.f at H
 by_cases c2 : (-16777216) ≤ a0
 ·rw [if_pos c2] at H
  have c2b0 : decide ((-16777216) ≤ a0) = true := decide_eq_true c2
  clear c2
  obtain rfl := Option.some.inj H
  go_enter Tryz.func94, Tryz.ntmps94
  go_wp2
  go_ret
  exact ⟨by first | rfl | (simp; done) | (simp [*]; done), by repeat (first | exact Drawn0.refl _ | apply Drawn0.step)⟩
 ·rw [if_neg c2] at H
  have c2b0 : decide ((-16777216) ≤ a0) = false := decide_eq_false c2
  clear c2
  obtain rfl := Option.some.inj H
  go_enter Tryz.func94, Tryz.ntmps94
  go_wp2
  go_ret
  exact ⟨by first | rfl | (simp; done) | (simp [*]; done), by repeat (first | exact Drawn0.refl _ | apply Drawn0.step)⟩
def dyad_May.f (a0_0 : Bool) (l0_1 : List Int) (a0_2 : Int) : Option (Bool) := (nat_May.f l0_1).bind fun t121 => (if t121 = true then (if (l0_1.length : Int) = 0 then (if a0_0 = true then (some false) else (some (a0_2 == 0))) else (if 0 < (l0_1.length : Int) then (if (Go.bits .and .u32 (rd l0_1 0) 1) = 1 then ((dyad_inside.f a0_2).bind fun t123 => (some t123)) else (some false)) else (none))) else (some false))
theorem dyad_May.calls (a0_0 : Bool) (A0_1 : Option Addr) (c0_1 : Nat) (l0_1 : List Int) (a0_2 : Int) (r : Bool) (w : World) (hr0_1 : Kd.C (Kd.int .u32) w A0_1 l0_1.length l0_1) (hc0_1 : l0_1.length ≤ c0_1) (h : dyad_May.f a0_0 l0_1 a0_2 = some r) :
  Calls Tryz.prog 73 #[.agg #[.bool a0_0, .slice A0_1 l0_1.length c0_1, .int .i64 a0_2]] w fun e w' => e = .returned (.bool r) ∧ Below w.heap.size w w' := by
 have hu107 := Tryz.underlying107
 have HR0_1 := A0_ hr0_1
 have HC0_1 := A0_ hc0_1
 clear hr0_1 hc0_1
 have HB := A0_ (Below.refl w.heap.size w)
 have H := h
 clear h
 unfold dyad_May.f at H
 obtain ⟨t121, A2, H⟩ := bs_ H
 try dsimp -simprocs only at H
 by_cases c3 : t121 = true
 ·subst c3
  rw [if_pos rfl] at H
  by_cases c4 : (l0_1.length : Int) = 0
  ·rw [if_pos c4] at H
   have c4b0 : ((l0_1.length : Int) == 0) = true := beq_iff_eq.mpr c4
   have c4b1 : ((l0_1.length : Int) != 0) = false := bne_eq_false_iff_eq.mpr c4
   clear c4
   by_cases c5 : a0_0 = true
   ·subst c5
    rw [if_pos rfl] at H
    obtain rfl := Option.some.inj H
    go_enter Tryz.func73, Tryz.ntmps73
    go_wp2_with (first | ((with_reducible refine gate_dst (N := 1) rfl ?_); refine box_event ?hg (N := 1) ?hd (cs := #[.bool true, .slice A0_1 l0_1.length c0_1, .int .i64 a0_2]) (t := 107) ?hr ?_; (case hd => rfl); (case hg => rfl); (case hr => first | (go_simp; done) | (go_simp; rfl)); intro gb120 hg w6 hbox hb; have BK120 := A0_ (hbox); have GW120 := A0_ ((by rw [hg]; exact (below_size (qm_ HB.out)) : w.heap.size ≤ gb120)); have GE120 := GW120; replace HB := hs_ hb; clear hb hbox hg; have hcz7 := bc3_ BK120.out; have hfz7 := bf3_ BK120.out) | ((with_reducible refine gate_callee (f := 93) rfl ?_); refine goesL_ (some 5) rfl rfl Tryz.func93 (by kernel_rfl) rfl #[.slice A0_1 l0_1.length c0_1] rfl (am_ rfl) ?_; (with_reducible refine (nat_May.calls _ _ l0_1 true _ ?side1 ?side2 A2.out).mono ?_); (case side1 => repeat (first | exact (Kd.C_below HR0_1.out HB.out) | (with_reducible refine Kd.C_alloc ?_ _) | (with_reducible refine Kd.C_drewN ?_ _) | (with_reducible refine Kd.C_drew ?_))); (case side2 => exact HC0_1.out); rintro e w' ⟨rfl, ⟨nd, rfl⟩⟩; refine ⟨_, rfl, ?_⟩))
    go_ret
    exact ⟨by first | rfl | (simp [errW_none, errW_some] <;> rfl) | (simp [*, errW_none, errW_some] <;> rfl), qz_⟩
   ·replace c5 := Bool.eq_false_iff.mpr c5
    subst c5
    rw [if_neg (show ¬ (false = true) by decide)] at H
    obtain rfl := Option.some.inj H
    go_enter Tryz.func73, Tryz.ntmps73
    go_wp2_with (first | ((with_reducible refine gate_dst (N := 1) rfl ?_); refine box_event ?hg (N := 1) ?hd (cs := #[.bool false, .slice A0_1 l0_1.length c0_1, .int .i64 a0_2]) (t := 107) ?hr ?_; (case hd => rfl); (case hg => rfl); (case hr => first | (go_simp; done) | (go_simp; rfl)); intro gb120 hg w8 hbox hb; have BK120 := A0_ (hbox); have GW120 := A0_ ((by rw [hg]; exact (below_size (qm_ HB.out)) : w.heap.size ≤ gb120)); have GE120 := GW120; replace HB := hs_ hb; clear hb hbox hg; have hcz9 := bc3_ BK120.out; have hfz9 := bf3_ BK120.out) | ((with_reducible refine gate_callee (f := 93) rfl ?_); refine goesL_ (some 5) rfl rfl Tryz.func93 (by kernel_rfl) rfl #[.slice A0_1 l0_1.length c0_1] rfl (am_ rfl) ?_; (with_reducible refine (nat_May.calls _ _ l0_1 true _ ?side1 ?side2 A2.out).mono ?_); (case side1 => repeat (first | exact (Kd.C_below HR0_1.out HB.out) | (with_reducible refine Kd.C_alloc ?_ _) | (with_reducible refine Kd.C_drewN ?_ _) | (with_reducible refine Kd.C_drew ?_))); (case side2 => exact HC0_1.out); rintro e w' ⟨rfl, ⟨nd, rfl⟩⟩; refine ⟨_, rfl, ?_⟩))
    go_ret
    exact ⟨by first | rfl | (simp [errW_none, errW_some] <;> rfl) | (simp [*, errW_none, errW_some] <;> rfl), qz_⟩
  ·rw [if_neg c4] at H
   have c4b0 : ((l0_1.length : Int) == 0) = false := beq_eq_false_iff_ne.mpr c4
   have c4b1 : ((l0_1.length : Int) != 0) = true := bne_iff_ne.mpr c4
   have c4b2 : ¬ (l0_1 = []) := fun h_ => c4 (by rw [h_]; rfl)
   obtain ⟨(c10 : 0 < (l0_1.length : Int)), H⟩ := ic_ H
   have c10b0 : decide (0 < (l0_1.length : Int)) = true := decide_eq_true c10
   have c10b1 : decide (0 < l0_1.length) = true := decide_eq_true (by omega)
   clear c10
   by_cases c11 : (Go.bits .and .u32 (rd l0_1 0) 1) = 1
   ·rw [if_pos c11] at H
    have c11b0 : ((Go.bits .and .u32 (rd l0_1 0) 1) == 1) = true := beq_iff_eq.mpr c11
    have c11b1 : ((Go.bits .and .u32 (rd l0_1 0) 1) != 1) = false := bne_eq_false_iff_eq.mpr c11
    clear c11
    obtain ⟨t123, A12, H⟩ := bs_ H
    try dsimp -simprocs only at H
    obtain rfl := Option.some.inj H
    go_enter Tryz.func73, Tryz.ntmps73
    go_wp2_with (first | ((with_reducible refine gate_dst (N := 1) rfl ?_); refine box_event ?hg (N := 1) ?hd (cs := #[.bool a0_0, .slice A0_1 l0_1.length c0_1, .int .i64 a0_2]) (t := 107) ?hr ?_; (case hd => rfl); (case hg => rfl); (case hr => first | (go_simp; done) | (go_simp; rfl)); intro gb120 hg w13 hbox hb; have BK120 := A0_ (hbox); have GW120 := A0_ ((by rw [hg]; exact (below_size (qm_ HB.out)) : w.heap.size ≤ gb120)); have GE120 := GW120; replace HB := hs_ hb; clear hb hbox hg; have hcz14 := bc3_ BK120.out; have hfz14 := bf3_ BK120.out) | ((with_reducible refine gate_callee (f := 93) rfl ?_); refine goesL_ (some 5) rfl rfl Tryz.func93 (by kernel_rfl) rfl #[.slice A0_1 l0_1.length c0_1] rfl (am_ rfl) ?_; (with_reducible refine (nat_May.calls _ _ l0_1 true _ ?side1 ?side2 A2.out).mono ?_); (case side1 => repeat (first | exact (Kd.C_below HR0_1.out HB.out) | (with_reducible refine Kd.C_alloc ?_ _) | (with_reducible refine Kd.C_drewN ?_ _) | (with_reducible refine Kd.C_drew ?_))); (case side2 => exact HC0_1.out); rintro e w' ⟨rfl, ⟨nd, rfl⟩⟩; refine ⟨_, rfl, ?_⟩; have p122 : 0 ≤ (0 : Int) := (by omega); have q122 : 0 < (l0_1.length : Int) := of_decide_eq_true (by first | (with_reducible assumption) | assumption); obtain ⟨ad122, e122, hx122_0⟩ := Kd.at_int HR0_1.out 0 p122 q122; cases e122; have qi122 : (0 < l0_1.length) = True := eq_true (by omega); (try rw [show ((0 : Int)).toNat = 0 from rfl] at hx122_0); (try rw [Addr.add_zero'] at hx122_0); replace hx122_0 := (HB.out.cell (World.block_lt_of_cell? w _ hx122_0)).trans hx122_0; replace p122 := eq_true p122; replace q122 := eq_true q122) | (go_at_call 94; (with_reducible refine (dyad_inside.calls a0_2 t123 _ A12.out).mono ?_); rintro e w' ⟨rfl, ⟨nd, rfl⟩⟩))
    go_ret
    exact ⟨by first | rfl | (simp [errW_none, errW_some] <;> rfl) | (simp [*, errW_none, errW_some] <;> rfl), qz_⟩
   ·rw [if_neg c11] at H
    have c11b0 : ((Go.bits .and .u32 (rd l0_1 0) 1) == 1) = false := beq_eq_false_iff_ne.mpr c11
    have c11b1 : ((Go.bits .and .u32 (rd l0_1 0) 1) != 1) = true := bne_iff_ne.mpr c11
    obtain rfl := Option.some.inj H
    go_enter Tryz.func73, Tryz.ntmps73
    go_wp2_with (first | ((with_reducible refine gate_dst (N := 1) rfl ?_); refine box_event ?hg (N := 1) ?hd (cs := #[.bool a0_0, .slice A0_1 l0_1.length c0_1, .int .i64 a0_2]) (t := 107) ?hr ?_; (case hd => rfl); (case hg => rfl); (case hr => first | (go_simp; done) | (go_simp; rfl)); intro gb120 hg w15 hbox hb; have BK120 := A0_ (hbox); have GW120 := A0_ ((by rw [hg]; exact (below_size (qm_ HB.out)) : w.heap.size ≤ gb120)); have GE120 := GW120; replace HB := hs_ hb; clear hb hbox hg; have hcz16 := bc3_ BK120.out; have hfz16 := bf3_ BK120.out) | ((with_reducible refine gate_callee (f := 93) rfl ?_); refine goesL_ (some 5) rfl rfl Tryz.func93 (by kernel_rfl) rfl #[.slice A0_1 l0_1.length c0_1] rfl (am_ rfl) ?_; (with_reducible refine (nat_May.calls _ _ l0_1 true _ ?side1 ?side2 A2.out).mono ?_); (case side1 => repeat (first | exact (Kd.C_below HR0_1.out HB.out) | (with_reducible refine Kd.C_alloc ?_ _) | (with_reducible refine Kd.C_drewN ?_ _) | (with_reducible refine Kd.C_drew ?_))); (case side2 => exact HC0_1.out); rintro e w' ⟨rfl, ⟨nd, rfl⟩⟩; refine ⟨_, rfl, ?_⟩; have p122 : 0 ≤ (0 : Int) := (by omega); have q122 : 0 < (l0_1.length : Int) := of_decide_eq_true (by first | (with_reducible assumption) | assumption); obtain ⟨ad122, e122, hx122_0⟩ := Kd.at_int HR0_1.out 0 p122 q122; cases e122; have qi122 : (0 < l0_1.length) = True := eq_true (by omega); (try rw [show ((0 : Int)).toNat = 0 from rfl] at hx122_0); (try rw [Addr.add_zero'] at hx122_0); replace hx122_0 := (HB.out.cell (World.block_lt_of_cell? w _ hx122_0)).trans hx122_0; replace p122 := eq_true p122; replace q122 := eq_true q122))
    go_ret
    exact ⟨by first | rfl | (simp [errW_none, errW_some] <;> rfl) | (simp [*, errW_none, errW_some] <;> rfl), qz_⟩
 ·replace c3 := Bool.eq_false_iff.mpr c3
  subst c3
  rw [if_neg (show ¬ (false = true) by decide)] at H
  obtain rfl := Option.some.inj H
  go_enter Tryz.func73, Tryz.ntmps73
  go_wp2_with (first | ((with_reducible refine gate_dst (N := 1) rfl ?_); refine box_event ?hg (N := 1) ?hd (cs := #[.bool a0_0, .slice A0_1 l0_1.length c0_1, .int .i64 a0_2]) (t := 107) ?hr ?_; (case hd => rfl); (case hg => rfl); (case hr => first | (go_simp; done) | (go_simp; rfl)); intro gb120 hg w17 hbox hb; have BK120 := A0_ (hbox); have GW120 := A0_ ((by rw [hg]; exact (below_size (qm_ HB.out)) : w.heap.size ≤ gb120)); have GE120 := GW120; replace HB := hs_ hb; clear hb hbox hg; have hcz18 := bc3_ BK120.out; have hfz18 := bf3_ BK120.out) | ((with_reducible refine gate_callee (f := 93) rfl ?_); refine goesL_ (some 5) rfl rfl Tryz.func93 (by kernel_rfl) rfl #[.slice A0_1 l0_1.length c0_1] rfl (am_ rfl) ?_; (with_reducible refine (nat_May.calls _ _ l0_1 false _ ?side1 ?side2 A2.out).mono ?_); (case side1 => repeat (first | exact (Kd.C_below HR0_1.out HB.out) | (with_reducible refine Kd.C_alloc ?_ _) | (with_reducible refine Kd.C_drewN ?_ _) | (with_reducible refine Kd.C_drew ?_))); (case side2 => exact HC0_1.out); rintro e w' ⟨rfl, ⟨nd, rfl⟩⟩; refine ⟨_, rfl, ?_⟩))
  go_ret
  exact ⟨by first | rfl | (simp [errW_none, errW_some] <;> rfl) | (simp [*, errW_none, errW_some] <;> rfl), qz_⟩
end Go.Proofs.YtlgapmhjaaajfaaGreat.PA
end

section
namespace Go.Proofs.YtlgapmhjaaajfaaGreat.PA
open Go.RowKit Go.Proofs.YtlgapmhjaaajfaaGreatW.PrintWords Go.Proofs.YtlgapmhjaaajfaaGreatW.PrintLast Go.Proofs.YtlgapmhjaaajfaaGreatW.PrintMore
attribute [local go_sem] max2_int min2_int max_two min_two max_three min_three max_four min_four   -- for this text's walks alone
set_option linter.unusedVariables false
set_option linter.unusedSimpArgs false
mutual
def round_open.j0 : Nat → List (S107) → Bool → Int → Int → Int → Option (Int × Int × Int × Int)
 | 0, _, _, _, _, _ => none
 | k + 1, x2, x25, x130000, x130001, x130002 => if x25 = true then (some (x130000, x130001, x130002, 5)) else (round_open.l0 k x2 (x2.length : Int) 0 x130000 x130001 x130002)
def round_open.l0 : Nat → List (S107) → Int → Int → Int → Int → Int → Option (Int × Int × Int × Int)
 | 0, _, _, _, _, _, _ => none
 | k + 1, x27, x28, x29, x130000, x130001, x130002 => if x29 < x28 then (if 0 ≤ x29 then (if x29 < (x27.length : Int) then ((dyad_May.f ((rd_T107 x27 x29).f0) ((rd_T107 x27 x29).f1) ((rd_T107 x27 x29).f2)).bind fun t132 => (if t132 = true then (round_open.l0 k x27 x28 (wrap64 (x29 + 1)) x130000 x130001 x130002) else (some (x130000, x130001, x130002, 2)))) else (none)) else (none)) else (some (x130000, x130001, x130002, 0))
end
def round_open.f (k : Nat) (a0 : Int) (a1 : Int) (l2 : List (S107)) : Option (Int × Int × Int × Int) := (round_formOf.f a0).bind fun bt125 => (if bt125.2.2.2 = true then (if a1 < 1 then (round_open.j0 k l2 true bt125.1 bt125.2.1 bt125.2.2.1) else (round_open.j0 k l2 (decide (a1 > 5)) bt125.1 bt125.2.1 bt125.2.2.1)) else (some (bt125.1, bt125.2.1, bt125.2.2.1, 4)))
theorem round_open.mono_l : ∀ k, (∀ y0 y1 y2 y3 y4, LeO (round_open.j0 k y0 y1 y2 y3 y4) (round_open.j0 (k + 1) y0 y1 y2 y3 y4)) ∧ (∀ y0 y1 y2 y3 y4 y5, LeO (round_open.l0 k y0 y1 y2 y3 y4 y5) (round_open.l0 (k + 1) y0 y1 y2 y3 y4 y5))
 | 0 => ⟨fun _ _ _ _ _ r h => by simp [round_open.j0] at h, fun _ _ _ _ _ _ r h => by simp [round_open.l0] at h⟩
 | k + 1 => by
  obtain ⟨ih0, ih1⟩ := round_open.mono_l k
  refine ⟨?_, ?_⟩
  ·intro y0 y1 y2 y3 y4
   unfold round_open.j0
   repeat' first
   | (with_reducible exact ih0 _ _ _ _ _)
   | (with_reducible exact ih1 _ _ _ _ _ _)
   | (with_reducible exact LeO.refl _)
   | (with_reducible exact LeO.none _)
   | (with_reducible refine LeO.ite ?_ ?_)
   | (with_reducible refine LeO.bind ?_ (fun _ => ?_))
   | exact ih0 _ _ _ _ _
   | exact ih1 _ _ _ _ _ _
   | exact LeO.none _
   | refine LeO.ite ?_ ?_
   | refine LeO.bind ?_ (fun _ => ?_)
  ·intro y0 y1 y2 y3 y4 y5
   unfold round_open.l0
   repeat' first
   | (with_reducible exact ih0 _ _ _ _ _)
   | (with_reducible exact ih1 _ _ _ _ _ _)
   | (with_reducible exact LeO.refl _)
   | (with_reducible exact LeO.none _)
   | (with_reducible refine LeO.ite ?_ ?_)
   | (with_reducible refine LeO.bind ?_ (fun _ => ?_))
   | exact ih0 _ _ _ _ _
   | exact ih1 _ _ _ _ _ _
   | exact LeO.none _
   | refine LeO.ite ?_ ?_
   | refine LeO.bind ?_ (fun _ => ?_)
theorem round_open.mono : ∀ a0 a1 a2 k, LeO (round_open.f k a0 a1 a2) (round_open.f (k + 1) a0 a1 a2) := by
 intro a0 a1 a2 k
 obtain ⟨ih0, ih1⟩ := round_open.mono_l k
 unfold round_open.f
 repeat' first
   | (with_reducible exact ih0 _ _ _ _ _)
   | (with_reducible exact ih1 _ _ _ _ _ _)
   | (with_reducible exact LeO.refl _)
   | (with_reducible exact LeO.none _)
   | (with_reducible refine LeO.ite ?_ ?_)
   | (with_reducible refine LeO.bind ?_ (fun _ => ?_))
   | exact ih0 _ _ _ _ _
   | exact ih1 _ _ _ _ _ _
   | exact LeO.none _
   | refine LeO.ite ?_ ?_
   | refine LeO.bind ?_ (fun _ => ?_)
theorem round_open.calls (k : Nat) (a0 : Int) (a1 : Int) (A2 : Option Addr) (c2 : Nat) (l2 : List (S107)) (r1 : Int) (r2 : Int) (r3 : Int) (r4 : Int) (w : World) (hr2 : Kd.C k107 w A2 l2.length l2) (hc2 : l2.length ≤ c2) (h : round_open.f k a0 a1 l2 = some (r1, r2, r3, r4)) :
  Calls Tryz.prog 54 #[.int .u8 a0, .int .u8 a1, .slice A2 l2.length c2] w fun e w' => e = .returned (.tuple #[.agg #[.int .i64 r1, .int .i64 r2, .int .i64 r3], .int .i64 r4]) ∧ Below w.heap.size w w' := by
 have hu94 := Tryz.underlying94
 have hu107 := Tryz.underlying107
 have HR2 := A0_ hr2
 have HC2 := A0_ hc2
 clear hr2 hc2
 have HB := A0_ (Below.refl w.heap.size w)
 have H := h
 clear h
 unfold round_open.f at H
 obtain ⟨⟨t125, t126, t127, t128⟩, A4, H⟩ := bs_ H
 try dsimp -simprocs only at H
 by_cases c5 : t128 = true
 ·subst c5
  rw [if_pos rfl] at H
  have HC6 := A0_ H
  clear H
  go_enter Tryz.func54, Tryz.ntmps54
  go_upto_region 4 with (first | ((with_reducible refine gate_dst (N := 6) rfl ?_); refine box_event ?hg (N := 6) ?hd (cs := #[.int .i64 0, .int .i64 0, .int .i64 0]) (t := 94) ?hr ?_; (case hd => rfl); (case hg => rfl); (case hr => first | (go_simp; done) | (go_simp; rfl)); intro gb124 hg w7 hbox hb; have BK124 := A0_ (hbox); have GW124 := A0_ ((by rw [hg]; exact (below_size (qm_ HB.out)) : w.heap.size ≤ gb124)); have GE124 := GW124; replace HB := hs_ hb; clear hb hbox hg) | ((with_reducible refine gate_callee (f := 72) rfl ?_); refine goesL_ (some 14) rfl rfl Tryz.func72 (by kernel_rfl) rfl #[.int .u8 a0] rfl (am_ rfl) ?_; (with_reducible refine (round_formOf.calls a0 t125 t126 t127 true _ A4.out).mono ?_); rintro e w8 ⟨rfl, hb⟩; refine ⟨_, rfl, ?_⟩; replace BK124 := bb_ BK124 hb; replace HB := hs_ hb; (try clear hb)) | ((with_reducible refine gate_dst (N := 8) rfl ?_); refine box_event ?hg (N := 8) ?hd (cs := #[.int .i64 0, .int .i64 0, .int .i64 0]) (t := 94) ?hr ?_; (case hd => rfl); (case hg => rfl); (case hr => first | (go_simp; done) | (go_simp; rfl)); intro gb129 hg w9 hbox hb; have BK129 := A0_ (hbox); have GW129 := A0_ ((by rw [hg]; exact (below_size qz_) : w.heap.size ≤ gb129)); have GE129 := GW129; replace HB := hs_ hb; have NB124_129 := nl_ hg BK124; have NB129_124 := ng_ hg BK124; replace BK124 := bb_ BK124 hb; clear hb hbox hg; have hnb10 := NB129_124.out; have hnc10 := NB124_129.out; have hcz11 := bc3_ BK129.out; have hfz11 := bf3_ BK129.out))
  (try simp only [Act.put, sp_])
  go_cut [25] (fun v25 wc => ∃ (kq : Nat) (x25_5 : Bool), v25 = .bool x25_5 ∧ Aside0 (round_open.j0 kq l2 x25_5 t125 t126 t127 = some (r1, r2, r3, r4)) ∧ Aside0 (kq ≤ k) ∧ Aside0 (wc.heap[gb124]? = some (.cells #[.int .i64 0, .int .i64 0, .int .i64 0] 94 (0, 0))) ∧ Aside0 (wc.heap[gb129]? = some (.cells #[.int .i64 t125, .int .i64 t126, .int .i64 t127] 94 (0, 0))) ∧ Aside0 (Below w.heap.size w wc))
  case first =>
   have H := HC6.out
   clear HC6
   by_cases c12 : a1 < 1
   ·rw [if_pos c12] at H
    have c12b0 : decide (a1 < 1) = true := decide_eq_true c12
    clear c12
    (first | rw [c12b0] | (simp only [i64_w, i32_w]; rw [c12b0]) | skip)
    have H' := A0_ H
    clear H
    go_wp2
    go_meet
    case rel => exact ⟨_, (true), (by first | rfl | (simp; done) | (simp [*]; done)), H', ⟨by first | omega | exact Nat.le_refl _⟩, ⟨by (with_reducible repeat first | apply bN_ | apply bD_ | apply bA_); refine blk_far ?_ NB124_129.out _; refine blk_far ?_ NB124_129.out _; refine blk_far ?_ NB124_129.out _; exact bm_ BK124.out⟩, ⟨by (with_reducible repeat first | apply bN_ | apply bD_ | apply bA_); refine blk_put (cs := #[.int .i64 t125, .int .i64 t126, .int .i64 0]) ?_ 2 _ rfl; refine blk_put (cs := #[.int .i64 t125, .int .i64 0, .int .i64 0]) ?_ 1 _ rfl; refine blk_put (cs := #[.int .i64 0, .int .i64 0, .int .i64 0]) ?_ 0 _ rfl; exact bm_ BK129.out⟩, ⟨qz_⟩⟩
   ·rw [if_neg c12] at H
    have c12b0 : decide (a1 < 1) = false := decide_eq_false c12
    clear c12
    (first | rw [c12b0] | (simp only [i64_w, i32_w]; rw [c12b0]) | skip)
    have H' := A0_ H
    clear H
    go_wp2
    go_meet
    case rel => exact ⟨_, (decide (a1 > 5)), (by first | rfl | (simp; done) | (simp [*]; done)), H', ⟨by first | omega | exact Nat.le_refl _⟩, ⟨by (with_reducible repeat first | apply bN_ | apply bD_ | apply bA_); refine blk_far ?_ NB124_129.out _; refine blk_far ?_ NB124_129.out _; refine blk_far ?_ NB124_129.out _; exact bm_ BK124.out⟩, ⟨by (with_reducible repeat first | apply bN_ | apply bD_ | apply bA_); refine blk_put (cs := #[.int .i64 t125, .int .i64 t126, .int .i64 0]) ?_ 2 _ rfl; refine blk_put (cs := #[.int .i64 t125, .int .i64 0, .int .i64 0]) ?_ 1 _ rfl; refine blk_put (cs := #[.int .i64 0, .int .i64 0, .int .i64 0]) ?_ 0 _ rfl; exact bm_ BK129.out⟩, ⟨qz_⟩⟩
  case rest =>
   clear HC6
   try clear c1
   try clear c2
   try clear p2
   try clear c5
   try clear c7
   try clear c10
   try clear c12
   try clear c12b0
   try clear hcz11
   try clear hfz11
   obtain ⟨kq, x25_5, rfl, HA, HJ5, BK124, BK129, HB⟩ := hcut
   cases kq with
   | zero => exact absurd HA.out (by simp [round_open.j0])
   | succ kj5 =>
    have H := HA.out
    clear HA
    simp only [round_open.j0] at H
    by_cases c13 : x25_5 = true
    ·subst c13
     rw [if_pos rfl] at H
     simp only [Option.some.injEq, Prod.mk.injEq] at H
     obtain ⟨rfl, rfl, rfl, rfl⟩ := H
     have hnb14 := NB129_124.out
     have hnc14 := NB124_129.out
     have hcz15 := bc3_ BK129.out
     have hfz15 := bf3_ BK129.out
     have hcz16 := bc3_ BK124.out
     have hfz16 := bf3_ BK124.out
     go_wp2
     refine bodyPost_ret (results_ct rfl _ _ gb124 94 #[.int .i64 t125, .int .i64 t126, .int .i64 t127] (0, 0) _ rfl (by (with_reducible repeat first | apply bN_ | apply bD_ | apply bA_); refine blk_put (cs := #[.int .i64 t125, .int .i64 t126, .int .i64 0]) ?_ 2 _ rfl; refine blk_put (cs := #[.int .i64 t125, .int .i64 0, .int .i64 0]) ?_ 1 _ rfl; refine blk_put (cs := #[.int .i64 0, .int .i64 0, .int .i64 0]) ?_ 0 _ rfl; exact bm_ BK124.out) Tryz.underlying94 rfl (by kernel_rfl)) rfl ?_
     exact ⟨by first | rfl | (simp [errW_none, errW_some] <;> rfl) | (simp [*, errW_none, errW_some] <;> rfl), qz_⟩
    ·replace c13 := Bool.eq_false_iff.mpr c13
     subst c13
     rw [if_neg (show ¬ (false = true) by decide)] at H
     have H' := A0_ H
     clear H
     go_wp2
     go_loopg [29] kj5 (fun kq v29 w' => ∃ (x29_2 : Int) (x125000_2 : Int) (x125001_2 : Int) (x125002_2 : Int), v29 = .int .i64 x29_2 ∧ Aside0 (round_open.l0 kq l2 (l2.length : Int) x29_2 t125 t126 t127 = some (r1, r2, r3, r4)) ∧ Aside0 (kq ≤ kj5) ∧ Aside0 (w'.heap[gb124]? = some (.cells #[.int .i64 x125000_2, .int .i64 x125001_2, .int .i64 x125002_2] 94 (0, 0))) ∧ Aside0 (w'.heap[gb129]? = some (.cells #[.int .i64 t125, .int .i64 t126, .int .i64 t127] 94 (0, 0))) ∧ Aside0 (Below w.heap.size w w'))
     case atStart => exact ⟨(0), (0), (0), (0), (by first | rfl | (simp; done) | (simp [*]; done)), H', ⟨Nat.le_refl _⟩, ⟨bm_ BK124.out⟩, ⟨bm_ BK129.out⟩, ⟨qz_⟩⟩
     case round =>
      clear H'
      try clear c1
      try clear c2
      try clear p2
      try clear c5
      try clear c7
      try clear c10
      try clear c12
      try clear c12b0
      try clear c13
      try clear c14
      try clear hcz11
      try clear hcz15
      try clear hcz16
      try clear hfz11
      try clear hfz15
      try clear hfz16
      try clear p2
      obtain ⟨x29_2, x125000_2, x125001_2, x125002_2, rfl, HA, HK2, BK124, BK129, HB⟩ := hrel
      cases gk with
      | zero => exact absurd HA.out (by simp [round_open.l0])
      | succ k2 =>
       have H := HA.out
       clear HA
       simp only [round_open.l0] at H
       by_cases c17 : x29_2 < (l2.length : Int)
       ·rw [if_pos c17] at H
        have c17b0 : decide (x29_2 < (l2.length : Int)) = true := decide_eq_true c17
        clear c17
        obtain ⟨c18, H⟩ := ic_ H
        have c18b0 : decide (0 ≤ x29_2) = true := decide_eq_true c18
        clear c18
        obtain ⟨c19, H⟩ := ic_ H
        have c19b0 : decide (x29_2 < (l2.length : Int)) = true := decide_eq_true c19
        clear c19
        obtain ⟨t132, A20, H⟩ := bs_ H
        try dsimp -simprocs only at H
        by_cases c21 : t132 = true
        ·subst c21
         rw [if_pos rfl] at H
         have H' := A0_ H
         clear H
         have p130 : 0 ≤ (x29_2 : Int) := of_decide_eq_true (by first | (with_reducible assumption) | assumption)
         have q130 : x29_2 < (l2.length : Int) := of_decide_eq_true (by first | (with_reducible assumption) | assumption)
         obtain ⟨ad130, A130_1, c130_1, e130, hx130_0, hx130_1, hx130_2, hl130_1, hi130_1⟩ := at_T107 HR2.out x29_2 p130 q130
         cases e130
         replace hx130_0 := (HB.out.cell (World.block_lt_of_cell? w _ hx130_0)).trans hx130_0
         replace hx130_1 := (HB.out.cell (World.block_lt_of_cell? w _ hx130_1)).trans hx130_1
         replace hx130_2 := (HB.out.cell (World.block_lt_of_cell? w _ hx130_2)).trans hx130_2
         have HR130_1 := A0_ hi130_1
         have HC130_1 := A0_ hl130_1
         clear hi130_1 hl130_1
         replace p130 := eq_true p130
         replace q130 := eq_true q130
         go_wp2_with (first | ((with_reducible refine gate_dst (N := 11) rfl ?_); refine box_event ?hg (N := 11) ?hd (cs := #[.bool false, .slice none 0 0, .int .i64 0]) (t := 107) ?hr ?_; (case hd => rfl); (case hg => rfl); (case hr => first | (go_simp; done) | (go_simp; rfl)); intro gb131 hg w22 hbox hb; have BK131 := A0_ (hbox); have GW131 := A0_ ((by rw [hg]; exact (below_size qz_) : w.heap.size ≤ gb131)); have GE131 := GW131; replace HB := hs_ hb; have NB124_131 := nl_ hg BK124; have NB131_124 := ng_ hg BK124; replace BK124 := bb_ BK124 hb; have NB129_131 := nl_ hg BK129; have NB131_129 := ng_ hg BK129; replace BK129 := bb_ BK129 hb; clear hb hbox hg; have hnb23 := NB131_124.out; have hnc23 := NB124_131.out; have hnb24 := NB131_129.out; have hnc24 := NB129_131.out; have hcz25 := bc3_ BK131.out; have hfz25 := bf3_ BK131.out) | ((with_reducible refine gate_callee (f := 73) rfl ?_); refine goesL_ (some 34) rfl rfl Tryz.func73 (by kernel_rfl) rfl #[.agg #[.bool ((rd_T107 l2 x29_2).f0), .slice A130_1 ((rd_T107 l2 x29_2).f1).length c130_1, .int .i64 ((rd_T107 l2 x29_2).f2)]] rfl (am_ rfl) ?_; (with_reducible refine (dyad_May.calls ((rd_T107 l2 x29_2).f0) _ _ ((rd_T107 l2 x29_2).f1) ((rd_T107 l2 x29_2).f2) true _ ?side1 ?side2 A20.out).mono ?_); (case side1 => exact Kd.C_below HR130_1.out qz_); (case side2 => exact HC130_1.out); rintro e w26 ⟨rfl, hb⟩; refine ⟨_, rfl, ?_⟩; replace BK124 := A0_ (blk_below (g := gb124) (o := .cells #[.int .i64 x125000_2, .int .i64 x125001_2, .int .i64 x125002_2] 94 (0, 0)) (by (with_reducible repeat first | apply bN_ | apply bD_ | apply bA_); refine blk_far ?_ NB124_131.out _; refine blk_far ?_ NB124_131.out _; refine blk_far ?_ NB124_131.out _; exact bm_ BK124.out) hb); replace BK129 := A0_ (blk_below (g := gb129) (o := .cells #[.int .i64 t125, .int .i64 t126, .int .i64 t127] 94 (0, 0)) (by (with_reducible repeat first | apply bN_ | apply bD_ | apply bA_); refine blk_far ?_ NB129_131.out _; refine blk_far ?_ NB129_131.out _; refine blk_far ?_ NB129_131.out _; exact bm_ BK129.out) hb); replace BK131 := A0_ (blk_below (g := gb131) (o := .cells #[.bool ((rd_T107 l2 x29_2).f0), .slice A130_1 ((rd_T107 l2 x29_2).f1).length c130_1, .int .i64 ((rd_T107 l2 x29_2).f2)] 107 (0, 0)) (by (with_reducible repeat first | apply bN_ | apply bD_ | apply bA_); refine blk_put (cs := #[.bool ((rd_T107 l2 x29_2).f0), .slice A130_1 ((rd_T107 l2 x29_2).f1).length c130_1, .int .i64 0]) ?_ 2 _ rfl; refine blk_put (cs := #[.bool ((rd_T107 l2 x29_2).f0), .slice none 0 0, .int .i64 0]) ?_ 1 _ rfl; refine blk_put (cs := #[.bool false, .slice none 0 0, .int .i64 0]) ?_ 0 _ rfl; exact bm_ BK131.out) hb); replace HB := hs_ hb; (try clear hb)))
         go_roundg k2
         case measure => have := HJ5.out; have := HK2.out; omega
         case rel => exact ⟨(wrap64 (x29_2 + 1)), (x125000_2), (x125001_2), (x125002_2), (by first | rfl | (simp; done) | (simp [*]; done)), H', ⟨by have := HJ5.out; have := HK2.out; omega⟩, ⟨bm_ BK124.out⟩, ⟨bm_ BK129.out⟩, ⟨qz_⟩⟩
        ·replace c21 := Bool.eq_false_iff.mpr c21
         subst c21
         rw [if_neg (show ¬ (false = true) by decide)] at H
         simp only [Option.some.injEq, Prod.mk.injEq] at H
         obtain ⟨rfl, rfl, rfl, rfl⟩ := H
         have p130 : 0 ≤ (x29_2 : Int) := of_decide_eq_true (by first | (with_reducible assumption) | assumption)
         have q130 : x29_2 < (l2.length : Int) := of_decide_eq_true (by first | (with_reducible assumption) | assumption)
         obtain ⟨ad130, A130_1, c130_1, e130, hx130_0, hx130_1, hx130_2, hl130_1, hi130_1⟩ := at_T107 HR2.out x29_2 p130 q130
         cases e130
         replace hx130_0 := (HB.out.cell (World.block_lt_of_cell? w _ hx130_0)).trans hx130_0
         replace hx130_1 := (HB.out.cell (World.block_lt_of_cell? w _ hx130_1)).trans hx130_1
         replace hx130_2 := (HB.out.cell (World.block_lt_of_cell? w _ hx130_2)).trans hx130_2
         have HR130_1 := A0_ hi130_1
         have HC130_1 := A0_ hl130_1
         clear hi130_1 hl130_1
         replace p130 := eq_true p130
         replace q130 := eq_true q130
         go_wp2_with (first | ((with_reducible refine gate_dst (N := 11) rfl ?_); refine box_event ?hg (N := 11) ?hd (cs := #[.bool false, .slice none 0 0, .int .i64 0]) (t := 107) ?hr ?_; (case hd => rfl); (case hg => rfl); (case hr => first | (go_simp; done) | (go_simp; rfl)); intro gb131 hg w27 hbox hb; have BK131 := A0_ (hbox); have GW131 := A0_ ((by rw [hg]; exact (below_size qz_) : w.heap.size ≤ gb131)); have GE131 := GW131; replace HB := hs_ hb; have NB124_131 := nl_ hg BK124; have NB131_124 := ng_ hg BK124; replace BK124 := bb_ BK124 hb; have NB129_131 := nl_ hg BK129; have NB131_129 := ng_ hg BK129; replace BK129 := bb_ BK129 hb; clear hb hbox hg; have hnb28 := NB131_124.out; have hnc28 := NB124_131.out; have hnb29 := NB131_129.out; have hnc29 := NB129_131.out; have hcz30 := bc3_ BK131.out; have hfz30 := bf3_ BK131.out) | ((with_reducible refine gate_callee (f := 73) rfl ?_); refine goesL_ (some 34) rfl rfl Tryz.func73 (by kernel_rfl) rfl #[.agg #[.bool ((rd_T107 l2 x29_2).f0), .slice A130_1 ((rd_T107 l2 x29_2).f1).length c130_1, .int .i64 ((rd_T107 l2 x29_2).f2)]] rfl (am_ rfl) ?_; (with_reducible refine (dyad_May.calls ((rd_T107 l2 x29_2).f0) _ _ ((rd_T107 l2 x29_2).f1) ((rd_T107 l2 x29_2).f2) false _ ?side1 ?side2 A20.out).mono ?_); (case side1 => exact Kd.C_below HR130_1.out qz_); (case side2 => exact HC130_1.out); rintro e w31 ⟨rfl, hb⟩; refine ⟨_, rfl, ?_⟩; replace BK124 := A0_ (blk_below (g := gb124) (o := .cells #[.int .i64 x125000_2, .int .i64 x125001_2, .int .i64 x125002_2] 94 (0, 0)) (by (with_reducible repeat first | apply bN_ | apply bD_ | apply bA_); refine blk_far ?_ NB124_131.out _; refine blk_far ?_ NB124_131.out _; refine blk_far ?_ NB124_131.out _; exact bm_ BK124.out) hb); replace BK129 := A0_ (blk_below (g := gb129) (o := .cells #[.int .i64 t125, .int .i64 t126, .int .i64 t127] 94 (0, 0)) (by (with_reducible repeat first | apply bN_ | apply bD_ | apply bA_); refine blk_far ?_ NB129_131.out _; refine blk_far ?_ NB129_131.out _; refine blk_far ?_ NB129_131.out _; exact bm_ BK129.out) hb); replace BK131 := A0_ (blk_below (g := gb131) (o := .cells #[.bool ((rd_T107 l2 x29_2).f0), .slice A130_1 ((rd_T107 l2 x29_2).f1).length c130_1, .int .i64 ((rd_T107 l2 x29_2).f2)] 107 (0, 0)) (by (with_reducible repeat first | apply bN_ | apply bD_ | apply bA_); refine blk_put (cs := #[.bool ((rd_T107 l2 x29_2).f0), .slice A130_1 ((rd_T107 l2 x29_2).f1).length c130_1, .int .i64 0]) ?_ 2 _ rfl; refine blk_put (cs := #[.bool ((rd_T107 l2 x29_2).f0), .slice none 0 0, .int .i64 0]) ?_ 1 _ rfl; refine blk_put (cs := #[.bool false, .slice none 0 0, .int .i64 0]) ?_ 0 _ rfl; exact bm_ BK131.out) hb); replace HB := hs_ hb; (try clear hb); have hnb32 := NB129_124.out; have hnc32 := NB124_129.out; have hcz33 := bc3_ BK129.out; have hfz33 := bf3_ BK129.out; have hcz34 := bc3_ BK124.out; have hfz34 := bf3_ BK124.out))
         refine bodyPost_ret (results_ct rfl _ _ gb124 94 #[.int .i64 t125, .int .i64 t126, .int .i64 t127] (0, 0) _ rfl (by (with_reducible repeat first | apply bN_ | apply bD_ | apply bA_); refine blk_put (cs := #[.int .i64 t125, .int .i64 t126, .int .i64 x125002_2]) ?_ 2 _ rfl; refine blk_put (cs := #[.int .i64 t125, .int .i64 x125001_2, .int .i64 x125002_2]) ?_ 1 _ rfl; refine blk_put (cs := #[.int .i64 x125000_2, .int .i64 x125001_2, .int .i64 x125002_2]) ?_ 0 _ rfl; exact bm_ BK124.out) Tryz.underlying94 rfl (by kernel_rfl)) rfl ?_
         exact ⟨by first | rfl | (simp [errW_none, errW_some] <;> rfl) | (simp [*, errW_none, errW_some] <;> rfl), qz_⟩
       ·rw [if_neg c17] at H
        have c17b0 : decide (x29_2 < (l2.length : Int)) = false := decide_eq_false c17
        clear c17
        simp only [Option.some.injEq, Prod.mk.injEq] at H
        obtain ⟨rfl, rfl, rfl, rfl⟩ := H
        have hnb35 := NB129_124.out
        have hnc35 := NB124_129.out
        have hcz36 := bc3_ BK129.out
        have hfz36 := bf3_ BK129.out
        have hcz37 := bc3_ BK124.out
        have hfz37 := bf3_ BK124.out
        go_wp2
        refine bodyPost_ret (results_ct rfl _ _ gb124 94 #[.int .i64 t125, .int .i64 t126, .int .i64 t127] (0, 0) _ rfl (by (with_reducible repeat first | apply bN_ | apply bD_ | apply bA_); refine blk_put (cs := #[.int .i64 t125, .int .i64 t126, .int .i64 x125002_2]) ?_ 2 _ rfl; refine blk_put (cs := #[.int .i64 t125, .int .i64 x125001_2, .int .i64 x125002_2]) ?_ 1 _ rfl; refine blk_put (cs := #[.int .i64 x125000_2, .int .i64 x125001_2, .int .i64 x125002_2]) ?_ 0 _ rfl; exact bm_ BK124.out) Tryz.underlying94 rfl (by kernel_rfl)) rfl ?_
        exact ⟨by first | rfl | (simp [errW_none, errW_some] <;> rfl) | (simp [*, errW_none, errW_some] <;> rfl), qz_⟩
 ·replace c5 := Bool.eq_false_iff.mpr c5
  subst c5
  rw [if_neg (show ¬ (false = true) by decide)] at H
  simp only [Option.some.injEq, Prod.mk.injEq] at H
  obtain ⟨rfl, rfl, rfl, rfl⟩ := H
  go_enter Tryz.func54, Tryz.ntmps54
  go_wp2_with (first | ((with_reducible refine gate_dst (N := 6) rfl ?_); refine box_event ?hg (N := 6) ?hd (cs := #[.int .i64 0, .int .i64 0, .int .i64 0]) (t := 94) ?hr ?_; (case hd => rfl); (case hg => rfl); (case hr => first | (go_simp; done) | (go_simp; rfl)); intro gb124 hg w38 hbox hb; have BK124 := A0_ (hbox); have GW124 := A0_ ((by rw [hg]; exact (below_size (qm_ HB.out)) : w.heap.size ≤ gb124)); have GE124 := GW124; replace HB := hs_ hb; clear hb hbox hg) | ((with_reducible refine gate_callee (f := 72) rfl ?_); refine goesL_ (some 14) rfl rfl Tryz.func72 (by kernel_rfl) rfl #[.int .u8 a0] rfl (am_ rfl) ?_; (with_reducible refine (round_formOf.calls a0 t125 t126 t127 false _ A4.out).mono ?_); rintro e w39 ⟨rfl, hb⟩; refine ⟨_, rfl, ?_⟩; replace BK124 := bb_ BK124 hb; replace HB := hs_ hb; (try clear hb)) | ((with_reducible refine gate_dst (N := 8) rfl ?_); refine box_event ?hg (N := 8) ?hd (cs := #[.int .i64 0, .int .i64 0, .int .i64 0]) (t := 94) ?hr ?_; (case hd => rfl); (case hg => rfl); (case hr => first | (go_simp; done) | (go_simp; rfl)); intro gb129 hg w40 hbox hb; have BK129 := A0_ (hbox); have GW129 := A0_ ((by rw [hg]; exact (below_size qz_) : w.heap.size ≤ gb129)); have GE129 := GW129; replace HB := hs_ hb; have NB124_129 := nl_ hg BK124; have NB129_124 := ng_ hg BK124; replace BK124 := bb_ BK124 hb; clear hb hbox hg; have hnb41 := NB129_124.out; have hnc41 := NB124_129.out; have hcz42 := bc3_ BK129.out; have hfz42 := bf3_ BK129.out; have hcz43 := bc3_ BK124.out; have hfz43 := bf3_ BK124.out))
  refine bodyPost_ret (results_ct rfl _ _ gb124 94 #[.int .i64 t125, .int .i64 t126, .int .i64 t127] (0, 0) _ rfl (by (with_reducible repeat first | apply bN_ | apply bD_ | apply bA_); refine blk_put (cs := #[.int .i64 t125, .int .i64 t126, .int .i64 0]) ?_ 2 _ rfl; refine blk_put (cs := #[.int .i64 t125, .int .i64 0, .int .i64 0]) ?_ 1 _ rfl; refine blk_put (cs := #[.int .i64 0, .int .i64 0, .int .i64 0]) ?_ 0 _ rfl; refine blk_far ?_ NB124_129.out _; refine blk_far ?_ NB124_129.out _; refine blk_far ?_ NB124_129.out _; exact bm_ BK124.out) Tryz.underlying94 rfl (by kernel_rfl)) rfl ?_
  exact ⟨by first | rfl | (simp [errW_none, errW_some] <;> rfl) | (simp [*, errW_none, errW_some] <;> rfl), qz_⟩
def word_Greatest_1.f (a0_0 : Int) (a0_1 : Int) (a0_2 : Int) : Option (Int) := (word_shape_inf.f a0_0 a0_1 a0_2).bind fun t134 => (some (IntKind.u64.wrap (t134 - 1)))
theorem word_Greatest_1.calls (a0_0 : Int) (a0_1 : Int) (a0_2 : Int) (r : Int) (w : World) (h : word_Greatest_1.f a0_0 a0_1 a0_2 = some r) :
  Calls Tryz.prog 74 #[.agg #[.int .i64 a0_0, .int .i64 a0_1, .int .u64 a0_2]] w fun e w' => e = .returned (.int .u64 r) ∧ Below w.heap.size w w' := by
 have hu72 := Tryz.underlying72
 have HB := A0_ (Below.refl w.heap.size w)
 have H := h
 clear h
 unfold word_Greatest_1.f at H
 obtain ⟨t134, A2, H⟩ := bs_ H
 try dsimp -simprocs only at H
 obtain rfl := Option.some.inj H
 go_enter Tryz.func74, Tryz.ntmps74
 go_wp2_with (first | ((with_reducible refine gate_dst (N := 1) rfl ?_); refine box_event ?hg (N := 1) ?hd (cs := #[.int .i64 a0_0, .int .i64 a0_1, .int .u64 a0_2]) (t := 72) ?hr ?_; (case hd => rfl); (case hg => rfl); (case hr => first | (go_simp; done) | (go_simp; rfl)); intro gb133 hg w3 hbox hb; have BK133 := A0_ (hbox); have GW133 := A0_ ((by rw [hg]; exact (below_size (qm_ HB.out)) : w.heap.size ≤ gb133)); have GE133 := GW133; replace HB := hs_ hb; clear hb hbox hg; have hcz4 := bc3_ BK133.out; have hfz4 := bf3_ BK133.out) | ((with_reducible refine gate_callee (f := 31) rfl ?_); refine goesL_ (some 4) rfl rfl Tryz.func31 (by kernel_rfl) rfl #[.agg #[.int .i64 a0_0, .int .i64 a0_1, .int .u64 a0_2]] rfl (am_ rfl) ?_; (with_reducible refine (word_shape_inf.calls a0_0 a0_1 a0_2 t134 _ A2.out).mono ?_); rintro e w5 ⟨rfl, hb⟩; refine ⟨_, rfl, ?_⟩; replace BK133 := bb_ BK133 hb; replace HB := hs_ hb; (try clear hb)))
 go_ret
 exact ⟨by first | rfl | (simp [errW_none, errW_some] <;> rfl) | (simp [*, errW_none, errW_some] <;> rfl), qz_⟩
end Go.Proofs.YtlgapmhjaaajfaaGreat.PA
end

section
namespace Go.Proofs.YtlgapmhjaaajfaaGreat.PA
open Go.RowKit Go.Proofs.YtlgapmhjaaajfaaGreatW.PrintWords Go.Proofs.YtlgapmhjaaajfaaGreatW.PrintLast Go.Proofs.YtlgapmhjaaajfaaGreatW.PrintMore
attribute [local go_sem] max2_int min2_int max_two min_two max_three min_three max_four min_four   -- for this text's walks alone
set_option linter.unusedVariables false
set_option linter.unusedSimpArgs false
def word_Greatest.f (k : Nat) (a0 : Int) (a1 : Bool) : Option (Int × Int) := (word_named.f k a0 a1 (word_Greatest_1.f)).bind fun bt135 => (some (bt135.1, bt135.2))
theorem word_Greatest.mono : ∀ a0 a1 k, LeO (word_Greatest.f k a0 a1) (word_Greatest.f (k + 1) a0 a1) := by
 intro a0 a1 k
 unfold word_Greatest.f
 repeat' first
   | (with_reducible exact word_named.mono _ _ _ _)
   | (with_reducible exact LeO.refl _)
   | (with_reducible exact LeO.none _)
   | (with_reducible refine LeO.ite ?_ ?_)
   | (with_reducible refine LeO.bind ?_ (fun _ => ?_))
   | exact word_named.mono _ _ _ _
   | exact LeO.none _
   | refine LeO.ite ?_ ?_
   | refine LeO.bind ?_ (fun _ => ?_)
theorem word_Greatest.calls (k : Nat) (a0 : Int) (a1 : Bool) (r1 : Int) (r2 : Int) (w : World) (h : word_Greatest.f k a0 a1 = some (r1, r2)) :
  Calls Tryz.prog 55 #[.int .u8 a0, .bool a1] w fun e w' => e = .returned (.tuple #[.int .u64 r1, .int .i64 r2]) ∧ Below w.heap.size w w' := by
 have HB := A0_ (Below.refl w.heap.size w)
 have H := h
 clear h
 unfold word_Greatest.f at H
 obtain ⟨⟨t135, t136⟩, A3, H⟩ := bs_ H
 try dsimp -simprocs only at H
 simp only [Option.some.injEq, Prod.mk.injEq] at H
 obtain ⟨rfl, rfl⟩ := H
 go_enter Tryz.func55, Tryz.ntmps55
 go_wp2_with (first | ((with_reducible refine gate_callee (f := 30) rfl ?_); refine goesL_ (some 8) rfl rfl Tryz.func30 (by kernel_rfl) rfl #[.int .u8 a0, .bool a1, .func (.func 74) #[] #[]] rfl (am_ rfl) ?_; (refine (word_named.calls (fg2 := 74) (fn2 := Tryz.f74) (fc2 := []) (FV2 := A0_ ⟨Tryz.func74, by kernel_rfl, rfl, fun s0_ s1_ s2_ q0_ w_ hbw_ hh_ => word_Greatest_1.calls s0_ s1_ s2_ q0_ w_ hh_⟩) k a0 a1 (word_Greatest_1.f) t135 t136 _ A3.out).mono ?_); rintro e w4 ⟨rfl, hb⟩; refine ⟨_, rfl, ?_⟩; replace HB := hs_ hb; (try clear hb)))
 go_ret2
 exact ⟨by first | rfl | (simp [errW_none, errW_some] <;> rfl) | (simp [*, errW_none, errW_some] <;> rfl), qm_ HB.out⟩
def round_Over.j0 : Nat → Int → Bool → Bool → Option (Int × Int)
 | 0, _, _, _ => none
 | k + 1, x0, x2, x35 => if x35 = true then ((word_Greatest.f k x0 x2).bind fun bt142 => (some (bt142.1, bt142.2))) else ((word_Inf.f k x0 x2).bind fun bt144 => (some (bt144.1, bt144.2)))
def round_Over.f (k : Nat) (a0 : Int) (a1 : Int) (a2 : Bool) : Option (Int × Int) := (round_open.f k a0 a1 ([] : List (S107))).bind fun bt137 => (if bt137.2.2.2 = 0 then (if a1 = 3 then (round_Over.j0 k a0 a2 true) else (if a1 = 4 then (if a2 = true then (round_Over.j0 k a0 a2 true) else (if a1 = 5 then (round_Over.j0 k a0 a2 true) else (round_Over.j0 k a0 a2 false))) else (if a1 = 5 then (if a2 = true then (round_Over.j0 k a0 a2 false) else (round_Over.j0 k a0 a2 true)) else (round_Over.j0 k a0 a2 false)))) else (some (0, bt137.2.2.2)))
theorem round_Over.mono_l : ∀ k, (∀ y0 y1 y2, LeO (round_Over.j0 k y0 y1 y2) (round_Over.j0 (k + 1) y0 y1 y2))
 | 0 => fun _ _ _ r h => by simp [round_Over.j0] at h
 | k + 1 => by
  have ih0 := round_Over.mono_l k
  ·intro y0 y1 y2
   unfold round_Over.j0
   repeat' first
   | (with_reducible exact ih0 _ _ _)
   | (with_reducible exact round_open.mono _ _ _ _)
   | (with_reducible exact word_Greatest.mono _ _ _)
   | (with_reducible exact word_Inf.mono _ _ _)
   | (with_reducible exact LeO.refl _)
   | (with_reducible exact LeO.none _)
   | (with_reducible refine LeO.ite ?_ ?_)
   | (with_reducible refine LeO.bind ?_ (fun _ => ?_))
   | exact ih0 _ _ _
   | exact round_open.mono _ _ _ _
   | exact word_Greatest.mono _ _ _
   | exact word_Inf.mono _ _ _
   | exact LeO.none _
   | refine LeO.ite ?_ ?_
   | refine LeO.bind ?_ (fun _ => ?_)
theorem round_Over.mono : ∀ a0 a1 a2 k, LeO (round_Over.f k a0 a1 a2) (round_Over.f (k + 1) a0 a1 a2) := by
 intro a0 a1 a2 k
 have ih0 := round_Over.mono_l k
 unfold round_Over.f
 repeat' first
   | (with_reducible exact ih0 _ _ _)
   | (with_reducible exact round_open.mono _ _ _ _)
   | (with_reducible exact word_Greatest.mono _ _ _)
   | (with_reducible exact word_Inf.mono _ _ _)
   | (with_reducible exact LeO.refl _)
   | (with_reducible exact LeO.none _)
   | (with_reducible refine LeO.ite ?_ ?_)
   | (with_reducible refine LeO.bind ?_ (fun _ => ?_))
   | exact ih0 _ _ _
   | exact round_open.mono _ _ _ _
   | exact word_Greatest.mono _ _ _
   | exact word_Inf.mono _ _ _
   | exact LeO.none _
   | refine LeO.ite ?_ ?_
   | refine LeO.bind ?_ (fun _ => ?_)
theorem round_Over.calls (k : Nat) (a0 : Int) (a1 : Int) (a2 : Bool) (r1 : Int) (r2 : Int) (w : World) (h : round_Over.f k a0 a1 a2 = some (r1, r2)) :
  Calls Tryz.prog 28 #[.int .u8 a0, .int .u8 a1, .bool a2] w fun e w' => e = .returned (.tuple #[.int .u64 r1, .int .i64 r2]) ∧ Below w.heap.size w w' := by
 have hu94 := Tryz.underlying94
 have HB := A0_ (Below.refl w.heap.size w)
 have H := h
 clear h
 unfold round_Over.f at H
 obtain ⟨⟨t137, t138, t139, t140⟩, A4, H⟩ := bs_ H
 try dsimp -simprocs only at H
 by_cases c5 : t140 = 0
 ·rw [if_pos c5] at H
  have c5b0 : (t140 == 0) = true := beq_iff_eq.mpr c5
  have c5b1 : (t140 != 0) = false := bne_eq_false_iff_eq.mpr c5
  clear c5
  have HC6 := A0_ H
  clear H
  go_enter Tryz.func28, Tryz.ntmps28
  go_upto_region 4 with (first | ((with_reducible refine gate_callee (f := 54) rfl ?_); refine goesL_ (some 13) rfl rfl Tryz.func54 (by kernel_rfl) rfl #[.int .u8 a0, .int .u8 a1, .slice none 0 0] rfl (am_ rfl) ?_; (refine (round_open.calls k a0 a1 _ _ ([] : List (S107)) t137 t138 t139 t140 _ ?side1 ?side2 A4.out).mono ?_); (case side1 => exact Kd.C_nil _ _); (case side2 => exact Nat.le_refl _); rintro e w7 ⟨rfl, hb⟩; refine ⟨_, rfl, ?_⟩; replace HB := hs_ hb; (try clear hb)) | ((with_reducible refine gate_dst (N := 8) rfl ?_); refine box_event ?hg (N := 8) ?hd (cs := #[.int .i64 0, .int .i64 0, .int .i64 0]) (t := 94) ?hr ?_; (case hd => rfl); (case hg => rfl); (case hr => first | (go_simp; done) | (go_simp; rfl)); intro gb141 hg w8 hbox hb; have BK141 := A0_ (hbox); have GW141 := A0_ ((by rw [hg]; exact (below_size (qm_ HB.out)) : w.heap.size ≤ gb141)); have GE141 := GW141; replace HB := hs_ hb; clear hb hbox hg; have hcz9 := bc3_ BK141.out; have hfz9 := bf3_ BK141.out))
  (try simp only [Act.put, sp_])
  go_cut [35] (fun v35 wc => ∃ (kq : Nat) (x35_5 : Bool), v35 = .bool x35_5 ∧ Aside0 (round_Over.j0 kq a0 a2 x35_5 = some (r1, r2)) ∧ Aside0 (kq ≤ k) ∧ Aside0 (wc.heap[gb141]? = some (.cells #[.int .i64 t137, .int .i64 t138, .int .i64 t139] 94 (0, 0))) ∧ Aside0 (Below w.heap.size w wc))
  case first =>
   have H := HC6.out
   clear HC6
   by_cases c10 : a1 = 3
   ·rw [if_pos c10] at H
    have c10b0 : (a1 == 3) = true := beq_iff_eq.mpr c10
    have c10b1 : (a1 != 3) = false := bne_eq_false_iff_eq.mpr c10
    clear c10
    (first | rw [c10b0] | (simp only [i64_w, i32_w]; rw [c10b0]) | skip)
    have H' := A0_ H
    clear H
    go_wp2
    go_meet
    case rel => exact ⟨_, (true), (by first | rfl | (simp; done) | (simp [*]; done)), H', ⟨by first | omega | exact Nat.le_refl _⟩, ⟨by (with_reducible repeat first | apply bN_ | apply bD_ | apply bA_); refine blk_put (cs := #[.int .i64 t137, .int .i64 t138, .int .i64 0]) ?_ 2 _ rfl; refine blk_put (cs := #[.int .i64 t137, .int .i64 0, .int .i64 0]) ?_ 1 _ rfl; refine blk_put (cs := #[.int .i64 0, .int .i64 0, .int .i64 0]) ?_ 0 _ rfl; exact bm_ BK141.out⟩, ⟨qz_⟩⟩
   ·rw [if_neg c10] at H
    have c10b0 : (a1 == 3) = false := beq_eq_false_iff_ne.mpr c10
    have c10b1 : (a1 != 3) = true := bne_iff_ne.mpr c10
    (first | rw [c10b0] | (simp only [i64_w, i32_w]; rw [c10b0]) | skip)
    by_cases c11 : a1 = 4
    ·rw [if_pos c11] at H
     have c11b0 : (a1 == 4) = true := beq_iff_eq.mpr c11
     have c11b1 : (a1 != 4) = false := bne_eq_false_iff_eq.mpr c11
     clear c11
     by_cases c12 : a2 = true
     ·subst c12
      rw [if_pos rfl] at H
      have H' := A0_ H
      clear H
      go_wp2
      go_meet
      case rel => exact ⟨_, (true), (by first | rfl | (simp; done) | (simp [*]; done)), H', ⟨by first | omega | exact Nat.le_refl _⟩, ⟨by (with_reducible repeat first | apply bN_ | apply bD_ | apply bA_); refine blk_put (cs := #[.int .i64 t137, .int .i64 t138, .int .i64 0]) ?_ 2 _ rfl; refine blk_put (cs := #[.int .i64 t137, .int .i64 0, .int .i64 0]) ?_ 1 _ rfl; refine blk_put (cs := #[.int .i64 0, .int .i64 0, .int .i64 0]) ?_ 0 _ rfl; exact bm_ BK141.out⟩, ⟨qz_⟩⟩
     ·replace c12 := Bool.eq_false_iff.mpr c12
      subst c12
      rw [if_neg (show ¬ (false = true) by decide)] at H
      by_cases c13 : a1 = 5
      ·rw [if_pos c13] at H
       have c13b0 : (a1 == 5) = true := beq_iff_eq.mpr c13
       have c13b1 : (a1 != 5) = false := bne_eq_false_iff_eq.mpr c13
       clear c13
       have H' := A0_ H
       clear H
       go_wp2
       go_meet
       case rel => exact ⟨_, (true), (by first | rfl | (simp; done) | (simp [*]; done)), H', ⟨by first | omega | exact Nat.le_refl _⟩, ⟨by (with_reducible repeat first | apply bN_ | apply bD_ | apply bA_); refine blk_put (cs := #[.int .i64 t137, .int .i64 t138, .int .i64 0]) ?_ 2 _ rfl; refine blk_put (cs := #[.int .i64 t137, .int .i64 0, .int .i64 0]) ?_ 1 _ rfl; refine blk_put (cs := #[.int .i64 0, .int .i64 0, .int .i64 0]) ?_ 0 _ rfl; exact bm_ BK141.out⟩, ⟨qz_⟩⟩
      ·rw [if_neg c13] at H
       have c13b0 : (a1 == 5) = false := beq_eq_false_iff_ne.mpr c13
       have c13b1 : (a1 != 5) = true := bne_iff_ne.mpr c13
       have H' := A0_ H
       clear H
       go_wp2
       go_meet
       case rel => exact ⟨_, (false), (by first | rfl | (simp; done) | (simp [*]; done)), H', ⟨by first | omega | exact Nat.le_refl _⟩, ⟨by (with_reducible repeat first | apply bN_ | apply bD_ | apply bA_); refine blk_put (cs := #[.int .i64 t137, .int .i64 t138, .int .i64 0]) ?_ 2 _ rfl; refine blk_put (cs := #[.int .i64 t137, .int .i64 0, .int .i64 0]) ?_ 1 _ rfl; refine blk_put (cs := #[.int .i64 0, .int .i64 0, .int .i64 0]) ?_ 0 _ rfl; exact bm_ BK141.out⟩, ⟨qz_⟩⟩
    ·rw [if_neg c11] at H
     have c11b0 : (a1 == 4) = false := beq_eq_false_iff_ne.mpr c11
     have c11b1 : (a1 != 4) = true := bne_iff_ne.mpr c11
     by_cases c14 : a1 = 5
     ·rw [if_pos c14] at H
      have c14b0 : (a1 == 5) = true := beq_iff_eq.mpr c14
      have c14b1 : (a1 != 5) = false := bne_eq_false_iff_eq.mpr c14
      clear c14
      by_cases c15 : a2 = true
      ·subst c15
       rw [if_pos rfl] at H
       have H' := A0_ H
       clear H
       go_wp2
       go_meet
       case rel => exact ⟨_, (false), (by first | rfl | (simp; done) | (simp [*]; done)), H', ⟨by first | omega | exact Nat.le_refl _⟩, ⟨by (with_reducible repeat first | apply bN_ | apply bD_ | apply bA_); refine blk_put (cs := #[.int .i64 t137, .int .i64 t138, .int .i64 0]) ?_ 2 _ rfl; refine blk_put (cs := #[.int .i64 t137, .int .i64 0, .int .i64 0]) ?_ 1 _ rfl; refine blk_put (cs := #[.int .i64 0, .int .i64 0, .int .i64 0]) ?_ 0 _ rfl; exact bm_ BK141.out⟩, ⟨qz_⟩⟩
      ·replace c15 := Bool.eq_false_iff.mpr c15
       subst c15
       rw [if_neg (show ¬ (false = true) by decide)] at H
       have H' := A0_ H
       clear H
       go_wp2
       go_meet
       case rel => exact ⟨_, (true), (by first | rfl | (simp; done) | (simp [*]; done)), H', ⟨by first | omega | exact Nat.le_refl _⟩, ⟨by (with_reducible repeat first | apply bN_ | apply bD_ | apply bA_); refine blk_put (cs := #[.int .i64 t137, .int .i64 t138, .int .i64 0]) ?_ 2 _ rfl; refine blk_put (cs := #[.int .i64 t137, .int .i64 0, .int .i64 0]) ?_ 1 _ rfl; refine blk_put (cs := #[.int .i64 0, .int .i64 0, .int .i64 0]) ?_ 0 _ rfl; exact bm_ BK141.out⟩, ⟨qz_⟩⟩
     ·rw [if_neg c14] at H
      have c14b0 : (a1 == 5) = false := beq_eq_false_iff_ne.mpr c14
      have c14b1 : (a1 != 5) = true := bne_iff_ne.mpr c14
      have H' := A0_ H
      clear H
      go_wp2
      go_meet
      case rel => exact ⟨_, (false), (by first | rfl | (simp; done) | (simp [*]; done)), H', ⟨by first | omega | exact Nat.le_refl _⟩, ⟨by (with_reducible repeat first | apply bN_ | apply bD_ | apply bA_); refine blk_put (cs := #[.int .i64 t137, .int .i64 t138, .int .i64 0]) ?_ 2 _ rfl; refine blk_put (cs := #[.int .i64 t137, .int .i64 0, .int .i64 0]) ?_ 1 _ rfl; refine blk_put (cs := #[.int .i64 0, .int .i64 0, .int .i64 0]) ?_ 0 _ rfl; exact bm_ BK141.out⟩, ⟨qz_⟩⟩
  case rest =>
   clear HC6
   try clear c1
   try clear c2
   try clear p2
   try clear c5
   try clear c5b0
   try clear c5b1
   try clear c10
   try clear c10b0
   try clear c10b1
   try clear c11
   try clear c11b0
   try clear c11b1
   try clear c12
   try clear c13
   try clear c13b0
   try clear c13b1
   try clear c14
   try clear c14b0
   try clear c14b1
   try clear c15
   try clear hcz9
   try clear hfz9
   obtain ⟨kq, x35_5, rfl, HA, HJ5, BK141, HB⟩ := hcut
   cases kq with
   | zero => exact absurd HA.out (by simp [round_Over.j0])
   | succ kj5 =>
    have H := HA.out
    clear HA
    simp only [round_Over.j0] at H
    by_cases c16 : x35_5 = true
    ·subst c16
     rw [if_pos rfl] at H
     obtain ⟨⟨t142, t143⟩, A17, H⟩ := bs_ H
     try dsimp -simprocs only at H
     simp only [Option.some.injEq, Prod.mk.injEq] at H
     obtain ⟨rfl, rfl⟩ := H
     go_wp2_with (first | ((with_reducible refine gate_callee (f := 55) rfl ?_); refine goesL_ (some 38) rfl rfl Tryz.func55 (by kernel_rfl) rfl #[.int .u8 a0, .bool a2] rfl (am_ rfl) ?_; (with_reducible refine (word_Greatest.calls kj5 a0 a2 t142 t143 _ A17.out).mono ?_); rintro e w18 ⟨rfl, hb⟩; refine ⟨_, rfl, ?_⟩; replace BK141 := bb_ BK141 hb; replace HB := hs_ hb; (try clear hb)))
     go_ret2
     exact ⟨by first | rfl | (simp [errW_none, errW_some] <;> rfl) | (simp [*, errW_none, errW_some] <;> rfl), qz_⟩
    ·replace c16 := Bool.eq_false_iff.mpr c16
     subst c16
     rw [if_neg (show ¬ (false = true) by decide)] at H
     obtain ⟨⟨t144, t145⟩, A19, H⟩ := bs_ H
     try dsimp -simprocs only at H
     simp only [Option.some.injEq, Prod.mk.injEq] at H
     obtain ⟨rfl, rfl⟩ := H
     go_wp2_with (first | ((with_reducible refine gate_callee (f := 9) rfl ?_); refine goesL_ (some 43) rfl rfl Tryz.func9 (by kernel_rfl) rfl #[.int .u8 a0, .bool a2] rfl (am_ rfl) ?_; (with_reducible refine (word_Inf.calls kj5 a0 a2 t144 t145 _ A19.out).mono ?_); rintro e w20 ⟨rfl, hb⟩; refine ⟨_, rfl, ?_⟩; replace BK141 := bb_ BK141 hb; replace HB := hs_ hb; (try clear hb)))
     go_ret2
     exact ⟨by first | rfl | (simp [errW_none, errW_some] <;> rfl) | (simp [*, errW_none, errW_some] <;> rfl), qz_⟩
 ·rw [if_neg c5] at H
  have c5b0 : (t140 == 0) = false := beq_eq_false_iff_ne.mpr c5
  have c5b1 : (t140 != 0) = true := bne_iff_ne.mpr c5
  simp only [Option.some.injEq, Prod.mk.injEq] at H
  obtain ⟨rfl, rfl⟩ := H
  go_enter Tryz.func28, Tryz.ntmps28
  go_wp2_with (first | ((with_reducible refine gate_callee (f := 54) rfl ?_); refine goesL_ (some 13) rfl rfl Tryz.func54 (by kernel_rfl) rfl #[.int .u8 a0, .int .u8 a1, .slice none 0 0] rfl (am_ rfl) ?_; (refine (round_open.calls k a0 a1 _ _ ([] : List (S107)) t137 t138 t139 t140 _ ?side1 ?side2 A4.out).mono ?_); (case side1 => exact Kd.C_nil _ _); (case side2 => exact Nat.le_refl _); rintro e w21 ⟨rfl, hb⟩; refine ⟨_, rfl, ?_⟩; replace HB := hs_ hb; (try clear hb)) | ((with_reducible refine gate_dst (N := 8) rfl ?_); refine box_event ?hg (N := 8) ?hd (cs := #[.int .i64 0, .int .i64 0, .int .i64 0]) (t := 94) ?hr ?_; (case hd => rfl); (case hg => rfl); (case hr => first | (go_simp; done) | (go_simp; rfl)); intro gb141 hg w22 hbox hb; have BK141 := A0_ (hbox); have GW141 := A0_ ((by rw [hg]; exact (below_size (qm_ HB.out)) : w.heap.size ≤ gb141)); have GE141 := GW141; replace HB := hs_ hb; clear hb hbox hg; have hcz23 := bc3_ BK141.out; have hfz23 := bf3_ BK141.out))
  go_ret2
  exact ⟨by first | rfl | (simp [errW_none, errW_some] <;> rfl) | (simp [*, errW_none, errW_some] <;> rfl), qz_⟩
end Go.Proofs.YtlgapmhjaaajfaaGreat.PA
end
