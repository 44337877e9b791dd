/- Steps of Go functions that the law SpecialProducts uses, told as plain Lean functions, each with the proof that its call comes to what it tells; words on memory; plain facts. No condition beyond those that each text names. -/
import Derived.Laws.BitsAllLaws
import Derived.OpenShut
import Derived.Test.YtlgapmhjaaajfaaProg
import Derived.WalkMore
import Derived.Test.YtlgapmhjaaajfaaSSpecialProducts0
import Derived.Test.YtlgapmhjaaajfaaSSpecialProducts1
import Derived.Test.YtlgapmhjaaajfaaSSpecialProducts2
import Derived.Test.YtlgapmhjaaajfaaSSpecialProducts3
import Derived.Test.YtlgapmhjaaajfaaSSpecialProducts4
import Derived.Test.YtlgapmhjaaajfaaSSpecialProducts5
import Derived.Test.YtlgapmhjaaajfaaSSpecialProducts6
import Derived.Test.YtlgapmhjaaajfaaSSpecialProducts7
import Derived.Test.YtlgapmhjaaajfaaSSpecialProducts8
import Derived.Test.YtlgapmhjaaajfaaSSpecialProducts9
import Derived.Test.YtlgapmhjaaajfaaSSpecialProducts10
import Derived.Test.YtlgapmhjaaajfaaSSpecialProducts11
set_option maxHeartbeats 2000000
set_option maxRecDepth 100000
section
namespace Go.Proofs.Ytlgapmhjaaajfaa.PA
open Go.RowKit Go.Proofs.YtlgapmhjaaajfaaW.PrintWords Go.Proofs.YtlgapmhjaaajfaaW.PrintLast Go.Proofs.YtlgapmhjaaajfaaW.PrintMore Go.Proofs.Ytlgapmhjaaajfaa.Wd
set_option linter.unusedSimpArgs false
set_option linter.unusedVariables false
def okv (f v : Int) (n : Int × Bool) : Bool := decide (0 ≤ v) && (decide (v < 18446744073709551616) && (if n.1 = 0 then v == wv f 0 n else cl f v != 1 && (decide (v ≥ sgn f) == n.2)))
def chk (o : Option (Int × Int)) (f : Int) (n : Int × Bool) : Bool := match o with | some p => okv f p.1 n | none => false
theorem chk_out {o : Option (Int × Int)} {f : Int} {n : Int × Bool} (h : chk o f n = true) : ∃ v x, o = some (v, x) ∧ okv f v n = true := by
  cases o with
  | none => exact absurd h (by simp [chk])
  | some p => exact ⟨p.1, p.2, rfl, h⟩
theorem md_cases {m : Int} (h : Md m) : m = 1 ∨ m = 2 ∨ m = 3 ∨ m = 4 ∨ m = 5 := by unfold Md at h; omega
set_option maxRecDepth 100000 in
theorem rmul_tab {f m : Int} (hf : f = 1 ∨ f = 2) (hm : Md m) {s t : Int × Bool} (hs : Sd s) (ht : Sd t) : cutplaneref05_Mul.f 100 f m (wv f (onew f) s) (wv f (onew f) t) = some (wv f (onew f) (tm s t), 0) := by
  rcases md_cases hm with rfl | rfl | rfl | rfl | rfl <;> rcases hf with rfl | rfl <;> rcases hs with rfl | rfl | rfl | rfl <;> rcases ht with rfl | rfl | rfl | rfl <;> decide +kernel
set_option maxRecDepth 100000 in
theorem radd_tab {f m : Int} (hf : f = 1 ∨ f = 2) (hm : Md m) {s t : Int × Bool} (hs : Sd s) (ht : Sd t) : chk (cutplaneref05_Add.f 100 f m (wv f (onew f) s) (wv f (onew f) t)) f (pl s t m) = true := by
  rcases md_cases hm with rfl | rfl | rfl | rfl | rfl <;> rcases hf with rfl | rfl <;> rcases hs with rfl | rfl | rfl | rfl <;> rcases ht with rfl | rfl | rfl | rfl <;> decide +kernel
set_option maxRecDepth 100000 in
theorem rsub_tab {f m : Int} (hf : f = 1 ∨ f = 2) (hm : Md m) {s t : Int × Bool} (hs : Sd s) (ht : Sd t) : chk (cutplaneref05_Sub.f 100 f m (wv f (onew f) s) (wv f (onew f) t)) f (pl s (mn t) m) = true := by
  rcases md_cases hm with rfl | rfl | rfl | rfl | rfl <;> rcases hf with rfl | rfl <;> rcases hs with rfl | rfl | rfl | rfl <;> rcases ht with rfl | rfl | rfl | rfl <;> decide +kernel
theorem okv_u {f v : Int} {n : Int × Bool} (h : okv f v n = true) : U v := by
  unfold okv at h
  simp only [Bool.and_eq_true, decide_eq_true_eq] at h
  exact ⟨h.1, h.2.1⟩
/-- what turned makes of a word -/
def tv (f v z : Int) : Int := if cl f v = 1 then v else if v ≥ sgn f then z % sgn f + sgn f else z % sgn f
theorem tv_size {f v : Int} (hf : f = 1 ∨ f = 2) {n : Int × Bool} (h : okv f v n = true) {z : Int} (h0 : 0 ≤ z) (h1 : z < sgn f) : tv f v z = wv f z n := by
  unfold okv at h
  simp only [Bool.and_eq_true, decide_eq_true_eq] at h
  obtain ⟨_, _, h⟩ := h
  have hz : z % sgn f = z := Int.emod_eq_of_lt h0 h1
  unfold tv wv
  by_cases c : n.1 = 0
  · rw [if_pos c] at h
    have e := beq_iff_eq.mp h
    have c1 : cl f v = 1 := by
      rw [e]
      unfold wv
      rw [if_pos c]
      rcases hf with rfl | rfl <;> cases n.2 <;> decide +kernel
    rw [if_pos c1, e, if_pos c]
    unfold wv
    rw [if_pos c]
  · rw [if_neg c] at h
    simp only [Bool.and_eq_true, bne_iff_ne, ne_eq, beq_iff_eq] at h
    rw [if_neg h.1, if_neg c, hz, ← h.2]
    by_cases g : v ≥ sgn f <;> simp [g]
theorem turned_val (k : Nat) {f : Int} {x y z : Int} (ux : U x) (uy : U y) (uz : U z) : cutplaneref11_turned.f (k + 4) f x y z = some (tv f x z, tv f y z) := by
  have l2 : ∀ x y : Int, (([x, y] : List Int).length : Int) = 2 := fun _ _ => rfl
  have t0 : (0 : Int) < 2 := by decide
  have t1 : (1 : Int) < 2 := by decide
  have t2 : ¬ (2 : Int) < 2 := by decide
  have t3 : (0 : Int) ≤ 1 := by decide
  have w1 : wrap64 (0 + 1) = 1 := by decide +kernel
  have w2 : wrap64 (1 + 1) = 2 := by decide +kernel
  have w3 : wrap64 1 = 1 := by decide +kernel
  have w4 : wrap64 2 = 2 := by decide +kernel
  have r0 : ∀ x y : Int, rd [x, y] 0 = x := fun _ _ => rfl
  have r1 : ∀ x y : Int, rd [x, y] 1 = y := fun _ _ => rfl
  have s0 : ∀ x y q : Int, ([x, y] : List Int).set (0 : Int).toNat q = [q, y] := fun _ _ _ => rfl
  have s1 : ∀ x y q : Int, ([x, y] : List Int).set (1 : Int).toNat q = [x, q] := fun _ _ _ => rfl
  unfold cutplaneref11_turned.f tv
  by_cases cx : cl f x = 1 <;> by_cases cy : cl f y = 1 <;> by_cases gx : x ≥ sgn f <;> by_cases gy : y ≥ sgn f <;>
    simp [cutplaneref11_turned.l0, l2, t0, t1, t2, t3, w1, w2, w3, w4, r0, r1, s0, s1, ref_Class _ f ux, ref_Class _ f uy, cx, cy, ref_Split f ux, ref_Split f uy, ref_Signed f uz, gx, gy]
/-- the document's product of two boxes, its words made another size -/
theorem prod_val (k : Nat) {f m : Int} (hf : f = 1 ∨ f = 2) (hm : Md m) {s t : (Int × Bool) × (Int × Bool)} (h1 : Sd s.1) (h2 : Sd s.2) (h3 : Sd t.1) (h4 : Sd t.2) :
    ∃ x y, cutplaneref11_product.f (k + 100) f m (wv f (onew f) s.1) (wv f (onew f) s.2) (wv f (onew f) t.1) (wv f (onew f) t.2) = some (x, y) ∧ okv f x (btm s t m).1 = true ∧ okv f y (btm s t m).2 = true := by
  have mul : ∀ {a b : Int × Bool}, Sd a → Sd b → cutplaneref05_Mul.f (k + 100) f m (wv f (onew f) a) (wv f (onew f) b) = some (wv f (onew f) (tm a b), 0) := fun ha hb =>
    up_ (g := fun k => cutplaneref05_Mul.f k f m _ _) (fun k => cutplaneref05_Mul.mono _ _ _ _ k) (rmul_tab hf hm ha hb) k
  obtain ⟨x, fx, ex, hx⟩ := chk_out (rsub_tab hf hm (tm_ok h1 h3) (tm_ok h2 h4))
  obtain ⟨y, fy, ey, hy⟩ := chk_out (radd_tab hf hm (tm_ok h1 h4) (tm_ok h2 h3))
  have sub := up_ (g := fun k => cutplaneref05_Sub.f k f m _ _) (fun k => cutplaneref05_Sub.mono _ _ _ _ k) ex k
  have add := up_ (g := fun k => cutplaneref05_Add.f k f m _ _) (fun k => cutplaneref05_Add.mono _ _ _ _ k) ey k
  refine ⟨x, y, ?_, hx, hy⟩
  unfold cutplaneref11_product.f
  simp only [mul h1 h3, mul h2 h4, mul h1 h4, mul h2 h3, Option.bind_some, sub, add]
theorem fin_zc (f a b : Int) : zc f a b ≤ 2 ↔ (cl f a ≠ 4 ∧ cl f a ≠ 5) ∧ (cl f b ≠ 4 ∧ cl f b ≠ 5) := by
  unfold zc
  by_cases a4 : cl f a = 4 <;> by_cases b4 : cl f b = 4 <;> by_cases a5 : cl f a = 5 <;> by_cases b5 : cl f b = 5 <;> by_cases c : cl f a = 1 <;> by_cases c2 : cl f b = 1 <;> simp_all
theorem ref_Fin (k : Nat) {f w : Int} (h : Gd f w) : cutplaneref03_Finite.f (k + 1) f w = some (decide (cl f w ≠ 4 ∧ cl f w ≠ 5)) := by
  unfold cutplaneref03_Finite.f
  rw [ref_Class k f h.u]
  simp only [Option.bind_some]
  by_cases a4 : cl f w = 4 <;> by_cases a5 : cl f w = 5 <;> simp_all
theorem ref_Finz (k : Nat) {f a b : Int} (h : Gz f a b) : cutplaneref10_Finite.f (k + 1) f a b = some (decide (zc f a b ≤ 2)) := by
  unfold cutplaneref10_Finite.f
  rw [ref_Fin k h.1, ref_Fin k h.2]
  simp only [Option.bind_some, fin_zc]
  by_cases p : cl f a ≠ 4 ∧ cl f a ≠ 5 <;> by_cases q : cl f b ≠ 4 ∧ cl f b ≠ 5 <;> simp [p, q]
theorem rnothing {f : Int} (x : Int) : cutplaneref11_nothing.f f x = some (nanw f, nanw f, x, x) := by
  unfold cutplaneref11_nothing.f
  rw [ref_None]; rfl
theorem inf_lt {f : Int} (hf : f = 1 ∨ f = 2) : 0 ≤ infw f ∧ infw f < sgn f ∧ U (infw f) := by
  rcases hf with rfl | rfl <;> exact ⟨by decide, by decide, by decide, by decide⟩
end Go.Proofs.Ytlgapmhjaaajfaa.PA
end

section
namespace Go.Proofs.Ytlgapmhjaaajfaa.Pure
open Go.RowKit Go.Proofs.Ytlgapmhjaaajfaa.PA Go.Proofs.YtlgapmhjaaajfaaW.PrintWords Go.Proofs.YtlgapmhjaaajfaaW.PrintLast Go.Proofs.YtlgapmhjaaajfaaW.PrintMore Go.Proofs.Ytlgapmhjaaajfaa.Wd
set_option linter.unusedSimpArgs false
set_option linter.unusedVariables false
theorem ref_mul {f m a b c d : Int} (g1 : Gz f a b) (g2 : Gz f c d) (hM : Md m) : cutplaneref11_Mul.f 120 f m a b c d = some ((mulv f m a b c d).1, (mulv f m a b c d).2.1, (mulv f m a b c d).2.2.1, (mulv f m a b c d).2.2.2.1, (mulv f m a b c d).2.2.2.2.1) := by
  have hf := gd_fmt g1.1
  obtain ⟨i0, i1, iu⟩ := inf_lt hf
  unfold cutplaneref11_Mul.f mulv
  simp only [ref_Classz 118 f g1.1.u g1.2.u, ref_Classz 118 f g2.1.u g2.2.u, ref_Finz 119 g1, ref_Finz 119 g2, Option.bind_some]
  have one : zc f a b ≠ 4 → zc f c d ≠ 4 → cutplaneref11_Mul.j2 118 f m false a b c d = some ((wz f (infw f) (btm (bx f a b) (bx f c d) m)).1, (wz f (infw f) (btm (bx f a b) (bx f c d) m)).2, 0, 0, true) := by
    intro p4 q4
    obtain ⟨h1, h2⟩ := bx_ok f a b
    obtain ⟨h3, h4⟩ := bx_ok f c d
    obtain ⟨x, y, e, hx, hy⟩ := prod_val 17 hf hM h1 h2 h3 h4
    simp only [cutplaneref11_Mul.j2, Bool.false_eq_true, if_false, ref_Box 115 g1 p4, ref_Box 115 g2 q4, Option.bind_some]
    have e' : cutplaneref11_product.f 117 f m (bw f a b).1 (bw f a b).2 (bw f c d).1 (bw f c d).2 = some (x, y) := e
    simp only [e', Option.bind_some, ref_Inf, Bool.false_eq_true, if_false, turned_val 113 (okv_u hx) (okv_u hy) iu, tv_size hf hx i0 i1, tv_size hf hy i0 i1]
    rfl
  by_cases p2 : zc f a b ≤ 2
  · by_cases q2 : zc f c d ≤ 2
    · simp [p2, q2, cutplaneref11_Mul.j0]
    · by_cases p4 : zc f a b = 4
      · rw [p4] at p2; exact absurd p2 (by decide)
      · by_cases q4 : zc f c d = 4
        · simp [p2, q2, p4, q4, cutplaneref11_Mul.j0, cutplaneref11_Mul.j1, rnothing]
        · by_cases p1 : zc f a b = 1
          · simp [p2, q2, p4, q4, p1, cutplaneref11_Mul.j0, cutplaneref11_Mul.j1, cutplaneref11_Mul.j2, rnothing]
          · by_cases q1 : zc f c d = 1
            · rw [q1] at q2; exact absurd (by decide) q2
            · have b1 : (zc f c d == 1) = false := by simpa using q1
              simp [p2, q2, p4, q4, p1, q1, b1, cutplaneref11_Mul.j0, cutplaneref11_Mul.j1, one p4 q4]
  · by_cases p4 : zc f a b = 4
    · simp [p2, p4, cutplaneref11_Mul.j0, cutplaneref11_Mul.j1, rnothing]
    · by_cases q4 : zc f c d = 4
      · simp [p2, p4, q4, cutplaneref11_Mul.j0, cutplaneref11_Mul.j1, rnothing]
      · by_cases p1 : zc f a b = 1
        · rw [p1] at p2; exact absurd (by decide) p2
        · by_cases q1 : zc f c d = 1
          · simp [p2, p4, q4, p1, q1, cutplaneref11_Mul.j0, cutplaneref11_Mul.j1, cutplaneref11_Mul.j2, rnothing]
          · have b1 : (zc f c d == 1) = false := by simpa using q1
            simp [p2, p4, q4, p1, q1, b1, cutplaneref11_Mul.j0, cutplaneref11_Mul.j1, one p4 q4]
theorem SpecialProducts : cutplanelaw11_SpecialProducts.Pure := by
  intro f m a b c d _ _ ha hb hc hd
  have ua := u_of ha
  have ub := u_of hb
  have uc := u_of hc
  have ud := u_of hd
  refine ⟨120, ?_⟩
  unfold cutplanelaw11_SpecialProducts.f
  rw [opens_val 117]
  by_cases h : oe f m a b c d = 0
  · obtain ⟨g1, g2, hM⟩ := oe_gz h ua ub uc ud
    have e5 : (mulv f m a b c d).2.2.2.2.2 = 0 := by
      unfold mulv
      repeat' split
      all_goals rfl
    rw [mul_good 112 ua ub uc ud h, ref_mul g1 g2 hM]
    simp [h, e5, known11 96]
  · rw [mul_bad 114 ua ub uc ud h]
    simp [h, known11 96]
end Go.Proofs.Ytlgapmhjaaajfaa.Pure
end
