import PyProof.Rows.All
import Wide.All
import OpenK.AllK
import Wide.FinOn
import PyProof.EqAt
import PyProof.EqKinds
import PyProof.TupleCall
import Open.SpecLaws
import KE.OsGo
import HandS.ForSpec
import HandS.Comp
import HandS.ExcInit
import HandS.ExcField
import PySem.Challenge.RW_knotcharts_s06_kind
set_option autoImplicit false
/-! Symmetries of a field F of two whole numbers: steps, turns, the least repeat. Plain Lean. -/
namespace Kn
/-- A motion's turn by its four numbers. -/
def tE (m : Nat) : Int × Int × Int × Int := match m with
  | 0 => (1, 0, 0, 1)
  | 1 => (0, -1, 1, 0)
  | 2 => (-1, 0, 0, -1)
  | 3 => (0, 1, -1, 0)
  | 4 => (-1, 0, 0, 1)
  | 5 => (0, -1, -1, 0)
  | 6 => (1, 0, 0, -1)
  | _ => (0, 1, 1, 0)
def tX (m : Nat) (x y : Int) : Int := (tE m).1 * x + (tE m).2.1 * y
def tY (m : Nat) (x y : Int) : Int := (tE m).2.2.1 * x + (tE m).2.2.2 * y
theorem m8 {m : Nat} (h : m < 8) : m = 0 ∨ m = 1 ∨ m = 2 ∨ m = 3 ∨ m = 4 ∨ m = 5 ∨ m = 6 ∨ m = 7 := by omega
theorem t_inv {m : Nat} (h : m < 8) (X Y : Int) : ∃ x y, tX m x y = X ∧ tY m x y = Y := by
  rcases m8 h with rfl | rfl | rfl | rfl | rfl | rfl | rfl | rfl
  · exact ⟨X, Y, by simp only [tX, tE]; omega, by simp only [tY, tE]; omega⟩
  · exact ⟨Y, -X, by simp only [tX, tE]; omega, by simp only [tY, tE]; omega⟩
  · exact ⟨-X, -Y, by simp only [tX, tE]; omega, by simp only [tY, tE]; omega⟩
  · exact ⟨-Y, X, by simp only [tX, tE]; omega, by simp only [tY, tE]; omega⟩
  · exact ⟨-X, Y, by simp only [tX, tE]; omega, by simp only [tY, tE]; omega⟩
  · exact ⟨-Y, -X, by simp only [tX, tE]; omega, by simp only [tY, tE]; omega⟩
  · exact ⟨X, -Y, by simp only [tX, tE]; omega, by simp only [tY, tE]; omega⟩
  · exact ⟨Y, X, by simp only [tX, tE]; omega, by simp only [tY, tE]; omega⟩
theorem tX_add (m : Nat) (x y u v : Int) : tX m (x + u) (y + v) = tX m x y + tX m u v := by
  unfold tX
  rw [Int.mul_add, Int.mul_add]
  omega
theorem tY_add (m : Nat) (x y u v : Int) : tY m (x + u) (y + v) = tY m x y + tY m u v := by
  unfold tY
  rw [Int.mul_add, Int.mul_add]
  omega
section
variable {A : Type} {F : Int → Int → A}
def Step (F : Int → Int → A) (a b : Int) : Prop := ∀ x y, F (x + a) (y + b) = F x y
def Sy (F : Int → Int → A) (m : Nat) (a b : Int) : Prop := ∀ x y, F (tX m x y + a) (tY m x y + b) = F x y
theorem Step.zero : Step F 0 0 := fun x y => by rw [Int.add_zero, Int.add_zero]
theorem Step.add {a b u v : Int} (h : Step F a b) (k : Step F u v) : Step F (a + u) (b + v) := fun x y => by
  have := k (x + a) (y + b)
  rw [Int.add_assoc, Int.add_assoc] at this
  rw [this]
  exact h x y
theorem Step.neg {a b : Int} (h : Step F a b) : Step F (-a) (-b) := fun x y => by
  have := h (x + -a) (y + -b)
  rw [Int.add_assoc, Int.add_assoc, Int.add_left_neg, Int.add_left_neg, Int.add_zero, Int.add_zero] at this
  exact this.symm
theorem Step.sub {a b u v : Int} (h : Step F a b) (k : Step F u v) : Step F (a - u) (b - v) := h.add k.neg
theorem Step.mulNat {a b : Int} (h : Step F a b) : ∀ n : Nat, Step F ((n : Int) * a) ((n : Int) * b)
  | 0 => by
    have e : ∀ z : Int, ((0 : Nat) : Int) * z = 0 := fun z => Int.zero_mul z
    rw [e, e]
    exact Step.zero
  | n + 1 => by
    have e : ∀ z : Int, ((n + 1 : Nat) : Int) * z = (n : Int) * z + z := fun z => by
      rw [Int.natCast_add, Int.add_mul]
      omega
    rw [e, e]
    exact (Step.mulNat h n).add h
theorem Step.mul {a b : Int} (h : Step F a b) (k : Int) : Step F (k * a) (k * b) := by
  rcases Int.eq_nat_or_neg k with ⟨n, rfl | rfl⟩
  · exact h.mulNat n
  · rw [Int.neg_mul, Int.neg_mul]
    exact (h.mulNat n).neg
theorem Step.cast {a b a' b' : Int} (h : Step F a b) (e : a = a') (e' : b = b') : Step F a' b' := by
  subst e e'
  exact h
theorem Step.x {a : Int} (h : Step F a 0) (k : Int) : Step F (k * a) 0 := (h.mul k).cast rfl (Int.mul_zero k)
theorem Step.y {b : Int} (h : Step F 0 b) (k : Int) : Step F 0 (k * b) := (h.mul k).cast (Int.mul_zero k) rfl
theorem Step.modx {a b w : Int} (hw : Step F w 0) (h : Step F a b) : Step F (a % w) b :=
  (h.sub (hw.x (a / w))).cast (by rw [Int.emod_def, Int.mul_comm]) (Int.sub_zero b)
theorem Sy.zero : Step F 0 0 := Step.zero
theorem sy0 {a b : Int} : Sy F 0 a b ↔ Step F a b := by
  have e : ∀ x y : Int, tX 0 x y = x ∧ tY 0 x y = y := fun x y => by simp only [tX, tY, tE]; omega
  constructor
  · intro h x y
    have := h x y
    rw [(e x y).1, (e x y).2] at this
    exact this
  · intro h x y
    rw [(e x y).1, (e x y).2]
    exact h x y
theorem Sy.step {m : Nat} {a b u v : Int} (h : Sy F m a b) (k : Step F u v) : Sy F m (a + u) (b + v) := fun x y => by
  rw [← Int.add_assoc, ← Int.add_assoc, k, h x y]
theorem Sy.cast {m : Nat} {a b a' b' : Int} (h : Sy F m a b) (e : a = a') (e' : b = b') : Sy F m a' b' := by
  subst e e'
  exact h
theorem Sy.diff {m : Nat} (hm : m < 8) {a b a' b' : Int} (h : Sy F m a b) (k : Sy F m a' b') : Step F (a - a') (b - b') := fun X Y => by
  obtain ⟨x, y, e1, e2⟩ := t_inv hm (X - a') (Y - b')
  have h1 := h x y
  have h2 := k x y
  rw [e1, e2] at h1 h2
  rw [show X + (a - a') = X - a' + a by omega, show Y + (b - b') = Y - b' + b by omega, h1, ← h2]
  rw [Int.sub_add_cancel, Int.sub_add_cancel]
theorem Sy.conj {m : Nat} (hm : m < 8) {a b u v : Int} (h : Sy F m a b) (k : Step F u v) : Step F (tX m u v) (tY m u v) := fun X Y => by
  obtain ⟨x, y, e1, e2⟩ := t_inv hm (X - a) (Y - b)
  have h1 := h (x + u) (y + v)
  have h2 := h x y
  rw [tX_add, tY_add, k x y] at h1
  rw [e1, e2] at h1 h2
  rw [show X - a + tX m u v + a = X + tX m u v by omega, show Y - b + tY m u v + b = Y + tY m u v by omega] at h1
  rw [h1, ← h2, Int.sub_add_cancel, Int.sub_add_cancel]
/-- a greatest common divisor of two steps to the side is a step -/
theorem Step.gcdx : ∀ (a b : Nat), Step F (a : Int) 0 → Step F (b : Int) 0 → Step F ((Nat.gcd a b : Nat) : Int) 0 := fun a b => by
  induction a, b using Nat.gcd.induction with
  | H0 n =>
    intro _ h
    rw [Nat.gcd_zero_left]
    exact h
  | H1 m n hm ih =>
    intro h k
    rw [Nat.gcd_rec]
    refine ih ?_ h
    rw [Int.natCast_emod]
    exact h.modx k
theorem Step.gcdy (a b : Nat) (h : Step F 0 (a : Int)) (k : Step F 0 (b : Int)) : Step F 0 ((Nat.gcd a b : Nat) : Int) :=
  let G : Int → Int → A := fun x y => F y x
  have h1 : Step G (a : Int) 0 := fun x y => h y x
  have h2 : Step G (b : Int) 0 := fun x y => k y x
  fun x y => Step.gcdx a b h1 h2 y x
theorem Step.dvdx {a b : Nat} (h : Step F (a : Int) 0) (d : a ∣ b) : Step F (b : Int) 0 := by
  obtain ⟨k, rfl⟩ := d
  exact (h.x k).cast (by rw [Int.natCast_mul, Int.mul_comm]) rfl
theorem Step.dvdy {a b : Nat} (h : Step F 0 (a : Int)) (d : a ∣ b) : Step F 0 (b : Int) := by
  obtain ⟨k, rfl⟩ := d
  exact (h.y k).cast rfl (by rw [Int.natCast_mul, Int.mul_comm])
/-- what holds in a window and repeats by it holds everywhere -/
theorem all_of_window {D : Int → Int → Prop} {W H : Nat} (hW : 0 < W) (hH : 0 < H) (px : ∀ x y k : Int, D x y → D (x + k * W) y) (py : ∀ x y k : Int, D x y → D x (y + k * H))
    (g : ∀ x y : Nat, x < W → y < H → D x y) (x y : Int) : D x y := by
  have w0 : (W : Int) ≠ 0 := by omega
  have h0 : (H : Int) ≠ 0 := by omega
  have x1 := Int.emod_nonneg x w0
  have x2 := Int.emod_lt_of_pos x (show (0 : Int) < W by omega)
  have y1 := Int.emod_nonneg y h0
  have y2 := Int.emod_lt_of_pos y (show (0 : Int) < H by omega)
  have h1 := g (x % W).toNat (y % H).toNat (by omega) (by omega)
  rw [Int.toNat_of_nonneg x1, Int.toNat_of_nonneg y1] at h1
  have h2 := py _ _ (y / H) (px _ _ (x / W) h1)
  have ex : x % W + x / W * W = x := by rw [Int.mul_comm]; exact Int.emod_add_mul_ediv x W
  have ey : y % H + y / H * H = y := by rw [Int.mul_comm]; exact Int.emod_add_mul_ediv y H
  rw [ex, ey] at h2
  exact h2
/-- the field agrees with the moved one in a window: as the program looks -/
def agrees [DecidableEq A] (F : Int → Int → A) (m : Nat) (a b : Int) (W H : Nat) : Bool :=
  (List.range H).all fun (y : Nat) => (List.range W).all fun (x : Nat) => decide (F (tX m x y + a) (tY m x y + b) = F x y)
theorem agrees_iff [DecidableEq A] {m : Nat} {a b : Int} {W H : Nat} : agrees F m a b W H = true ↔ ∀ x y : Nat, x < W → y < H → F (tX m x y + a) (tY m x y + b) = F x y := by
  unfold agrees
  simp only [List.all_eq_true, List.mem_range, decide_eq_true_eq]
  exact ⟨fun h x y hx hy => h y hy x hx, fun h y hy x hx => h x y hx hy⟩
theorem window_sy {m : Nat} (hm : m < 8) {a b : Int} {W H : Nat} (hW : 0 < W) (hH : 0 < H) (sx : Step F (W : Int) 0) (sy : Step F 0 (H : Int)) (odd : m % 2 = 1 → Step F 0 (W : Int) ∧ Step F (H : Int) 0) :
    (∀ x y : Nat, x < W → y < H → F (tX m x y + a) (tY m x y + b) = F x y) ↔ Sy F m a b := by
  constructor
  · intro g
    have cx : Step F (tX m W 0) (tY m W 0) ∧ Step F (tX m 0 H) (tY m 0 H) := by
      rcases m8 hm with rfl | rfl | rfl | rfl | rfl | rfl | rfl | rfl
      · exact ⟨sx.cast (by simp only [tX, tE]; omega) (by simp only [tY, tE]; omega), sy.cast (by simp only [tX, tE]; omega) (by simp only [tY, tE]; omega)⟩
      · have o := odd rfl
        exact ⟨o.1.cast (by simp only [tX, tE]; omega) (by simp only [tY, tE]; omega), o.2.neg.cast (by simp only [tX, tE]; omega) (by simp only [tY, tE]; omega)⟩
      · exact ⟨sx.neg.cast (by simp only [tX, tE]; omega) (by simp only [tY, tE]; omega), sy.neg.cast (by simp only [tX, tE]; omega) (by simp only [tY, tE]; omega)⟩
      · have o := odd rfl
        exact ⟨o.1.neg.cast (by simp only [tX, tE]; omega) (by simp only [tY, tE]; omega), o.2.cast (by simp only [tX, tE]; omega) (by simp only [tY, tE]; omega)⟩
      · exact ⟨sx.neg.cast (by simp only [tX, tE]; omega) (by simp only [tY, tE]; omega), sy.cast (by simp only [tX, tE]; omega) (by simp only [tY, tE]; omega)⟩
      · have o := odd rfl
        exact ⟨o.1.neg.cast (by simp only [tX, tE]; omega) (by simp only [tY, tE]; omega), o.2.neg.cast (by simp only [tX, tE]; omega) (by simp only [tY, tE]; omega)⟩
      · exact ⟨sx.cast (by simp only [tX, tE]; omega) (by simp only [tY, tE]; omega), sy.neg.cast (by simp only [tX, tE]; omega) (by simp only [tY, tE]; omega)⟩
      · have o := odd rfl
        exact ⟨o.1.cast (by simp only [tX, tE]; omega) (by simp only [tY, tE]; omega), o.2.cast (by simp only [tX, tE]; omega) (by simp only [tY, tE]; omega)⟩
    have ex : ∀ k : Int, tX m (k * W) 0 = k * tX m W 0 ∧ tY m (k * W) 0 = k * tY m W 0 := fun k => by
      unfold tX tY
      simp only [Int.mul_zero, Int.add_zero]
      exact ⟨Int.mul_left_comm _ _ _, Int.mul_left_comm _ _ _⟩
    have ey : ∀ k : Int, tX m 0 (k * H) = k * tX m 0 H ∧ tY m 0 (k * H) = k * tY m 0 H := fun k => by
      unfold tX tY
      simp only [Int.mul_zero, Int.zero_add]
      exact ⟨Int.mul_left_comm _ _ _, Int.mul_left_comm _ _ _⟩
    refine all_of_window (D := fun x y => F (tX m x y + a) (tY m x y + b) = F x y) hW hH (fun x y k h => ?_) (fun x y k h => ?_) g
    · have z1 := sx.x k x y
      rw [Int.add_zero] at z1
      have z2 := cx.1.mul k (tX m x y + a) (tY m x y + b)
      have e1 := tX_add m x y (k * W) 0
      have e2 := tY_add m x y (k * W) 0
      rw [Int.add_zero] at e1 e2
      show F (tX m (x + k * W) y + a) (tY m (x + k * W) y + b) = F (x + k * W) y
      rw [z1, ← h, ← z2, e1, e2, (ex k).1, (ex k).2]
      congr 1 <;> omega
    · have z1 := sy.y k x y
      rw [Int.add_zero] at z1
      have z2 := cx.2.mul k (tX m x y + a) (tY m x y + b)
      have e1 := tX_add m x y 0 (k * H)
      have e2 := tY_add m x y 0 (k * H)
      rw [Int.add_zero] at e1 e2
      show F (tX m x (y + k * H) + a) (tY m x (y + k * H) + b) = F x (y + k * H)
      rw [z1, ← h, ← z2, e1, e2, (ey k).1, (ey k).2]
      congr 1 <;> omega
  · intro h x y _ _
    exact h x y
/-- a symmetry that exchanges rows and columns makes steps of one way steps of the other -/
theorem Sy.odd {m : Nat} (hm : m < 8) (o : m % 2 = 1) {a b : Int} (h : Sy F m a b) {W H : Int} (sx : Step F W 0) (sy : Step F 0 H) : Step F H 0 ∧ Step F 0 W := by
  have c1 := h.conj hm sx
  have c2 := h.conj hm sy
  rcases m8 hm with rfl | rfl | rfl | rfl | rfl | rfl | rfl | rfl
  · exact absurd o (by decide)
  · exact ⟨c2.neg.cast (by simp only [tX, tE]; omega) (by simp only [tY, tE]; omega), c1.cast (by simp only [tX, tE]; omega) (by simp only [tY, tE]; omega)⟩
  · exact absurd o (by decide)
  · exact ⟨c2.cast (by simp only [tX, tE]; omega) (by simp only [tY, tE]; omega), c1.neg.cast (by simp only [tX, tE]; omega) (by simp only [tY, tE]; omega)⟩
  · exact absurd o (by decide)
  · exact ⟨c2.neg.cast (by simp only [tX, tE]; omega) (by simp only [tY, tE]; omega), c1.neg.cast (by simp only [tX, tE]; omega) (by simp only [tY, tE]; omega)⟩
  · exact absurd o (by decide)
  · exact ⟨c2.cast (by simp only [tX, tE]; omega) (by simp only [tY, tE]; omega), c1.cast (by simp only [tX, tE]; omega) (by simp only [tY, tE]; omega)⟩
end
end Kn
set_option autoImplicit false
/-! The least repeat, and the symmetries that are told. Plain Lean. -/
namespace Kn
/-! ### searches -/
def seek (f : Nat → Bool) (n : Nat) : Option Nat := (List.range n).find? f
theorem seek_some {f : Nat → Bool} {n i : Nat} (hi : i < n) (h : f i = true) (l : ∀ j, j < i → f j = false) : seek f n = some i := by
  unfold seek
  rw [List.find?_range_eq_some]
  refine ⟨h, List.mem_range.mpr hi, fun j hj => ?_⟩
  rw [l j hj]
  rfl
theorem seek_none {f : Nat → Bool} {n : Nat} (l : ∀ j, j < n → f j = false) : seek f n = none := by
  unfold seek
  rw [List.find?_eq_none]
  intro x hx
  rw [l x (List.mem_range.mp hx)]
  decide
theorem seek_some_iff {f : Nat → Bool} {n i : Nat} (h : seek f n = some i) : i < n ∧ f i = true ∧ ∀ j, j < i → f j = false := by
  unfold seek at h
  rw [List.find?_range_eq_some] at h
  refine ⟨List.mem_range.mp h.2.1, h.1, fun j hj => ?_⟩
  have := h.2.2 j hj
  cases e : f j
  · rfl
  · rw [e] at this
    exact absurd this (by decide)
theorem seek_none_iff {f : Nat → Bool} {n : Nat} (h : seek f n = none) (j : Nat) (hj : j < n) : f j = false := by
  unfold seek at h
  rw [List.find?_eq_none] at h
  have := h j (List.mem_range.mpr hj)
  cases e : f j
  · rfl
  · exact absurd e this
/-- row by row -/
def seek2 (f : Nat → Nat → Bool) (p r : Nat) : Option (Nat × Nat) := (List.range r).findSome? fun b => (seek (fun a => f a b) p).map fun a => (a, b)
theorem findSome_range {B : Type} {g : Nat → Option B} : ∀ {n i : Nat} {x : B}, i < n → g i = some x → (∀ j, j < i → g j = none) → (List.range n).findSome? g = some x
  | 0, _, _, h, _, _ => absurd h (Nat.not_lt_zero _)
  | n + 1, i, x, hi, h, l => by
    rw [List.range_succ, List.findSome?_append]
    by_cases e : i = n
    · subst e
      have z : (List.range i).findSome? g = none := List.findSome?_eq_none_iff.mpr fun y hy => l y (List.mem_range.mp hy)
      rw [z]
      show [i].findSome? g = some x
      rw [List.findSome?_cons, h]
    · rw [findSome_range (show i < n by omega) h l]
      rfl
theorem seek2_some {f : Nat → Nat → Bool} {p r a b : Nat} (hb : b < r) (ha : a < p) (h : f a b = true) (l : ∀ a', a' < a → f a' b = false) (l2 : ∀ b', b' < b → ∀ a', a' < p → f a' b' = false) : seek2 f p r = some (a, b) := by
  unfold seek2
  refine findSome_range hb ?_ fun j hj => ?_
  · rw [seek_some (f := fun a => f a b) ha h l]
    rfl
  · rw [seek_none (f := fun a => f a j) (l2 j hj)]
    rfl
theorem seek2_none {f : Nat → Nat → Bool} {p r : Nat} (l : ∀ b, b < r → ∀ a, a < p → f a b = false) : seek2 f p r = none := by
  unfold seek2
  refine List.findSome?_eq_none_iff.mpr fun b hb => ?_
  rw [seek_none (f := fun a => f a b) (l b (List.mem_range.mp hb))]
  rfl
theorem seek2_none_iff {f : Nat → Nat → Bool} {p r : Nat} (h : seek2 f p r = none) (a b : Nat) (ha : a < p) (hb : b < r) : f a b = false := by
  unfold seek2 at h
  have := List.findSome?_eq_none_iff.mp h b (List.mem_range.mpr hb)
  rw [Option.map_eq_none_iff] at this
  exact seek_none_iff this a ha
theorem seek2_some_iff {f : Nat → Nat → Bool} {p r : Nat} {x : Nat × Nat} (h : seek2 f p r = some x) : x.1 < p ∧ x.2 < r ∧ f x.1 x.2 = true := by
  unfold seek2 at h
  obtain ⟨b, hb, e⟩ := List.exists_of_findSome?_eq_some h
  rw [Option.map_eq_some_iff] at e
  obtain ⟨a, ha, rfl⟩ := e
  have := seek_some_iff ha
  exact ⟨this.1, List.mem_range.mp hb, this.2.1⟩
/-! ### ranges in blocks -/
theorem range_blocks {B : Type} (g : Nat → List B) (r : Nat) : ∀ n, (List.range (n * r)).flatMap g = (List.range n).flatMap fun j => (List.range r).flatMap fun i => g (j * r + i)
  | 0 => by rw [Nat.zero_mul]; rfl
  | n + 1 => by
    have e : List.range (n * r + r) = List.range (n * r) ++ (List.range r).map fun x => n * r + x := List.range_add
    rw [Nat.succ_mul, e, List.flatMap_append, range_blocks g r n, List.range_succ, List.flatMap_append, List.flatMap_map]
    simp only [List.flatMap_cons, List.flatMap_nil, List.append_nil]
theorem pick_one {B : Type} (g : Nat → List B) (c : Nat) : ∀ n, c < n → ((List.range n).flatMap fun i => if i = c then g i else []) = g c
  | 0, h => absurd h (Nat.not_lt_zero _)
  | n + 1, h => by
    rw [List.range_succ, List.flatMap_append]
    by_cases e : c = n
    · subst e
      have z : ((List.range c).flatMap fun i => if i = c then g i else []) = [] := by
        rw [List.flatMap_eq_nil_iff]
        intro x hx
        rw [if_neg (Nat.ne_of_lt (List.mem_range.mp hx))]
      rw [z, List.flatMap_cons, if_pos rfl]
      simp
    · rw [pick_one g c n (by omega), List.flatMap_cons, if_neg (show ¬ n = c by omega)]
      simp
/-- one of each block -/
theorem block_pick {B : Type} (g : Nat → List B) {c r : Nat} (hc : c < r) (n : Nat) : ((List.range (n * r)).flatMap fun b => if b % r = c then g b else []) = (List.range n).flatMap fun j => g (j * r + c) := by
  rw [range_blocks]
  congr 1
  funext j
  rw [← pick_one (fun i => g (j * r + i)) c r hc]
  rw [List.flatMap_def, List.flatMap_def]
  refine congrArg List.flatten (List.map_congr_left fun i hi => ?_)
  have hi' := List.mem_range.mp hi
  rw [Nat.add_comm (j * r) i, Nat.add_mul_mod_self_right, Nat.mod_eq_of_lt hi']
theorem grid_map {B : Type} (f : Nat → Nat → B) {W : Nat} (hW : 0 < W) : ∀ H, ((List.range H).flatMap fun j => (List.range W).map fun i => f j i) = (List.range (H * W)).map fun k => f (k / W) (k % W)
  | 0 => by rw [Nat.zero_mul]; rfl
  | H + 1 => by
    have e : List.range (H * W + W) = List.range (H * W) ++ (List.range W).map fun x => H * W + x := List.range_add
    rw [Nat.succ_mul, e, List.map_append, ← grid_map f hW H, List.range_succ, List.flatMap_append, List.map_map]
    simp only [List.flatMap_cons, List.flatMap_nil, List.append_nil]
    congr 1
    refine List.map_congr_left fun i hi => ?_
    have hi' := List.mem_range.mp hi
    show f H i = f ((H * W + i) / W) ((H * W + i) % W)
    rw [Nat.add_comm (H * W) i, Nat.add_mul_mod_self_right, Nat.mod_eq_of_lt hi', Nat.add_mul_div_right _ _ hW, Nat.div_eq_of_lt hi', Nat.zero_add]
theorem filterMap_flat {B : Type} (f : Nat → Option B) : ∀ l : List Nat, l.filterMap f = l.flatMap fun a => (f a).toList
  | [] => rfl
  | a :: l => by
    rw [List.flatMap_cons, ← filterMap_flat f l, List.filterMap_cons]
    cases f a <;> rfl
/-! ### the least repeat -/
section
variable {A : Type} {F : Int → Int → A}
structure IsRep (F : Int → Int → A) (p q r : Nat) : Prop where
  p0 : 0 < p
  sp : Step F p 0
  lp : ∀ k : Nat, 0 < k → k < p → ¬ Step F k 0
  r0 : 0 < r
  qp : q < p
  sr : Step F q r
  lr : ∀ k : Nat, 0 < k → k < r → ∀ a : Int, ¬ Step F a k
theorem IsRep.x {p q r : Nat} (R : IsRep F p q r) {a : Int} (h : Step F a 0) : a % p = 0 := by
  have p0 := R.p0
  have z1 := Int.emod_nonneg a (show (p : Int) ≠ 0 by omega)
  have z2 := Int.emod_lt_of_pos a (show (0 : Int) < p by omega)
  have m := R.sp.modx h
  by_cases e : a % p = 0
  · exact e
  · refine absurd ?_ (R.lp (a % p).toNat (by omega) (by omega))
    rw [Int.toNat_of_nonneg z1]
    exact m
theorem IsRep.step {p q r : Nat} (R : IsRep F p q r) {a b : Int} : Step F a b ↔ b % r = 0 ∧ (a - b / r * q) % p = 0 := by
  have r0 := R.r0
  have e := Int.emod_add_mul_ediv b r
  rw [Int.mul_comm] at e
  constructor
  · intro h
    have z1 := Int.emod_nonneg b (show (r : Int) ≠ 0 by omega)
    have z2 := Int.emod_lt_of_pos b (show (0 : Int) < r by omega)
    have s := h.sub (R.sr.mul (b / r))
    have e1 : b - b / r * r = b % r := by omega
    rw [e1] at s
    have hb : b % r = 0 := by
      by_cases c : b % r = 0
      · exact c
      · refine absurd ?_ (R.lr (b % r).toNat (by omega) (by omega) (a - b / r * q))
        rw [Int.toNat_of_nonneg z1]
        exact s
    rw [hb] at s
    exact ⟨hb, R.x s⟩
  · intro ⟨h1, h2⟩
    have s := (R.sp.x ((a - b / r * q) / p)).add (R.sr.mul (b / r))
    refine s.cast ?_ ?_
    · have := Int.emod_add_mul_ediv (a - b / r * q) p
      rw [h2, Int.mul_comm] at this
      omega
    · omega
theorem IsRep.q_least {p q r : Nat} (R : IsRep F p q r) (k : Nat) (hk : k < q) : ¬ Step F k r := fun h => by
  have s := R.sr.sub h
  have e : (r : Int) - r = 0 := by omega
  rw [e] at s
  have qp := R.qp
  refine R.lp (q - k) (by omega) (by omega) (s.cast (by omega) rfl)
theorem IsRep.wide {p q r : Nat} (R : IsRep F p q r) {w : Nat} (h : Step F w 0) : p ∣ w := by
  have := R.x h
  exact Int.natCast_dvd_natCast.mp (Int.dvd_of_emod_eq_zero this)
theorem IsRep.high {p q r : Nat} (R : IsRep F p q r) {h : Nat} (s : Step F 0 h) : r ∣ h := by
  have := (R.step.mp s).1
  exact Int.natCast_dvd_natCast.mp (Int.dvd_of_emod_eq_zero this)
/-- every symmetry by the first -/
theorem IsRep.sy {p q r : Nat} (_R : IsRep F p q r) {m : Nat} (hm : m < 8) {a0 b0 : Int} (h0 : Sy F m a0 b0) {a b : Int} : Sy F m a b ↔ Step F (a - a0) (b - b0) :=
  ⟨fun h => h.diff hm h0, fun h => (h0.step h).cast (by omega) (by omega)⟩
/-- and there is one in the first window -/
theorem IsRep.sy_first {p q r : Nat} (R : IsRep F p q r) {m : Nat} {a b : Int} (h : Sy F m a b) : ∃ a0 b0 : Nat, a0 < p ∧ b0 < r ∧ Sy F m a0 b0 := by
  have p0 := R.p0
  have r0 := R.r0
  have h1 := h.step (R.sr.mul (-(b / r)))
  have h2 := h1.step (R.sp.x (-((a + -(b / r) * q) / p)))
  have e1 := Int.emod_add_mul_ediv b r
  have e2 := Int.emod_add_mul_ediv (a + -(b / r) * q) p
  have b1 := Int.emod_nonneg b (show (r : Int) ≠ 0 by omega)
  have b2 := Int.emod_lt_of_pos b (show (0 : Int) < r by omega)
  have a1 := Int.emod_nonneg (a + -(b / r) * q) (show (p : Int) ≠ 0 by omega)
  have a2 := Int.emod_lt_of_pos (a + -(b / r) * q) (show (0 : Int) < p by omega)
  refine ⟨((a + -(b / r) * q) % p).toNat, (b % r).toNat, by omega, by omega, h2.cast ?_ ?_⟩
  · rw [Int.toNat_of_nonneg a1, Int.neg_mul _ (p : Int), Int.mul_comm _ (p : Int)]
    omega
  · rw [Int.toNat_of_nonneg b1, Int.neg_mul, Int.mul_comm _ (r : Int)]
    omega
theorem IsRep.sy_nat {p q r : Nat} (R : IsRep F p q r) {m : Nat} (hm : m < 8) {a0 b0 : Nat} (hb0 : b0 < r) (h0 : Sy F m a0 b0) {a b : Nat} : Sy F m a b ↔ b % r = b0 ∧ a % p = (a0 + b / r * q) % p := by
  rw [R.sy hm h0, R.step]
  have r0 := R.r0
  have e := Nat.mod_add_div b r
  rw [Nat.mul_comm] at e
  have hr : b % r < r := Nat.mod_lt _ r0
  have k : ((b : Int) - b0) % r = 0 ↔ b % r = b0 := by
    rw [← Int.emod_eq_emod_iff_emod_sub_eq_zero, ← Int.natCast_emod, ← Int.natCast_emod, Nat.mod_eq_of_lt hb0]
    omega
  rw [k]
  constructor
  · intro ⟨h1, h2⟩
    refine ⟨h1, ?_⟩
    have d : ((b : Int) - b0) / r = ((b / r : Nat) : Int) := by
      have : (b : Int) - b0 = ((b / r : Nat) : Int) * r := by
        rw [← Int.natCast_mul]
        omega
      rw [this]
      exact Int.mul_ediv_cancel _ (by omega)
    rw [d, show (a : Int) - a0 - ((b / r : Nat) : Int) * q = (a : Int) - (a0 + ((b / r : Nat) : Int) * q) by omega, ← Int.emod_eq_emod_iff_emod_sub_eq_zero] at h2
    exact_mod_cast h2
  · intro ⟨h1, h2⟩
    refine ⟨h1, ?_⟩
    have d : ((b : Int) - b0) / r = ((b / r : Nat) : Int) := by
      have : (b : Int) - b0 = ((b / r : Nat) : Int) * r := by
        rw [← Int.natCast_mul]
        omega
      rw [this]
      exact Int.mul_ediv_cancel _ (by omega)
    rw [d, show (a : Int) - a0 - ((b / r : Nat) : Int) * q = (a : Int) - (a0 + ((b / r : Nat) : Int) * q) by omega, ← Int.emod_eq_emod_iff_emod_sub_eq_zero]
    exact_mod_cast h2
/-- those that are told with one m, in order -/
theorem IsRep.told {B : Type} {p q r : Nat} (R : IsRep F p q r) {m : Nat} (hm : m < 8) {a0 b0 : Nat} (hb0 : b0 < r) (h0 : Sy F m a0 b0) {w h : Nat} (w0 : 0 < w) (sw : Step F w 0) (sh : Step F 0 h) (mk : Nat → Nat → B) (s : Nat → Nat → Bool) (hs : ∀ a b : Nat, s a b = true ↔ Sy F m a b) :
    ((List.range h).flatMap fun b => (List.range w).filterMap fun a => if s a b = true then some (mk a b) else none) =
      (List.range (w / p * (h / r))).map fun k => mk ((a0 + k / (w / p) * q) % p + k % (w / p) * p) (b0 + k / (w / p) * r) := by
  have p0 := R.p0
  have r0 := R.r0
  have ew : w / p * p = w := Nat.div_mul_cancel (R.wide sw)
  have eh : h / r * r = h := Nat.div_mul_cancel (R.high sh)
  have W0 : 0 < w / p := Nat.div_pos (Nat.le_of_dvd w0 (R.wide sw)) p0
  have row : ∀ b, ((List.range w).filterMap fun a => if s a b = true then some (mk a b) else none) = if b % r = b0 then (List.range (w / p)).map fun i => mk ((a0 + b / r * q) % p + i * p) b else [] := by
    intro b
    by_cases c : b % r = b0
    · rw [if_pos c, filterMap_flat]
      have e1 : (fun a => (if s a b = true then some (mk a b) else none).toList) = fun a => if a % p = (a0 + b / r * q) % p then [mk a b] else [] := by
        funext a
        have := (hs a b).trans (R.sy_nat hm hb0 h0)
        by_cases z : a % p = (a0 + b / r * q) % p
        · rw [if_pos z, if_pos (this.mpr ⟨c, z⟩)]
          rfl
        · rw [if_neg z, if_neg (fun y => z (this.mp y).2)]
          rfl
      rw [e1]
      have := block_pick (fun a => [mk a b]) (Nat.mod_lt (a0 + b / r * q) p0) (w / p)
      rw [ew] at this
      rw [this, ← List.map_eq_flatMap]
      refine List.map_congr_left fun i _ => ?_
      rw [Nat.add_comm]
    · rw [if_neg c, List.filterMap_eq_nil_iff]
      intro a _
      have := (hs a b).trans (R.sy_nat hm hb0 h0)
      rw [if_neg (fun y => c (this.mp y).1)]
  rw [show (fun b => (List.range w).filterMap fun a => if s a b = true then some (mk a b) else none) = _ from funext row]
  have := block_pick (fun b => (List.range (w / p)).map fun i => mk ((a0 + b / r * q) % p + i * p) b) hb0 (h / r)
  rw [eh] at this
  rw [this]
  have e2 : ∀ j, (j * r + b0) / r = j := fun j => by
    rw [Nat.add_comm, Nat.add_mul_div_right _ _ r0, Nat.div_eq_of_lt hb0, Nat.zero_add]
  have e3 : (fun j => (List.range (w / p)).map fun i => mk ((a0 + (j * r + b0) / r * q) % p + i * p) (j * r + b0)) = fun j => (List.range (w / p)).map fun i => mk ((a0 + j * q) % p + i * p) (b0 + j * r) := by
    funext j
    rw [e2, Nat.add_comm (j * r) b0]
  rw [e3, grid_map (fun j i => mk ((a0 + j * q) % p + i * p) (b0 + j * r)) W0, Nat.mul_comm]
end
end Kn
set_option autoImplicit false
/-! The specification's own words by the field of a chart. Plain Lean. -/
namespace Kn
theorem grid_mem {w h : Nat} {p : Nat × Nat} : p ∈ Rg.grid w h ↔ p.1 < w ∧ p.2 < h := by
  unfold Rg.grid
  rw [List.mem_flatMap]
  constructor
  · rintro ⟨y, hy, hp⟩
    rw [List.mem_map] at hp
    obtain ⟨x, hx, rfl⟩ := hp
    exact ⟨List.mem_range.mp hx, List.mem_range.mp hy⟩
  · intro ⟨h1, h2⟩
    exact ⟨p.2, List.mem_range.mpr h2, List.mem_map.mpr ⟨p.1, List.mem_range.mpr h1, rfl⟩⟩
theorem grid_all {w h : Nat} {f : Nat × Nat → Bool} : (Rg.grid w h).all f = true ↔ ∀ x y : Nat, x < w → y < h → f (x, y) = true := by
  rw [List.all_eq_true]
  exact ⟨fun k x y hx hy => k (x, y) (grid_mem.mpr ⟨hx, hy⟩), fun k p hp => k p.1 p.2 (grid_mem.mp hp).1 (grid_mem.mp hp).2⟩
def fld (c : Rg.Chart) : Int → Int → Nat := fun x y => c.at2 (x, y)
theorem turn_is {m : Nat} (hm : m < 8) (x y : Int) : Rg.turn m (x, y) = (tX m x y, tY m x y) := by
  rcases m8 hm with rfl | rfl | rfl | rfl | rfl | rfl | rfl | rfl <;> refine Prod.ext ?_ ?_ <;> simp [Rg.turn, Rg.quarter, tX, tY, tE]
theorem act_is {m : Nat} (hm : m < 8) (a b x y : Int) : (Rg.Sym.mk m a b).act (x, y) = (tX m x y + a, tY m x y + b) := by
  unfold Rg.Sym.act
  rw [turn_is hm]
section
variable {c : Rg.Chart}
theorem fld_w (c : Rg.Chart) : Step (fld c) c.wide 0 := fun x y => by
  show c.at_ (Rg.wrap (x + c.wide) c.wide) (Rg.wrap (y + 0) c.high) = c.at_ (Rg.wrap x c.wide) (Rg.wrap y c.high)
  unfold Rg.wrap
  rw [Int.add_emod_right, Int.add_zero]
theorem fld_h (c : Rg.Chart) : Step (fld c) 0 c.high := fun x y => by
  show c.at_ (Rg.wrap (x + 0) c.wide) (Rg.wrap (y + c.high) c.high) = c.at_ (Rg.wrap x c.wide) (Rg.wrap y c.high)
  unfold Rg.wrap
  rw [Int.add_emod_right, Int.add_zero]
theorem isStepBy_iff (w0 : 0 < c.wide) (h0 : 0 < c.high) {a b : Int} : Rg.isStepBy c a b = true ↔ Step (fld c) a b := by
  unfold Rg.isStepBy
  rw [grid_all, ← sy0, ← window_sy (by decide) w0 h0 (fld_w c) (fld_h c) (fun z => absurd z (by decide))]
  have e : ∀ x y : Int, tX 0 x y = x ∧ tY 0 x y = y := fun x y => by simp only [tX, tY, tE]; omega
  constructor
  · intro k x y hx hy
    have := eq_of_beq (k x y hx hy)
    rw [(e x y).1, (e x y).2]
    exact this
  · intro k x y hx hy
    have := k x y hx hy
    rw [(e x y).1, (e x y).2] at this
    exact beq_iff_eq.mpr this
theorem keeps_iff {m : Nat} (hm : m < 8) {a b : Int} {w h : Nat} : ((Rg.grid w h).all fun (p : Nat × Nat) => c.at2 ((Rg.Sym.mk m a b).act ((p.1 : Int), (p.2 : Int))) == c.at2 ((p.1 : Int), (p.2 : Int))) = true ↔
    ∀ x y : Nat, x < w → y < h → fld c (tX m x y + a) (tY m x y + b) = fld c x y := by
  rw [grid_all]
  constructor
  · intro k x y hx hy
    have := eq_of_beq (k x y hx hy)
    rw [act_is hm] at this
    exact this
  · intro k x y hx hy
    refine beq_iff_eq.mpr ?_
    rw [act_is hm]
    exact k x y hx hy
theorem gcd_pos {a b : Nat} (h : 0 < a) : 0 < Nat.gcd a b := Nat.gcd_pos_of_pos_left _ h
theorem isSym_iff (w0 : 0 < c.wide) (h0 : 0 < c.high) {m : Nat} {a b : Int} : Rg.isSym c ⟨m, a, b⟩ = true ↔ m < 8 ∧ Sy (fld c) m a b := by
  have g0 : 0 < Nat.gcd c.wide c.high := gcd_pos w0
  unfold Rg.isSym
  show (decide (m < 8) && (if m % 2 = 0 then _ else _)) = true ↔ _
  rw [Bool.and_eq_true, decide_eq_true_eq]
  refine and_congr_right fun hm => ?_
  by_cases o : m % 2 = 0
  · rw [if_pos o]
    refine Iff.trans (keeps_iff hm) ?_
    exact window_sy hm w0 h0 (fld_w c) (fld_h c) (fun z => by omega)
  · rw [if_neg o, Bool.and_eq_true, Bool.and_eq_true, isStepBy_iff w0 h0, isStepBy_iff w0 h0, keeps_iff hm]
    have o' : m % 2 = 1 := by omega
    constructor
    · intro ⟨s1, s2, k⟩
      have gx := Step.gcdx _ _ (fld_w c) s1
      have gy := Step.gcdy _ _ s2 (fld_h c)
      exact (window_sy hm g0 g0 gx gy fun _ => ⟨gy, gx⟩).mp k
    · intro k
      have s := k.odd hm o' (fld_w c) (fld_h c)
      have gx := Step.gcdx _ _ (fld_w c) s.1
      have gy := Step.gcdy _ _ s.2 (fld_h c)
      exact ⟨s.1, s.2, (window_sy hm g0 g0 gx gy fun _ => ⟨gy, gx⟩).mpr k⟩
theorem isStep_iff (w0 : 0 < c.wide) (h0 : 0 < c.high) {a b : Int} : Rg.isStep c a b = true ↔ Step (fld c) a b := by
  unfold Rg.isStep
  rw [isSym_iff w0 h0, sy0]
  exact ⟨fun h => h.2, fun h => ⟨by decide, h⟩⟩
/-! ### the least repeat -/
theorem firstFrom_is {n k : Nat} {f : Nat → Bool} (hk : k < n) (h : f k = true) (l : ∀ j, j < k → f j = false) : Rg.firstFrom n f = k := by
  unfold Rg.firstFrom
  have := seek_some hk h l
  unfold seek at this
  rw [this]
  rfl
theorem leastOf_is (w0 : 0 < c.wide) (h0 : 0 < c.high) {p q r : Nat} (R : IsRep (fld c) p q r) : Rg.leastOf c = ⟨p, q, r⟩ := by
  have pw : p ≤ c.wide := Nat.le_of_dvd w0 (R.wide (fld_w c))
  have rh : r ≤ c.high := Nat.le_of_dvd h0 (R.high (fld_h c))
  have p0 := R.p0
  have r0 := R.r0
  have qp := R.qp
  have e1 : (Rg.firstFrom (c.wide + 1) fun (k : Nat) => decide (0 < k) && Rg.isStep c k 0) = p := by
    refine firstFrom_is (by omega) ?_ fun j hj => ?_
    · rw [Bool.and_eq_true, decide_eq_true_eq, isStep_iff w0 h0]
      exact ⟨p0, R.sp⟩
    · cases e : decide (0 < j) && Rg.isStep c j 0
      · rfl
      · rw [Bool.and_eq_true, decide_eq_true_eq, isStep_iff w0 h0] at e
        exact absurd e.2 (R.lp j e.1 hj)
  have e2 : (Rg.firstFrom (c.high + 1) fun (k : Nat) => decide (0 < k) && (List.range c.wide).any fun (a : Nat) => Rg.isStep c a k) = r := by
    refine firstFrom_is (by omega) ?_ fun j hj => ?_
    · rw [Bool.and_eq_true, decide_eq_true_eq, List.any_eq_true]
      exact ⟨r0, q, List.mem_range.mpr (by omega), (isStep_iff w0 h0).mpr R.sr⟩
    · cases e : decide (0 < j) && (List.range c.wide).any fun (a : Nat) => Rg.isStep c a j
      · rfl
      · rw [Bool.and_eq_true, decide_eq_true_eq, List.any_eq_true] at e
        obtain ⟨j0, a, _, ha⟩ := e
        exact absurd ((isStep_iff w0 h0).mp ha) (R.lr j j0 hj a)
  have e3 : (Rg.firstFrom c.wide fun (a : Nat) => Rg.isStep c a r) = q := by
    refine firstFrom_is (by omega) ((isStep_iff w0 h0).mpr R.sr) fun j hj => ?_
    cases e : Rg.isStep c j r
    · rfl
    · exact absurd ((isStep_iff w0 h0).mp e) (R.q_least j hj)
  show Rg.Repeat.mk (Rg.firstFrom (c.wide + 1) fun (k : Nat) => decide (0 < k) && Rg.isStep c k 0) (Rg.firstFrom c.wide fun (a : Nat) => Rg.isStep c a (Rg.firstFrom (c.high + 1) fun (k : Nat) => decide (0 < k) && (List.range c.wide).any fun (a : Nat) => Rg.isStep c a k) ) (Rg.firstFrom (c.high + 1) fun (k : Nat) => decide (0 < k) && (List.range c.wide).any fun (a : Nat) => Rg.isStep c a k) = ⟨p, q, r⟩
  rw [e1, e2, e3]
end
/-! ### the same by the program's own searches -/
section
variable {A : Type} [DecidableEq A] {F : Int → Int → A}
def pStep (F : Int → Int → A) (w h : Nat) (a b : Int) : Bool := agrees F 0 a b w h
theorem pStep_iff {w h : Nat} (w0 : 0 < w) (h0 : 0 < h) (sw : Step F w 0) (sh : Step F 0 h) {a b : Int} : pStep F w h a b = true ↔ Step F a b := by
  unfold pStep
  rw [agrees_iff, window_sy (by decide) w0 h0 sw sh (fun z => absurd z (by decide)), sy0]
def pWide (F : Int → Int → A) (w h : Nat) : Nat := match seek (fun i => pStep F w h ((1 + i : Nat) : Int) 0) (w - 1) with
  | some i => 1 + i
  | none => w
def pAside (F : Int → Int → A) (w h p : Nat) (r : Int) : Option Nat := seek (fun a => pStep F w h (a : Int) r) p
def pRep (F : Int → Int → A) (w h : Nat) : Nat × Nat × Nat := match seek (fun i => (pAside F w h (pWide F w h) ((1 + i : Nat) : Int)).isSome) (h - 1) with
  | some i => (pWide F w h, (pAside F w h (pWide F w h) ((1 + i : Nat) : Int)).getD 0, 1 + i)
  | none => (pWide F w h, 0, h)
theorem bool_not {b : Bool} {P : Prop} (h : b = true ↔ P) (e : b = false) : ¬ P := fun p => by
  rw [h.mpr p] at e
  cases e
theorem pWide_is {w h : Nat} (w0 : 0 < w) (h0 : 0 < h) (sw : Step F w 0) (sh : Step F 0 h) : 0 < pWide F w h ∧ pWide F w h ≤ w ∧ Step F (pWide F w h) 0 ∧ ∀ k : Nat, 0 < k → k < pWide F w h → ¬ Step F k 0 := by
  unfold pWide
  cases e : seek (fun i => pStep F w h ((1 + i : Nat) : Int) 0) (w - 1) with
  | none =>
    refine ⟨w0, Nat.le_refl _, sw, fun k k0 kw => bool_not (pStep_iff w0 h0 sw sh) ?_⟩
    have kw' : k < w := kw
    have := seek_none_iff e (k - 1) (by omega)
    rw [show 1 + (k - 1) = k by omega] at this
    exact this
  | some i =>
    obtain ⟨hi, h1, l⟩ := seek_some_iff e
    refine ⟨by show 0 < 1 + i; omega, by show 1 + i ≤ w; omega, (pStep_iff w0 h0 sw sh).mp h1, fun k k0 kw => bool_not (pStep_iff w0 h0 sw sh) ?_⟩
    have kw' : k < 1 + i := kw
    have := l (k - 1) (by omega)
    rw [show 1 + (k - 1) = k by omega] at this
    exact this
theorem pRep_is {w h : Nat} (w0 : 0 < w) (h0 : 0 < h) (sw : Step F w 0) (sh : Step F 0 h) : IsRep F (pRep F w h).1 (pRep F w h).2.1 (pRep F w h).2.2 ∧ (pRep F w h).1 ≤ w ∧ (pRep F w h).2.2 ≤ h := by
  obtain ⟨p0, pw, sp, lp⟩ := pWide_is w0 h0 sw sh
  -- no step by k down where aside finds none
  have no : ∀ k : Int, (pAside F w h (pWide F w h) k).isSome = false → ∀ a : Int, ¬ Step F a k := fun k e a s => by
    have z1 := Int.emod_nonneg a (show ((pWide F w h : Nat) : Int) ≠ 0 by omega)
    have z2 := Int.emod_lt_of_pos a (show (0 : Int) < ((pWide F w h : Nat) : Int) by omega)
    have s2 := sp.modx s
    have e2 : pAside F w h (pWide F w h) k = none := by
      cases y : pAside F w h (pWide F w h) k with
      | none => rfl
      | some v => rw [y] at e; cases e
    have := seek_none_iff e2 (a % ((pWide F w h : Nat) : Int)).toNat (by omega)
    rw [Int.toNat_of_nonneg z1] at this
    exact bool_not (pStep_iff w0 h0 sw sh) this s2
  have lr : ∀ n : Nat, (∀ j, j < n → (pAside F w h (pWide F w h) ((1 + j : Nat) : Int)).isSome = false) → ∀ k : Nat, 0 < k → k < 1 + n → ∀ a : Int, ¬ Step F a k := fun n l k k0 kn a => by
    have := l (k - 1) (by omega)
    rw [show 1 + (k - 1) = k by omega] at this
    exact no k this a
  unfold pRep
  cases e : seek (fun i => (pAside F w h (pWide F w h) ((1 + i : Nat) : Int)).isSome) (h - 1) with
  | none =>
    refine ⟨⟨p0, sp, lp, h0, p0, sh, fun k k0 kh a => lr (h - 1) (fun j hj => seek_none_iff e j hj) k k0 (by have kh' : k < h := kh; omega) a⟩, pw, Nat.le_refl _⟩
  | some i =>
    obtain ⟨hi, h1, l⟩ := seek_some_iff e
    cases y : pAside F w h (pWide F w h) ((1 + i : Nat) : Int) with
    | none => rw [y] at h1; cases h1
    | some v =>
      obtain ⟨hv, h2, _⟩ := seek_some_iff y
      refine ⟨(?_ : IsRep F (pWide F w h) ((pAside F w h (pWide F w h) ((1 + i : Nat) : Int)).getD 0) (1 + i)), pw, by show 1 + i ≤ h; omega⟩
      rw [y]
      exact ⟨p0, sp, lp, by omega, hv, (pStep_iff w0 h0 sw sh).mp h2, fun k k0 ki a => lr i l k k0 ki a⟩
/-! ### symmetries, as the program looks -/
def pSquares (F : Int → Int → A) (w h : Nat) : Bool := pStep F w h ((Nat.gcd w h : Nat) : Int) 0 && pStep F w h 0 ((Nat.gcd w h : Nat) : Int)
/-- the window -/
def pWin (m w h : Nat) : Nat × Nat := if m % 2 = 1 then (Nat.gcd w h, Nat.gcd w h) else (w, h)
def pSym (F : Int → Int → A) (w h m : Nat) (a b : Int) : Bool := if (decide (m % 2 = 1) && !pSquares F w h) = true then false else agrees F m a b (pWin m w h).1 (pWin m w h).2
theorem pSquares_iff {w h : Nat} (w0 : 0 < w) (h0 : 0 < h) (sw : Step F w 0) (sh : Step F 0 h) : pSquares F w h = true ↔ Step F ((Nat.gcd w h : Nat) : Int) 0 ∧ Step F 0 ((Nat.gcd w h : Nat) : Int) := by
  unfold pSquares
  rw [Bool.and_eq_true, pStep_iff w0 h0 sw sh, pStep_iff w0 h0 sw sh]
theorem pSquares_of {w h : Nat} (w0 : 0 < w) (h0 : 0 < h) (sw : Step F w 0) (sh : Step F 0 h) {m : Nat} (hm : m < 8) (o : m % 2 = 1) {a b : Int} (k : Sy F m a b) : pSquares F w h = true := by
  have s := k.odd hm o sw sh
  exact (pSquares_iff w0 h0 sw sh).mpr ⟨Step.gcdx _ _ sw s.1, Step.gcdy _ _ s.2 sh⟩
theorem pAgrees_iff {w h : Nat} (w0 : 0 < w) (h0 : 0 < h) (sw : Step F w 0) (sh : Step F 0 h) {m : Nat} (hm : m < 8) (sq : m % 2 = 1 → pSquares F w h = true) {a b : Int} : agrees F m a b (pWin m w h).1 (pWin m w h).2 = true ↔ Sy F m a b := by
  have g0 : 0 < Nat.gcd w h := gcd_pos w0
  rw [agrees_iff]
  unfold pWin
  by_cases o : m % 2 = 1
  · rw [if_pos o]
    have s := (pSquares_iff w0 h0 sw sh).mp (sq o)
    exact window_sy hm g0 g0 s.1 s.2 fun _ => ⟨s.2, s.1⟩
  · rw [if_neg o]
    exact window_sy hm w0 h0 sw sh fun z => absurd z o
theorem pSym_iff {w h : Nat} (w0 : 0 < w) (h0 : 0 < h) (sw : Step F w 0) (sh : Step F 0 h) {m : Nat} (hm : m < 8) {a b : Int} : pSym F w h m a b = true ↔ Sy F m a b := by
  unfold pSym
  by_cases c : (decide (m % 2 = 1) && !pSquares F w h) = true
  · rw [if_pos c]
    rw [Bool.and_eq_true, decide_eq_true_eq] at c
    refine ⟨fun z => (by cases z), fun k => ?_⟩
    have := pSquares_of w0 h0 sw sh hm c.1 k
    rw [this] at c
    exact absurd c.2 (by decide)
  · rw [if_neg c]
    refine pAgrees_iff w0 h0 sw sh hm fun o => ?_
    cases e : pSquares F w h with
    | true => rfl
    | false =>
      refine absurd ?_ c
      rw [e, Bool.and_eq_true, decide_eq_true_eq]
      exact ⟨o, rfl⟩
/-- the first symmetry with m, (a, b) -/
def pFirst (F : Int → Int → A) (w h p r m : Nat) : Option (Nat × Nat) := if (decide (m % 2 = 1) && !pSquares F w h) = true then none else seek2 (fun a b => agrees F m (a : Int) (b : Int) (pWin m w h).1 (pWin m w h).2) p r
theorem pFirst_none {w h : Nat} (w0 : 0 < w) (h0 : 0 < h) (sw : Step F w 0) (sh : Step F 0 h) {p q r : Nat} (R : IsRep F p q r) {m : Nat} (hm : m < 8) (e : pFirst F w h p r m = none) (a b : Int) : ¬ Sy F m a b := fun k => by
  unfold pFirst at e
  by_cases c : (decide (m % 2 = 1) && !pSquares F w h) = true
  · rw [Bool.and_eq_true, decide_eq_true_eq] at c
    have := pSquares_of w0 h0 sw sh hm c.1 k
    rw [this] at c
    exact absurd c.2 (by decide)
  · rw [if_neg c] at e
    obtain ⟨a0, b0, ha, hb, k0⟩ := R.sy_first k
    have z := seek2_none_iff e a0 b0 ha hb
    refine bool_not (pAgrees_iff w0 h0 sw sh hm fun o => ?_) z k0
    exact pSquares_of w0 h0 sw sh hm o k
theorem pFirst_some {w h : Nat} (w0 : 0 < w) (h0 : 0 < h) (sw : Step F w 0) (sh : Step F 0 h) {p r m : Nat} (hm : m < 8) {x : Nat × Nat} (e : pFirst F w h p r m = some x) : x.1 < p ∧ x.2 < r ∧ Sy F m x.1 x.2 := by
  unfold pFirst at e
  by_cases c : (decide (m % 2 = 1) && !pSquares F w h) = true
  · rw [if_pos c] at e
    cases e
  · rw [if_neg c] at e
    obtain ⟨h1, h2, h3⟩ := seek2_some_iff e
    refine ⟨h1, h2, (pAgrees_iff w0 h0 sw sh hm fun o => ?_).mp h3⟩
    cases e : pSquares F w h with
    | true => rfl
    | false =>
      refine absurd ?_ c
      rw [e, Bool.and_eq_true, decide_eq_true_eq]
      exact ⟨o, rfl⟩
/-- (m, a, b) of each m with which there are some -/
def pFirsts (F : Int → Int → A) (w h p r : Nat) : List (Nat × Nat × Nat) := (List.range 8).filterMap fun m => (pFirst F w h p r m).map fun x => (m, x.1, x.2)
/-- the k-th that is told with the m of a first one -/
def pTold (w p q r : Nat) (f : Nat × Nat × Nat) (k : Nat) : Rg.Sym := ⟨f.1, ((f.2.1 + k / (w / p) * q) % p + k % (w / p) * p : Nat), (f.2.2 + k / (w / p) * r : Nat)⟩
def pMany (w h p r : Nat) : Nat := w / p * (h / r)
theorem syms_by {w h : Nat} (w0 : 0 < w) (h0 : 0 < h) (sw : Step F w 0) (sh : Step F 0 h) {p q r : Nat} (R : IsRep F p q r) (s : Nat → Nat → Nat → Bool) (hs : ∀ m a b : Nat, m < 8 → (s m a b = true ↔ Sy F m a b)) :
    ((List.range 8).flatMap fun (m : Nat) => (List.range h).flatMap fun (b : Nat) => (List.range w).filterMap fun (a : Nat) => if s m a b = true then some (Rg.Sym.mk m a b) else none) =
      (pFirsts F w h p r).flatMap fun f => (List.range (pMany w h p r)).map (pTold w p q r f) := by
  unfold pFirsts
  have flat : ∀ {B C : Type} (g : Nat → Option B) (u : B → List C) (l : List Nat), (l.filterMap g).flatMap u = l.flatMap fun m => ((g m).map u).getD [] := fun g u l => by
    induction l with
    | nil => rfl
    | cons a l ih =>
      rw [List.flatMap_cons, ← ih, List.filterMap_cons]
      cases g a <;> rfl
  rw [flat, List.flatMap_def, List.flatMap_def]
  refine congrArg List.flatten (List.map_congr_left fun m hm => ?_)
  have hm' : m < 8 := List.mem_range.mp hm
  cases e : pFirst F w h p r m with
  | none =>
    show _ = []
    rw [List.flatMap_eq_nil_iff]
    intro b _
    rw [List.filterMap_eq_nil_iff]
    intro a _
    rw [if_neg]
    exact fun z => pFirst_none w0 h0 sw sh R hm' e a b ((hs m a b hm').mp z)
  | some x =>
    obtain ⟨_, hb, k⟩ := pFirst_some w0 h0 sw sh hm' e
    exact R.told hm' hb k w0 sw sh (fun a b => Rg.Sym.mk m a b) (s m) fun a b => hs m a b hm'
theorem blocks_len {B C : Type} (g : B → Nat → C) (n : Nat) : ∀ l : List B, (l.flatMap fun f => (List.range n).map (g f)).length = l.length * n
  | [] => by rw [List.flatMap_nil, List.length_nil, List.length_nil, Nat.zero_mul]
  | f :: l => by rw [List.flatMap_cons, List.length_append, blocks_len g n l, List.length_map, List.length_range, List.length_cons, Nat.succ_mul, Nat.add_comm]
theorem blocks_get {B C : Type} (g : B → Nat → C) {n : Nat} (n0 : 0 < n) : ∀ (l : List B) (k : Nat), (l.flatMap fun f => (List.range n).map (g f))[k]? = (l[k / n]?).map fun f => g f (k % n)
  | [], k => by simp
  | f :: l, k => by
    rw [List.flatMap_cons]
    by_cases h : k < n
    · rw [List.getElem?_append_left (by rw [List.length_map, List.length_range]; exact h), Nat.div_eq_of_lt h, Nat.mod_eq_of_lt h, List.getElem?_map, List.getElem?_range h]
      rfl
    · rw [List.getElem?_append_right (by rw [List.length_map, List.length_range]; omega), List.length_map, List.length_range, blocks_get g n0 l]
      have e1 : k = (k - n) + n := by omega
      have e2 : k / n = (k - n) / n + 1 := by
        rw [e1, Nat.add_div_right _ n0, Nat.add_sub_cancel]
      have e3 : k % n = (k - n) % n := by
        rw [e1, Nat.add_mod_right, Nat.add_sub_cancel]
      rw [e2, e3, List.getElem?_cons_succ]
end
end Kn
set_option autoImplicit false
/-! A chart's text. Plain Lean. -/
namespace Kn
def isCol (z : Int) : Bool := (decide (97 ≤ z) && decide (z ≤ 122)) || ((decide (65 ≤ z) && decide (z ≤ 90)) || (decide (48 ≤ z) && decide (z ≤ 57)))
def num (z : Int) : Nat := if 97 ≤ z ∧ z ≤ 122 then (z - 97).toNat else if 65 ≤ z ∧ z ≤ 90 then (z - 65).toNat + 26 else (z - 48).toNat + 52
theorem isCol_iff {z : Int} : isCol z = true ↔ (97 ≤ z ∧ z ≤ 122) ∨ (65 ≤ z ∧ z ≤ 90) ∨ (48 ≤ z ∧ z ≤ 57) := by
  unfold isCol
  simp only [Bool.or_eq_true, Bool.and_eq_true, decide_eq_true_eq]
theorem num_inj {z u : Int} (hz : isCol z = true) (hu : isCol u = true) (e : num z = num u) : z = u := by
  rw [isCol_iff] at hz hu
  unfold num at e
  split at e <;> split at e <;> (try split at e) <;> (try split at e) <;> omega
def isByte (z : Int) : Prop := 0 ≤ z ∧ z ≤ 255
def by8 (z : Int) : UInt8 := UInt8.ofNat z.toNat
theorem by8_lf {z : Int} (h : isByte z) : by8 z = Rg.LF ↔ z = 10 := by
  have key : ∀ n : Fin 256, UInt8.ofNat n.val = Rg.LF → n.val = 10 := by decide +kernel
  constructor
  · intro e
    have := key ⟨z.toNat, by have := h.2; omega⟩ e
    have h1 := h.1
    have : z.toNat = 10 := this
    omega
  · rintro rfl
    rfl
theorem colour_key : ∀ n : Fin 256, Rg.colourOf (UInt8.ofNat n.val) = (if isCol (n.val : Int) = true then some (num (n.val : Int)) else none) := by decide +kernel
theorem byteOf_key : ∀ n : Fin 256, isCol (n.val : Int) = true → num (n.val : Int) < 62 ∧ Rg.byteOf (num (n.val : Int)) = UInt8.ofNat n.val ∧ (UInt8.ofNat n.val).toNat = n.val := by decide +kernel
theorem colour_is {z : Int} (h : isByte z) : Rg.colourOf (by8 z) = if isCol z = true then some (num z) else none := by
  have := colour_key ⟨z.toNat, by have := h.2; omega⟩
  simp only [Int.toNat_of_nonneg h.1] at this
  exact this
theorem byteOf_is {z : Int} (h : isByte z) (k : isCol z = true) : num z < 62 ∧ Rg.byteOf (num z) = by8 z ∧ ((by8 z).toNat : Int) = z := by
  have := byteOf_key ⟨z.toNat, by have := h.2; omega⟩
  simp only [Int.toNat_of_nonneg h.1] at this
  obtain ⟨h1, h2, h3⟩ := this k
  refine ⟨h1, h2, ?_⟩
  show ((UInt8.ofNat z.toNat).toNat : Int) = z
  rw [h3]
  exact Int.toNat_of_nonneg h.1
/-- the rows ahead of a byte 10, and what stands behind the last one -/
def rowStep (s : List (List Int) × List Int) (z : Int) : List (List Int) × List Int := if z = 10 then (s.1 ++ [s.2], []) else (s.1, s.2 ++ [z])
def parts (t : List Int) : List (List Int) × List Int := t.foldl rowStep ([], [])
theorem cut_is : ∀ (t : List Int) (done : List (List Int)) (cur : List Int) (p : Nat), (∀ z ∈ t, isByte z) →
    done.map (List.map by8) ++ (Rg.cut Rg.LF p (cur.map by8) (t.map by8)).map (·.2) = ((t.foldl rowStep (done, cur)).1 ++ [(t.foldl rowStep (done, cur)).2]).map (List.map by8)
  | [], done, cur, p, _ => by
    rw [List.map_append]
    rfl
  | z :: t, done, cur, p, h => by
    have hz := h z List.mem_cons_self
    have ht : ∀ y ∈ t, isByte y := fun y hy => h y (List.mem_cons_of_mem _ hy)
    rw [List.foldl_cons]
    by_cases e : z = 10
    · have e1 : rowStep (done, cur) z = (done ++ [cur], []) := if_pos e
      rw [e1, ← cut_is t (done ++ [cur]) [] (p + (cur.map by8).length + 1) ht]
      show _ ++ (if by8 z = Rg.LF then _ else _ : List (Nat × Rg.Bytes)).map (·.2) = _
      rw [if_pos ((by8_lf hz).mpr e), List.map_append, List.append_assoc]
      rfl
    · have e1 : rowStep (done, cur) z = (done, cur ++ [z]) := if_neg e
      rw [e1, ← cut_is t done (cur ++ [z]) p ht]
      show _ ++ (if by8 z = Rg.LF then _ else _ : List (Nat × Rg.Bytes)).map (·.2) = _
      rw [if_neg (fun y => e ((by8_lf hz).mp y)), List.map_append]
      rfl
theorem join_is : ∀ (t : List Int) (done : List (List Int)) (cur : List Int), ((t.foldl rowStep (done, cur)).1.flatMap fun r => r ++ [10]) ++ (t.foldl rowStep (done, cur)).2 = (done.flatMap fun r => r ++ [10]) ++ (cur ++ t)
  | [], done, cur => by rw [List.append_nil]; rfl
  | z :: t, done, cur => by
    rw [List.foldl_cons]
    by_cases e : z = 10
    · have e1 : rowStep (done, cur) z = (done ++ [cur], []) := if_pos e
      rw [e1, join_is t, List.flatMap_append, e]
      simp
    · have e1 : rowStep (done, cur) z = (done, cur ++ [z]) := if_neg e
      rw [e1, join_is t]
      simp
theorem parts_join (t : List Int) : ((parts t).1.flatMap fun r => r ++ [10]) ++ (parts t).2 = t := join_is t [] []
theorem parts_mem {t : List Int} {r : List Int} (hr : r ∈ (parts t).1) {z : Int} (hz : z ∈ r) : z ∈ t := by
  rw [← parts_join t]
  refine List.mem_append_left _ (List.mem_flatMap.mpr ⟨r, hr, List.mem_append_left _ hz⟩)
theorem parts_len (t : List Int) : (parts t).1.length ≤ t.length := by
  have e := congrArg List.length (parts_join t)
  rw [List.length_append] at e
  have : ∀ l : List (List Int), l.length ≤ (l.flatMap fun r => r ++ [10]).length := fun l => by
    induction l with
    | nil => exact Nat.le_refl _
    | cons a l ih =>
      rw [List.flatMap_cons, List.length_append, List.length_append, List.length_cons, List.length_cons]
      have : ([] : List Int).length = 0 := rfl
      omega
  have := this (parts t).1
  omega
theorem parts_row_len {t : List Int} {r : List Int} (hr : r ∈ (parts t).1) : r.length ≤ t.length := by
  have e := congrArg List.length (parts_join t)
  rw [List.length_append] at e
  have : ∀ l : List (List Int), r ∈ l → r.length ≤ (l.flatMap fun r => r ++ [10]).length := fun l => by
    induction l with
    | nil => intro h; cases h
    | cons a l ih =>
      intro h
      rw [List.flatMap_cons, List.length_append, List.length_append]
      rcases List.mem_cons.mp h with rfl | h
      · omega
      · have := ih h
        omega
  have := this (parts t).1 hr
  omega
def wideOf (rows : List (List Int)) : Nat := (rows.headD []).length
def okRows (rows : List (List Int)) : Prop := 1 ≤ wideOf rows ∧ wideOf rows ≤ 512 ∧ rows.length ≤ 512 ∧ wideOf rows * rows.length ≤ 65536 ∧ ∀ r ∈ rows, r.length = wideOf rows ∧ ∀ z ∈ r, isCol z = true
instance (rows : List (List Int)) : Decidable (okRows rows) := by unfold okRows; exact inferInstance
/-- the chart of rows -/
def cOf (rows : List (List Int)) : Rg.Chart := ⟨wideOf rows, rows.length, rows.map (List.map num)⟩
theorem fm_len (g : Int → Option Nat) : ∀ r : List Int, ((r.map g).filterMap id).length ≤ r.length ∧ (((r.map g).filterMap id).length = r.length → ∀ z ∈ r, (g z).isSome = true)
  | [] => ⟨Nat.le_refl _, fun _ z h => by cases h⟩
  | a :: r => by
    obtain ⟨h1, h2⟩ := fm_len g r
    cases e : g a with
    | none =>
      have e1 : ((a :: r).map g).filterMap id = (r.map g).filterMap id := by
        rw [List.map_cons, e]
        rfl
      rw [e1, List.length_cons]
      exact ⟨by omega, fun z => by omega⟩
    | some v =>
      have e1 : ((a :: r).map g).filterMap id = v :: (r.map g).filterMap id := by
        rw [List.map_cons, e]
        rfl
      rw [e1, List.length_cons, List.length_cons]
      refine ⟨by omega, fun y z hz => ?_⟩
      rcases List.mem_cons.mp hz with rfl | hz
      · rw [e]; rfl
      · exact h2 (by omega) z hz
theorem text_len (g : Int → Option Nat) : ∀ rows : List (List Int), (rows.flatMap fun r => ((r.map g).filterMap id).map Rg.byteOf ++ [Rg.LF]).length ≤ (rows.flatMap fun r => r ++ [10]).length ∧
    ((rows.flatMap fun r => ((r.map g).filterMap id).map Rg.byteOf ++ [Rg.LF]).length = (rows.flatMap fun r => r ++ [10]).length → ∀ r ∈ rows, ∀ z ∈ r, (g z).isSome = true)
  | [] => ⟨Nat.le_refl _, fun _ z h => by cases h⟩
  | r :: rows => by
    obtain ⟨h1, h2⟩ := text_len g rows
    obtain ⟨k1, k2⟩ := fm_len g r
    simp only [List.flatMap_cons, List.length_append, List.length_map, List.length_cons, List.length_nil]
    refine ⟨by omega, fun y z hz => ?_⟩
    rcases List.mem_cons.mp hz with rfl | hz
    · exact k2 (by omega)
    · exact h2 (by omega) z hz
theorem clean_row {g : Int → Option Nat} {f : Int → Nat} : ∀ {r : List Int}, (∀ z ∈ r, g z = some (f z)) → (r.map g).filterMap id = r.map f
  | [], _ => rfl
  | a :: r, h => by
    rw [List.map_cons, h a List.mem_cons_self, List.map_cons]
    show f a :: (r.map g).filterMap id = _
    rw [clean_row fun z hz => h z (List.mem_cons_of_mem _ hz)]
theorem chartOf_is {t : List Int} (ht : ∀ z ∈ t, isByte z) : Rg.chartOf (t.map by8) = if (parts t).2 = [] ∧ okRows (parts t).1 then some (cOf (parts t).1) else none := by
  generalize hg : (fun z => Rg.colourOf (by8 z)) = g
  have gz : ∀ z, isByte z → g z = if isCol z = true then some (num z) else none := fun z h => by
    rw [← hg]
    exact colour_is h
  have hb : ∀ r ∈ (parts t).1, ∀ z ∈ r, isByte z := fun r hr z hz => ht z (parts_mem hr hz)
  have el : (((Rg.cut Rg.LF 0 [] (t.map by8)).map fun (x : Nat × Rg.Bytes) => x.2.map Rg.colourOf).dropLast) = (parts t).1.map (List.map g) := by
    have c := cut_is t [] [] 0 ht
    rw [List.map_nil, List.nil_append, List.map_nil] at c
    have e : ((Rg.cut Rg.LF 0 [] (t.map by8)).map fun (x : Nat × Rg.Bytes) => x.2.map Rg.colourOf) = ((Rg.cut Rg.LF 0 [] (t.map by8)).map (·.2)).map (List.map Rg.colourOf) := by
      rw [List.map_map]
      rfl
    rw [e, c, ← List.map_dropLast, ← List.map_dropLast, List.dropLast_concat, List.map_map]
    refine List.map_congr_left fun r _ => ?_
    show List.map Rg.colourOf (List.map by8 r) = List.map g r
    rw [List.map_map, ← hg]
    rfl
  have unf : Rg.chartOf (t.map by8) = (let c : Rg.Chart := ⟨(((parts t).1.map (List.map g)).headD []).length, ((parts t).1.map (List.map g)).length, ((parts t).1.map (List.map g)).map fun (r : List (Option Nat)) => r.filterMap id⟩
      if c.right = true ∧ c.text = t.map by8 then some c else none) := by
    unfold Rg.chartOf
    rw [el]
  rw [unf]
  have ew : (((parts t).1.map (List.map g)).headD []).length = wideOf (parts t).1 := by
    unfold wideOf
    cases (parts t).1 with
    | nil => rfl
    | cons a l => exact List.length_map ..
  rw [ew, List.length_map, List.map_map]
  have tj : t.map by8 = (((parts t).1.flatMap fun r => r ++ [10]) ++ (parts t).2).map by8 := by rw [parts_join]
  by_cases c : (parts t).2 = [] ∧ okRows (parts t).1
  · rw [if_pos c]
    obtain ⟨c0, c1, c2, c3, c4, c5⟩ := c
    have er : (parts t).1.map ((fun (r : List (Option Nat)) => r.filterMap id) ∘ List.map g) = (parts t).1.map (List.map num) := by
      refine List.map_congr_left fun r hr => ?_
      refine clean_row fun z hz => ?_
      rw [gz z (hb r hr z hz), if_pos ((c5 r hr).2 z hz)]
    rw [er]
    show (if (cOf (parts t).1).right = true ∧ (cOf (parts t).1).text = t.map by8 then some (cOf (parts t).1) else none) = some (cOf (parts t).1)
    rw [if_pos]
    constructor
    · have h1 : 1 ≤ (parts t).1.length := by
        cases e : (parts t).1 with
        | nil =>
          rw [e] at c1
          exact absurd c1 (by decide)
        | cons a l =>
          rw [List.length_cons]
          omega
      unfold Rg.Chart.right Rg.sizeOk cOf
      simp only [Bool.and_eq_true, decide_eq_true_eq, List.all_eq_true]
      refine ⟨⟨c1, c2, h1, c3⟩, c4, List.length_map .., ?_⟩
      intro r hr
      obtain ⟨r', hr', rfl⟩ := List.mem_map.mp hr
      refine ⟨(List.length_map ..).trans (c5 r' hr').1, ?_⟩
      intro k hk
      obtain ⟨z, hz, rfl⟩ := List.mem_map.mp hk
      exact (byteOf_is (hb r' hr' z hz) ((c5 r' hr').2 z hz)).1
    · rw [tj, c0, List.append_nil, List.map_flatMap]
      show ((parts t).1.map (List.map num)).flatMap (fun (r : List Nat) => r.map Rg.byteOf ++ [Rg.LF]) = _
      rw [List.flatMap_map, List.flatMap_def, List.flatMap_def]
      refine congrArg List.flatten (List.map_congr_left fun r hr => ?_)
      show (r.map num).map Rg.byteOf ++ [Rg.LF] = (r ++ [10]).map by8
      rw [List.map_append, List.map_map]
      refine congrArg (· ++ [Rg.LF]) (List.map_congr_left fun z hz => ?_)
      exact (byteOf_is (hb r hr z hz) ((c5 r hr).2 z hz)).2.1
  · rw [if_neg c]
    show (if (Rg.Chart.mk (wideOf (parts t).1) (parts t).1.length ((parts t).1.map ((fun (r : List (Option Nat)) => r.filterMap id) ∘ List.map g))).right = true ∧ (Rg.Chart.mk (wideOf (parts t).1) (parts t).1.length ((parts t).1.map ((fun (r : List (Option Nat)) => r.filterMap id) ∘ List.map g))).text = t.map by8 then _ else none) = none
    rw [if_neg]
    intro ⟨r1, r2⟩
    refine c ?_
    have e := congrArg List.length r2
    rw [tj, List.length_map, List.length_append] at e
    have e' : (Rg.Chart.mk (wideOf (parts t).1) (parts t).1.length ((parts t).1.map ((fun (r : List (Option Nat)) => r.filterMap id) ∘ List.map g))).text = (parts t).1.flatMap fun r => ((r.map g).filterMap id).map Rg.byteOf ++ [Rg.LF] := by
      show ((parts t).1.map ((fun (r : List (Option Nat)) => r.filterMap id) ∘ List.map g)).flatMap (fun (r : List Nat) => r.map Rg.byteOf ++ [Rg.LF]) = _
      rw [List.flatMap_map]
      rfl
    rw [e'] at e
    obtain ⟨l1, l2⟩ := text_len g (parts t).1
    have z0 : (parts t).2.length = 0 := by omega
    have all := l2 (by omega)
    unfold Rg.Chart.right Rg.sizeOk at r1
    simp only [Bool.and_eq_true, decide_eq_true_eq, List.all_eq_true] at r1
    obtain ⟨⟨s1, s2, s3, s4⟩, s5, s6, s7⟩ := r1
    refine ⟨List.length_eq_zero_iff.mp z0, s1, s2, s4, s5, fun r hr => ?_⟩
    have cz : ∀ z ∈ r, isCol z = true := fun z hz => by
      have a := all r hr z hz
      rw [gz z (hb r hr z hz)] at a
      by_cases k : isCol z = true
      · exact k
      · rw [if_neg k] at a
        cases a
    refine ⟨?_, cz⟩
    have := (s7 _ (List.mem_map.mpr ⟨r, hr, rfl⟩)).1
    rw [← this]
    show r.length = ((r.map g).filterMap id).length
    rw [clean_row (f := num) fun z hz => by rw [gz z (hb r hr z hz), if_pos (cz z hz)], List.length_map]
/-! ### what read_chart gives -/
def readC (t : List Int) : Int ⊕ List (List Int) := if t.length > 66048 then .inl (-2) else if (parts t).2 = [] ∧ okRows (parts t).1 then .inr (parts t).1 else .inl (-6)
theorem text_is (t : List Int) : RugBNeutral.text t = t.map by8 := by
  unfold RugBNeutral.text RugBNeutral.nats
  rw [List.map_map]
  rfl
theorem of_read {t : List Int} (ht : ∀ z ∈ t, isByte z) (f : Rg.Chart → Rg.Ans) : RugBNeutral.shown (RugB.ofChart (RugBNeutral.text t) f) = match readC t with
    | .inl n => [n]
    | .inr rows => RugBNeutral.shown (f (cOf rows)) := by
  unfold RugB.ofChart readC
  rw [text_is, List.length_map, chartOf_is ht]
  show RugBNeutral.shown (if 66048 < t.length then _ else _) = _
  by_cases h : 66048 < t.length
  · rw [if_pos h, if_pos (show t.length > 66048 from h)]
    rfl
  · rw [if_neg h, if_neg (show ¬ t.length > 66048 from h)]
    by_cases k : (parts t).2 = [] ∧ okRows (parts t).1
    · rw [if_pos k, if_pos k]
    · rw [if_neg k, if_neg k]
      rfl
theorem read_ok {t : List Int} (ht : ∀ z ∈ t, isByte z) {rows : List (List Int)} (h : readC t = .inr rows) : okRows rows ∧ ∀ r ∈ rows, ∀ z ∈ r, isByte z := by
  unfold readC at h
  split at h
  · cases h
  · split at h
    · rename_i k
      cases h
      exact ⟨k.2, fun r hr z hz => ht z (parts_mem hr hz)⟩
    · cases h
/-! ### the field by bytes and by colours' numbers -/
def fldI (rows : List (List Int)) : Int → Int → Int := fun x y => (rows.getD (y % (rows.length : Int)).toNat []).getD (x % (wideOf rows : Int)).toNat 0
def Alike {A B : Type} (F : Int → Int → A) (G : Int → Int → B) : Prop := ∀ x y x' y', F x y = F x' y' ↔ G x y = G x' y'
theorem Alike.step {A B : Type} {F : Int → Int → A} {G : Int → Int → B} (h : Alike F G) {a b : Int} : Step F a b ↔ Step G a b :=
  ⟨fun k x y => (h _ _ _ _).mp (k x y), fun k x y => (h _ _ _ _).mpr (k x y)⟩
theorem Alike.sy {A B : Type} {F : Int → Int → A} {G : Int → Int → B} (h : Alike F G) {m : Nat} {a b : Int} : Sy F m a b ↔ Sy G m a b :=
  ⟨fun k x y => (h _ _ _ _).mp (k x y), fun k x y => (h _ _ _ _).mpr (k x y)⟩
theorem Alike.rep {A B : Type} {F : Int → Int → A} {G : Int → Int → B} (h : Alike F G) {p q r : Nat} (R : IsRep F p q r) : IsRep G p q r :=
  ⟨R.p0, h.step.mp R.sp, fun k k0 kp s => R.lp k k0 kp (h.step.mpr s), R.r0, R.qp, h.step.mp R.sr, fun k k0 kr a s => R.lr k k0 kr a (h.step.mpr s)⟩
theorem okRows.h0 {rows : List (List Int)} (h : okRows rows) : 0 < rows.length := by
  cases rows with
  | nil => exact absurd h.1 (by decide)
  | cons a l =>
    rw [List.length_cons]
    omega
theorem fldI_w (rows : List (List Int)) : Step (fldI rows) (wideOf rows) 0 := fun x y => by
  unfold fldI
  rw [Int.add_emod_right, Int.add_zero]
theorem fldI_h (rows : List (List Int)) : Step (fldI rows) 0 rows.length := fun x y => by
  unfold fldI
  rw [Int.add_emod_right, Int.add_zero]
/-- where a place lies -/
theorem okRows.at {rows : List (List Int)} (h : okRows rows) (x y : Int) : ∃ (i j : Nat) (r : List Int), y % (rows.length : Int) = (i : Int) ∧ x % (wideOf rows : Int) = (j : Int) ∧ rows[i]? = some r ∧ r ∈ rows ∧ r[j]? = some (fldI rows x y) ∧ fldI rows x y ∈ r := by
  have h0 := h.h0
  have w0 := h.1
  have y1 := Int.emod_nonneg y (show (rows.length : Int) ≠ 0 by omega)
  have y2 := Int.emod_lt_of_pos y (show (0 : Int) < rows.length by omega)
  have x1 := Int.emod_nonneg x (show (wideOf rows : Int) ≠ 0 by omega)
  have x2 := Int.emod_lt_of_pos x (show (0 : Int) < wideOf rows by omega)
  have hi : (y % (rows.length : Int)).toNat < rows.length := by omega
  have hm : rows[(y % (rows.length : Int)).toNat] ∈ rows := List.getElem_mem hi
  have hj : (x % (wideOf rows : Int)).toNat < rows[(y % (rows.length : Int)).toNat].length := by
    rw [(h.2.2.2.2 _ hm).1]
    omega
  have e : fldI rows x y = rows[(y % (rows.length : Int)).toNat][(x % (wideOf rows : Int)).toNat] := by
    unfold fldI
    rw [List.getD_eq_getElem?_getD, List.getD_eq_getElem?_getD, List.getElem?_eq_getElem hi]
    show (rows[(y % (rows.length : Int)).toNat][(x % (wideOf rows : Int)).toNat]?).getD 0 = _
    rw [List.getElem?_eq_getElem hj]
    rfl
  refine ⟨_, _, rows[(y % (rows.length : Int)).toNat], (Int.toNat_of_nonneg y1).symm, (Int.toNat_of_nonneg x1).symm, List.getElem?_eq_getElem hi, hm, ?_, ?_⟩
  · rw [e]
    exact List.getElem?_eq_getElem hj
  · rw [e]
    exact List.getElem_mem hj
theorem fld_num {rows : List (List Int)} (h : okRows rows) (x y : Int) : fld (cOf rows) x y = num (fldI rows x y) := by
  obtain ⟨i, j, r, ey, ex, hi, _, hj, _⟩ := h.at x y
  show ((rows.map (List.map num)).getD (y % (rows.length : Int)).toNat []).getD (x % (wideOf rows : Int)).toNat 0 = _
  rw [ey, ex, Int.toNat_natCast, Int.toNat_natCast, List.getD_eq_getElem?_getD, List.getD_eq_getElem?_getD, List.getElem?_map, hi]
  show ((r.map num)[j]?).getD 0 = _
  rw [List.getElem?_map, hj]
  rfl
theorem fld_col {rows : List (List Int)} (h : okRows rows) (x y : Int) : isCol (fldI rows x y) = true := by
  obtain ⟨i, j, r, ey, ex, hi, hr, hj, hm⟩ := h.at x y
  exact (h.2.2.2.2 r hr).2 _ hm
theorem alike {rows : List (List Int)} (h : okRows rows) : Alike (fldI rows) (fld (cOf rows)) := fun x y x' y' => by
  rw [fld_num h, fld_num h]
  exact ⟨fun e => by rw [e], fun e => num_inj (fld_col h _ _) (fld_col h _ _) e⟩
end Kn
set_option autoImplicit false
/-! What is due, by the program's own searches: has, count, nth, least, cell. Plain Lean. -/
namespace Kn
section
variable {rows : List (List Int)}
theorem sym_is (ok : okRows rows) {m : Nat} {a b : Int} : Rg.isSym (cOf rows) ⟨m, a, b⟩ = true ↔ m < 8 ∧ Sy (fldI rows) m a b := by
  rw [isSym_iff (c := cOf rows) ok.1 ok.h0, (alike ok).sy]
theorem rep_is (ok : okRows rows) : IsRep (fldI rows) (pRep (fldI rows) (wideOf rows) rows.length).1 (pRep (fldI rows) (wideOf rows) rows.length).2.1 (pRep (fldI rows) (wideOf rows) rows.length).2.2 ∧
    (pRep (fldI rows) (wideOf rows) rows.length).1 ≤ wideOf rows ∧ (pRep (fldI rows) (wideOf rows) rows.length).2.2 ≤ rows.length := pRep_is ok.1 ok.h0 (fldI_w rows) (fldI_h rows)
theorem least_rep (ok : okRows rows) : Rg.leastOf (cOf rows) = ⟨(pRep (fldI rows) (wideOf rows) rows.length).1, (pRep (fldI rows) (wideOf rows) rows.length).2.1, (pRep (fldI rows) (wideOf rows) rows.length).2.2⟩ :=
  leastOf_is (c := cOf rows) ok.1 ok.h0 ((alike ok).rep (rep_is ok).1)
theorem syms_is (ok : okRows rows) {p q r : Nat} (R : IsRep (fldI rows) p q r) : Rg.syms (cOf rows) = (pFirsts (fldI rows) (wideOf rows) rows.length p r).flatMap fun f => (List.range (pMany (wideOf rows) rows.length p r)).map (pTold (wideOf rows) p q r f) :=
  syms_by ok.1 ok.h0 (fldI_w rows) (fldI_h rows) R (fun m a b => Rg.isSym (cOf rows) ⟨m, a, b⟩) fun m a b hm => by
    rw [sym_is ok]
    exact ⟨fun h => h.2, fun h => ⟨hm, h⟩⟩
theorem many_pos (ok : okRows rows) {p q r : Nat} (R : IsRep (fldI rows) p q r) : 0 < pMany (wideOf rows) rows.length p r := by
  have h1 := R.wide (fldI_w rows)
  have h2 := R.high (fldI_h rows)
  exact Nat.mul_pos (Nat.div_pos (Nat.le_of_dvd ok.1 h1) R.p0) (Nat.div_pos (Nat.le_of_dvd ok.h0 h2) R.r0)
end
/-! ### the answers -/
def hasM (m a b : Int) (t : List Int) : List Int := match readC t with
  | .inl n => [n]
  | .inr rows => if 8 ≤ m then [-1] else [if pSym (fldI rows) (wideOf rows) rows.length m.toNat a b = true then 1 else 0]
def leastM (t : List Int) : List Int := match readC t with
  | .inl n => [n]
  | .inr rows => [0, ((pRep (fldI rows) (wideOf rows) rows.length).1 : Int), ((pRep (fldI rows) (wideOf rows) rows.length).2.1 : Int), ((pRep (fldI rows) (wideOf rows) rows.length).2.2 : Int)]
def firstsM (rows : List (List Int)) : List (Nat × Nat × Nat) := pFirsts (fldI rows) (wideOf rows) rows.length (pRep (fldI rows) (wideOf rows) rows.length).1 (pRep (fldI rows) (wideOf rows) rows.length).2.2
def manyM (rows : List (List Int)) : Nat := pMany (wideOf rows) rows.length (pRep (fldI rows) (wideOf rows) rows.length).1 (pRep (fldI rows) (wideOf rows) rows.length).2.2
def countM (t : List Int) : List Int := match readC t with
  | .inl n => [n]
  | .inr rows => [(((firstsM rows).length * manyM rows : Nat) : Int)]
def toldM (rows : List (List Int)) (f : Nat × Nat × Nat) (k : Nat) : List Int :=
  let p := (pRep (fldI rows) (wideOf rows) rows.length).1
  let q := (pRep (fldI rows) (wideOf rows) rows.length).2.1
  let r := (pRep (fldI rows) (wideOf rows) rows.length).2.2
  [(f.1 : Int), (((f.2.1 + k / (wideOf rows / p) * q) % p + k % (wideOf rows / p) * p : Nat) : Int), ((f.2.2 + k / (wideOf rows / p) * r : Nat) : Int)]
def nthM (k : Int) (t : List Int) : List Int := match readC t with
  | .inl n => [n]
  | .inr rows => match (firstsM rows)[k.toNat / manyM rows]? with
    | none => [-4]
    | some f => 0 :: toldM rows f (k.toNat % manyM rows)
def cellT (rows : List (List Int)) (p r : Nat) : List Int := (List.range r).flatMap fun (y : Nat) => ((List.range p).map fun (x : Nat) => fldI rows x y) ++ [10]
def cellM (t : List Int) : List Int := match readC t with
  | .inl n => [n]
  | .inr rows => ((cellT rows (pRep (fldI rows) (wideOf rows) rows.length).1 (pRep (fldI rows) (wideOf rows) rows.length).2.2).length : Int) :: cellT rows (pRep (fldI rows) (wideOf rows) rows.length).1 (pRep (fldI rows) (wideOf rows) rows.length).2.2
theorem has_is {m a b : Int} {t : List Int} (ht : ∀ z ∈ t, isByte z) (m0 : 0 ≤ m) : PyWqbbcf.has m a b t = hasM m a b t := by
  show RugBNeutral.shown (RugB.ofChart (RugBNeutral.text t) fun c => if Rg.MOTIONS ≤ m.toNat then Rg.BAD else Rg.says (if Rg.isSym c ⟨m.toNat, a, b⟩ = true then 1 else 0)) = hasM m a b t
  rw [of_read ht]
  unfold hasM
  cases e : readC t with
  | inl n => rfl
  | inr rows =>
    obtain ⟨ok, _⟩ := read_ok ht e
    show RugBNeutral.shown (if 8 ≤ m.toNat then Rg.BAD else _) = _
    by_cases h : 8 ≤ m
    · rw [if_pos (show 8 ≤ m.toNat by omega)]
      show _ = if 8 ≤ m then [-1] else _
      rw [if_pos h]
      rfl
    · rw [if_neg (show ¬ 8 ≤ m.toNat by omega)]
      show _ = if 8 ≤ m then [-1] else _
      rw [if_neg h]
      have hm : m.toNat < 8 := by omega
      have key : (Rg.isSym (cOf rows) ⟨m.toNat, a, b⟩ = true) ↔ (pSym (fldI rows) (wideOf rows) rows.length m.toNat a b = true) := by
        rw [sym_is ok, pSym_iff ok.1 ok.h0 (fldI_w rows) (fldI_h rows) hm]
        exact ⟨fun h => h.2, fun h => ⟨hm, h⟩⟩
      by_cases s : pSym (fldI rows) (wideOf rows) rows.length m.toNat a b = true
      · rw [if_pos s, if_pos (key.mpr s)]
        rfl
      · rw [if_neg s, if_neg (fun z => s (key.mp z))]
        rfl
theorem least_is {t : List Int} (ht : ∀ z ∈ t, isByte z) : PyWqbbcf.least t = leastM t := by
  show RugBNeutral.shown (RugB.ofChart (RugBNeutral.text t) fun c => Rg.tells 0 [(Rg.leastOf c).p, (Rg.leastOf c).q, (Rg.leastOf c).r]) = leastM t
  rw [of_read ht]
  unfold leastM
  cases e : readC t with
  | inl n => rfl
  | inr rows =>
    obtain ⟨ok, _⟩ := read_ok ht e
    show RugBNeutral.shown (Rg.tells 0 [((Rg.leastOf (cOf rows)).p : Int), ((Rg.leastOf (cOf rows)).q : Int), ((Rg.leastOf (cOf rows)).r : Int)]) = _
    rw [least_rep ok]
    rfl
theorem count_is {t : List Int} (ht : ∀ z ∈ t, isByte z) : PyWqbbcf.count t = countM t := by
  show RugBNeutral.shown (RugB.ofChart (RugBNeutral.text t) fun c => Rg.says ((Rg.syms c).length : Int)) = countM t
  rw [of_read ht]
  unfold countM
  cases e : readC t with
  | inl n => rfl
  | inr rows =>
    obtain ⟨ok, _⟩ := read_ok ht e
    show RugBNeutral.shown (Rg.says ((Rg.syms (cOf rows)).length : Int)) = _
    rw [syms_is ok (rep_is ok).1, blocks_len]
    rfl
theorem nth_is {k : Int} {t : List Int} (ht : ∀ z ∈ t, isByte z) : PyWqbbcf.nth k t = nthM k t := by
  show RugBNeutral.shown (RugB.ofChart (RugBNeutral.text t) fun c => match (Rg.syms c)[k.toNat]? with
    | none => Rg.NO
    | some s => Rg.tells 0 [s.m, s.a, s.b]) = nthM k t
  rw [of_read ht]
  unfold nthM
  cases e : readC t with
  | inl n => rfl
  | inr rows =>
    obtain ⟨ok, _⟩ := read_ok ht e
    show RugBNeutral.shown (match (Rg.syms (cOf rows))[k.toNat]? with
      | none => Rg.NO
      | some s => Rg.tells 0 [s.m, s.a, s.b]) = _
    rw [syms_is ok (rep_is ok).1, blocks_get _ (many_pos ok (rep_is ok).1)]
    show RugBNeutral.shown (match ((firstsM rows)[k.toNat / manyM rows]?).map (fun f => pTold (wideOf rows) (pRep (fldI rows) (wideOf rows) rows.length).1 (pRep (fldI rows) (wideOf rows) rows.length).2.1 (pRep (fldI rows) (wideOf rows) rows.length).2.2 f (k.toNat % manyM rows)) with
      | none => Rg.NO
      | some s => Rg.tells 0 [s.m, s.a, s.b]) = _
    dsimp only
    cases z : (firstsM rows)[k.toNat / manyM rows]? with
    | none => rfl
    | some f => rfl
theorem cell_text {rows : List (List Int)} (ok : okRows rows) (hb : ∀ r ∈ rows, ∀ z ∈ r, isByte z) {p r : Nat} (hp : p ≤ wideOf rows) (hr : r ≤ rows.length) :
    ((Rg.Chart.cutOut (cOf rows) 0 0 p r).text.map fun (c : UInt8) => (c.toNat : Int)) = cellT rows p r := by
  unfold Rg.Chart.text Rg.Chart.cutOut Rg.Chart.by_ cellT
  rw [List.flatMap_map, List.map_flatMap, List.flatMap_def, List.flatMap_def]
  refine congrArg List.flatten (List.map_congr_left fun y hy => ?_)
  have hy' := List.mem_range.mp hy
  rw [List.map_append, List.map_map, List.map_map]
  refine congrArg (· ++ [10]) (List.map_congr_left fun x hx => ?_)
  have hx' := List.mem_range.mp hx
  show ((Rg.byteOf ((cOf rows).at_ (0 + x) (0 + y))).toNat : Int) = fldI rows x y
  have e : (cOf rows).at_ (0 + x) (0 + y) = fld (cOf rows) x y := by
    rw [Nat.zero_add, Nat.zero_add]
    show _ = (cOf rows).at_ (Rg.wrap (x : Int) (wideOf rows)) (Rg.wrap (y : Int) rows.length)
    unfold Rg.wrap
    rw [← Int.natCast_emod, ← Int.natCast_emod, Int.toNat_natCast, Int.toNat_natCast, Nat.mod_eq_of_lt (by omega), Nat.mod_eq_of_lt (by omega)]
  rw [e, fld_num ok]
  obtain ⟨i, j, rw', _, _, _, hm, _, hmem⟩ := ok.at (x : Int) (y : Int)
  obtain ⟨_, h2, h3⟩ := byteOf_is (hb rw' hm _ hmem) (fld_col ok x y)
  rw [h2]
  exact h3
theorem cell_is {t : List Int} (ht : ∀ z ∈ t, isByte z) : PyWqbbcf.cell t = cellM t := by
  show RugBNeutral.shown (RugB.ofChart (RugBNeutral.text t) fun c => RugB.whole c.cell) = cellM t
  rw [of_read ht]
  unfold cellM
  cases e : readC t with
  | inl n => rfl
  | inr rows =>
    obtain ⟨ok, hb⟩ := read_ok ht e
    have R := rep_is ok
    have c := cell_text ok hb R.2.1 R.2.2
    show RugBNeutral.shown (RugB.whole (Rg.Chart.cutOut (cOf rows) 0 0 (Rg.leastOf (cOf rows)).p (Rg.leastOf (cOf rows)).r)) = _
    rw [least_rep ok]
    show ((Rg.Chart.cutOut (cOf rows) 0 0 (pRep (fldI rows) (wideOf rows) rows.length).1 (pRep (fldI rows) (wideOf rows) rows.length).2.2).text.length : Int) :: ([] ++ (Rg.Chart.cutOut (cOf rows) 0 0 (pRep (fldI rows) (wideOf rows) rows.length).1 (pRep (fldI rows) (wideOf rows) rows.length).2.2).text.map fun (c : UInt8) => (c.toNat : Int)) = _
    rw [List.nil_append, c]
    have l := congrArg List.length c
    rw [List.length_map] at l
    rw [l]
end Kn
set_option autoImplicit false
/-! Mirrors, glides, the kind. Plain Lean. -/
namespace Kn
def twX (m : Nat) (a b : Int) : Int := tX m a b + a
def twY (m : Nat) (a b : Int) : Int := tY m a b + b
section
variable {A : Type} {F : Int → Int → A}
/-- (X, Y) is twice a step -/
def Dbl (F : Int → Int → A) (X Y : Int) : Prop := X % 2 = 0 ∧ Y % 2 = 0 ∧ Step F (X / 2) (Y / 2)
theorem dbl_congr {X Y X' Y' s t : Int} (k : Step F s t) (e1 : X = X' + 2 * s) (e2 : Y = Y' + 2 * t) : Dbl F X Y ↔ Dbl F X' Y' := by
  have x1 : X / 2 = X' / 2 + s := by omega
  have y1 : Y / 2 = Y' / 2 + t := by omega
  unfold Dbl
  rw [x1, y1]
  constructor
  · intro ⟨h1, h2, h3⟩
    exact ⟨by omega, by omega, (h3.sub k).cast (by omega) (by omega)⟩
  · intro ⟨h1, h2, h3⟩
    exact ⟨by omega, by omega, h3.add k⟩
theorem m47 {m : Nat} (h4 : 4 ≤ m) (h8 : m < 8) : m = 4 ∨ m = 5 ∨ m = 6 ∨ m = 7 := by omega
/-- where a symmetry with m 4 to 7, done twice, is twice a step, there is a mirror -/
theorem mirror_of {m : Nat} (h4 : 4 ≤ m) (h8 : m < 8) {a b : Int} (k : Sy F m a b) (d : Dbl F (twX m a b) (twY m a b)) : ∃ a' b', Sy F m a' b' ∧ twX m a' b' = 0 ∧ twY m a' b' = 0 := by
  obtain ⟨d1, d2, d3⟩ := d
  refine ⟨a + -(twX m a b / 2), b + -(twY m a b / 2), k.step d3.neg, ?_, ?_⟩
  · rcases m47 h4 h8 with rfl | rfl | rfl | rfl <;> simp only [twX, twY, tX, tY, tE] at * <;> omega
  · rcases m47 h4 h8 with rfl | rfl | rfl | rfl <;> simp only [twX, twY, tX, tY, tE] at * <;> omega
theorem dbl_zero : Dbl F 0 0 := ⟨rfl, rfl, Step.zero⟩
/-- the four by the first -/
def four (a b p q r : Int) : List (Int × Int) := [(a, b), (a + q, b + r), (a + p, b), (a + p + q, b + r)]
theorem four_sy {p q r : Nat} (R : IsRep F p q r) {m : Nat} {a b : Int} (k : Sy F m a b) : ∀ x ∈ four a b p q r, Sy F m x.1 x.2 := by
  intro x hx
  unfold four at hx
  simp only [List.mem_cons, List.not_mem_nil, or_false] at hx
  rcases hx with rfl | rfl | rfl | rfl
  · exact k
  · exact k.step R.sr
  · exact (k.step R.sp).cast rfl (Int.add_zero b)
  · exact ((k.step R.sp).step R.sr).cast rfl (by show b + 0 + (r : Int) = b + r; omega)
theorem four_all {p q r : Nat} (R : IsRep F p q r) {m : Nat} (hm : m < 8) {a0 b0 : Int} (k0 : Sy F m a0 b0) {a b : Int} (k : Sy F m a b) : ∃ x ∈ four a0 b0 p q r, (Dbl F (twX m a b) (twY m a b) ↔ Dbl F (twX m x.1 x.2) (twY m x.1 x.2)) := by
  have st := k.diff hm k0
  obtain ⟨h1, h2⟩ := R.step.mp st
  -- a - a0 = I p + J q, b - b0 = J r
  obtain ⟨J, hJ⟩ : ∃ J : Int, b - b0 = J * r := ⟨(b - b0) / r, by
    have := Int.emod_add_mul_ediv (b - b0) r
    rw [h1, Int.mul_comm] at this
    omega⟩
  have r0 := R.r0
  have eJ : (b - b0) / (r : Int) = J := by
    rw [hJ]
    exact Int.mul_ediv_cancel _ (by omega)
  rw [eJ] at h2
  obtain ⟨I, hI⟩ : ∃ I : Int, a - a0 - J * q = I * p := ⟨(a - a0 - J * q) / p, by
    have := Int.emod_add_mul_ediv (a - a0 - J * q) p
    rw [h2, Int.mul_comm] at this
    omega⟩
  -- halves of the even parts
  have key : ∀ (i j : Int), I = 2 * (I / 2) + i → J = 2 * (J / 2) + j → (Dbl F (twX m a b) (twY m a b) ↔ Dbl F (twX m (a0 + (i * p + j * q)) (b0 + j * r)) (twY m (a0 + (i * p + j * q)) (b0 + j * r))) := by
    intro i j hi hj
    have uv : Step F ((I / 2) * p + (J / 2) * q) ((J / 2) * r) := ((R.sp.x (I / 2)).add (R.sr.mul (J / 2))).cast rfl (Int.zero_add _)
    have cj := (k0.conj hm uv).add uv
    generalize hu : (I / 2) * (p : Int) + (J / 2) * (q : Int) = u at cj uv
    generalize hv : (J / 2) * (r : Int) = v at cj uv
    have ea : a = a0 + (i * p + j * q) + 2 * u := by
      have e1 : I * (p : Int) = 2 * ((I / 2) * p) + i * p := by
        conv => lhs; rw [hi]
        rw [Int.add_mul, Int.mul_assoc]
      have e2 : J * (q : Int) = 2 * ((J / 2) * q) + j * q := by
        conv => lhs; rw [hj]
        rw [Int.add_mul, Int.mul_assoc]
      omega
    have eb : b = b0 + j * r + 2 * v := by
      have e2 : J * (r : Int) = 2 * ((J / 2) * r) + j * r := by
        conv => lhs; rw [hj]
        rw [Int.add_mul, Int.mul_assoc]
      omega
    generalize a0 + (i * (p : Int) + j * (q : Int)) = a1 at ea
    generalize b0 + j * (r : Int) = b1 at eb
    subst ea eb
    refine dbl_congr cj ?_ ?_
    · unfold twX
      rw [tX_add]
      have : tX m (2 * u) (2 * v) = 2 * tX m u v := by
        unfold tX
        rw [Int.mul_left_comm, Int.mul_left_comm (tE m).2.1]
        omega
      omega
    · unfold twY
      rw [tY_add]
      have : tY m (2 * u) (2 * v) = 2 * tY m u v := by
        unfold tY
        rw [Int.mul_left_comm, Int.mul_left_comm (tE m).2.2.2]
        omega
      omega
  have i01 : I = 2 * (I / 2) + 0 ∨ I = 2 * (I / 2) + 1 := by omega
  have j01 : J = 2 * (J / 2) + 0 ∨ J = 2 * (J / 2) + 1 := by omega
  rcases i01 with hi | hi <;> rcases j01 with hj | hj
  · refine ⟨(a0, b0), by simp [four], ?_⟩
    have := key 0 0 hi hj
    rw [show a0 + (0 * (p : Int) + 0 * q) = a0 by omega, show b0 + 0 * (r : Int) = b0 by omega] at this
    exact this
  · refine ⟨(a0 + q, b0 + r), by simp [four], ?_⟩
    have := key 0 1 hi hj
    rw [show a0 + (0 * (p : Int) + 1 * q) = a0 + q by omega, show b0 + 1 * (r : Int) = b0 + r by omega] at this
    exact this
  · refine ⟨(a0 + p, b0), by simp [four], ?_⟩
    have := key 1 0 hi hj
    rw [show a0 + (1 * (p : Int) + 0 * q) = a0 + p by omega, show b0 + 0 * (r : Int) = b0 by omega] at this
    exact this
  · refine ⟨(a0 + p + q, b0 + r), by simp [four], ?_⟩
    have := key 1 1 hi hj
    rw [show a0 + (1 * (p : Int) + 1 * q) = a0 + p + q by omega, show b0 + 1 * (r : Int) = b0 + r by omega] at this
    exact this
/-- a symmetry with m 4 to 7 is like one near by, as to what it is done twice -/
theorem near {w h : Nat} (w0 : 0 < w) (h0 : 0 < h) (sw : Step F w 0) (sh : Step F 0 h) {m : Nat} (h4 : 4 ≤ m) (h8 : m < 8) {a b : Int} (k : Sy F m a b) :
    ∃ a' b', Sy F m a' b' ∧ -(w : Int) ≤ a' ∧ a' < 2 * w ∧ -(h : Int) ≤ b' ∧ b' < 2 * h ∧ (Dbl F (twX m a b) (twY m a b) ↔ Dbl F (twX m a' b') (twY m a' b')) ∧ (twX m a b = 0 → twY m a b = 0 → twX m a' b' = 0 ∧ twY m a' b' = 0 ∨ ∃ a'' b'', Sy F m a'' b'' ∧ -(w : Int) ≤ a'' ∧ a'' < 2 * w ∧ -(h : Int) ≤ b'' ∧ b'' < 2 * h ∧ twX m a'' b'' = 0 ∧ twY m a'' b'' = 0) := by
  have ew := Int.emod_add_mul_ediv a w
  have eh := Int.emod_add_mul_ediv b h
  have a1 := Int.emod_nonneg a (show (w : Int) ≠ 0 by omega)
  have a2 := Int.emod_lt_of_pos a (show (0 : Int) < w by omega)
  have b1 := Int.emod_nonneg b (show (h : Int) ≠ 0 by omega)
  have b2 := Int.emod_lt_of_pos b (show (0 : Int) < h by omega)
  have even : m % 2 = 0 → ∃ a' b', Sy F m a' b' ∧ -(w : Int) ≤ a' ∧ a' < 2 * w ∧ -(h : Int) ≤ b' ∧ b' < 2 * h ∧ (Dbl F (twX m a b) (twY m a b) ↔ Dbl F (twX m a' b') (twY m a' b')) ∧ (twX m a b = 0 → twY m a b = 0 → twX m a' b' = 0 ∧ twY m a' b' = 0 ∨ ∃ a'' b'', Sy F m a'' b'' ∧ -(w : Int) ≤ a'' ∧ a'' < 2 * w ∧ -(h : Int) ≤ b'' ∧ b'' < 2 * h ∧ twX m a'' b'' = 0 ∧ twY m a'' b'' = 0) := by
    intro ev
    have sa := sw.x (-(a / w))
    have sb := sh.y (-(b / h))
    have sa' := sw.x (a / w)
    have sb' := sh.y (b / h)
    rw [Int.neg_mul, Int.mul_comm] at sa sb
    rw [Int.mul_comm] at sa' sb'
    refine ⟨a % w, b % h, ((k.step sa).step sb).cast (by omega) (by omega), by omega, by omega, by omega, by omega, ?_, ?_⟩
    · generalize hW : (w : Int) * (a / w) = W at *
      generalize hH : (h : Int) * (b / h) = Z at *
      generalize a % (w : Int) = u at *
      generalize b % (h : Int) = v at *
      rcases m47 h4 h8 with rfl | rfl | rfl | rfl
      · exact dbl_congr sb' (by simp only [twX, tX, tE]; omega) (by simp only [twY, tY, tE]; omega)
      · exact absurd ev (by decide)
      · exact dbl_congr sa' (by simp only [twX, tX, tE]; omega) (by simp only [twY, tY, tE]; omega)
      · exact absurd ev (by decide)
    · intro z1 z2
      left
      rcases m47 h4 h8 with rfl | rfl | rfl | rfl
      · have bz : b = 0 := by
          simp only [twY, tY, tE] at z2
          omega
        subst bz
        rw [Int.zero_emod]
        simp only [twX, twY, tX, tY, tE]
        omega
      · exact absurd ev (by decide)
      · have az : a = 0 := by
          simp only [twX, tX, tE] at z1
          omega
        subst az
        rw [Int.zero_emod]
        simp only [twX, twY, tX, tY, tE]
        omega
      · exact absurd ev (by decide)
  by_cases ev : m % 2 = 0
  · exact even ev
  · have o : m % 2 = 1 := by omega
    have s := k.odd h8 o sw sh
    have g0 : 0 < Nat.gcd w h := gcd_pos w0
    have gw : Nat.gcd w h ≤ w := Nat.gcd_le_left _ w0
    have gh : Nat.gcd w h ≤ h := Nat.gcd_le_right _ h0
    have gx := Step.gcdx _ _ sw s.1
    have gy := Step.gcdy _ _ s.2 sh
    generalize Nat.gcd w h = g at *
    have ea := Int.emod_add_mul_ediv a g
    have eb := Int.emod_add_mul_ediv b g
    have c1 := Int.emod_nonneg a (show (g : Int) ≠ 0 by omega)
    have c2 := Int.emod_lt_of_pos a (show (0 : Int) < g by omega)
    have d1 := Int.emod_nonneg b (show (g : Int) ≠ 0 by omega)
    have d2 := Int.emod_lt_of_pos b (show (0 : Int) < g by omega)
    generalize hI : a / (g : Int) = I at *
    generalize hJ : b / (g : Int) = J at *
    generalize hu : a % (g : Int) = u at *
    generalize hv : b % (g : Int) = v at *
    -- every (u + i g, v + j g)
    have syg : ∀ i j : Int, Sy F m (u + i * g) (v + j * g) := fun i j => by
      have s1 := gx.x (i - I)
      have s2 := gy.y (j - J)
      refine ((k.step s1).step s2).cast ?_ ?_
      · rw [Int.sub_mul, Int.mul_comm I]
        omega
      · rw [Int.sub_mul, Int.mul_comm J]
        omega
    have mirr : ∀ (z1 : twX m a b = 0) (z2 : twY m a b = 0), ∃ a'' b'', Sy F m a'' b'' ∧ -(w : Int) ≤ a'' ∧ a'' < 2 * w ∧ -(h : Int) ≤ b'' ∧ b'' < 2 * h ∧ twX m a'' b'' = 0 ∧ twY m a'' b'' = 0 := by
      intro z1 z2
      rcases m47 h4 h8 with rfl | rfl | rfl | rfl
      · exact absurd o (by decide)
      · have ab : a = b := by
          simp only [twX, tX, tE] at z1
          omega
        subst ab
        have uv : u = v := by rw [← hu, ← hv]
        subst uv
        have := syg 0 0
        rw [Int.zero_mul, Int.add_zero] at this
        refine ⟨u, u, this, by omega, by omega, by omega, by omega, ?_, ?_⟩
        · simp only [twX, tX, tE]
          omega
        · simp only [twY, tY, tE]
          omega
      · exact absurd o (by decide)
      · have ab : b = -a := by
          simp only [twX, tX, tE] at z1
          omega
        have := (k.step (gx.x (-I))).step (gy.y I)
        refine ⟨u, -u, this.cast ?_ ?_, by omega, by omega, by omega, by omega, ?_, ?_⟩
        · rw [Int.neg_mul, Int.mul_comm I]
          omega
        · rw [Int.mul_comm I]
          omega
        · simp only [twX, tX, tE]
          omega
        · simp only [twY, tY, tE]
          omega
    have par : ∃ e n : Int, (e = 0 ∨ e = 1) ∧ (if m = 5 then I - J + e else I + J - e) = 2 * n := by
      by_cases c : m = 5
      · by_cases p : (I - J) % 2 = 0
        · exact ⟨0, (I - J) / 2, .inl rfl, by rw [if_pos c]; omega⟩
        · exact ⟨1, (I - J + 1) / 2, .inr rfl, by rw [if_pos c]; omega⟩
      · by_cases p : (I + J) % 2 = 0
        · exact ⟨0, (I + J) / 2, .inl rfl, by rw [if_neg c]; omega⟩
        · exact ⟨1, (I + J - 1) / 2, .inr rfl, by rw [if_neg c]; omega⟩
    obtain ⟨e, n, he, hn⟩ := par
    have se := syg 0 e
    rw [Int.zero_mul, Int.add_zero] at se
    have eg : e * (g : Int) = 0 ∨ e * (g : Int) = g := by
      rcases he with rfl | rfl
      · left
        exact Int.zero_mul _
      · right
        exact Int.one_mul _
    refine ⟨u, v + e * g, se, by omega, by omega, by omega, by omega, ?_, fun z1 z2 => .inr (mirr z1 z2)⟩
    have sn := (gx.x n)
    have tn := (gy.y n)
    rcases m47 h4 h8 with rfl | rfl | rfl | rfl
    · exact absurd o (by decide)
    · rw [if_pos rfl] at hn
      have st : Step F (n * g) (-(n * g)) := ((gx.x n).add (gy.y n).neg).cast (by omega) (by omega)
      have en : (I - J + e) * (g : Int) = 2 * (n * g) := by rw [hn, Int.mul_assoc]
      rw [Int.add_mul, Int.sub_mul, Int.mul_comm I, Int.mul_comm J] at en
      exact dbl_congr st (by simp only [twX, tX, tE]; omega) (by simp only [twY, tY, tE]; omega)
    · exact absurd o (by decide)
    · rw [if_neg (by decide)] at hn
      have st : Step F (n * g) (n * g) := ((gx.x n).add (gy.y n)).cast (by omega) (by omega)
      have en : (I + J - e) * (g : Int) = 2 * (n * g) := by rw [hn, Int.mul_assoc]
      rw [Int.sub_mul, Int.add_mul, Int.mul_comm I, Int.mul_comm J] at en
      exact dbl_congr st (by simp only [twX, tX, tE]; omega) (by simp only [twY, tY, tE]; omega)
end
end Kn
set_option autoImplicit false
/-! The kind. Plain Lean. -/
namespace Kn
/-! ### the program's words -/
def hasStep (p q r : Nat) (a b : Int) : Bool := decide (b % (r : Int) = 0) && decide ((a - b / (r : Int) * q) % (p : Int) = 0)
def halfB (p q r m : Nat) (a b : Int) : Bool := decide (twX m a b % 2 = 0) && (decide (twY m a b % 2 = 0) && hasStep p q r (twX m a b / 2) (twY m a b / 2))
def halvesB (p q r : Nat) (f : Nat × Nat × Nat) : List Bool := (four f.2.1 f.2.2 p q r).map fun x => halfB p q r f.1 x.1 x.2
def kind4 (mirrors : Nat) (glides : Bool) : Nat := if mirrors = 0 then 3 else if glides = true then 4 else 2
def kindH (mirrors : Nat) (glides : Bool) : Nat := if mirrors = 0 then 8 else if mirrors = 1 then 7 else if glides = true then 9 else 6
def rowsB (p q r : Nat) (fs : List (Nat × Nat × Nat)) : List (List Bool) := (fs.filter fun f => decide (3 < f.1)).map (halvesB p q r)
def mirrorsB (p q r : Nat) (fs : List (Nat × Nat × Nat)) : Nat := ((rowsB p q r fs).filter fun l => l.any id).length
def glidesB (p q r : Nat) (fs : List (Nat × Nat × Nat)) : Bool := !((rowsB p q r fs).map fun l => l.all id).all id
def hasB (fs : List (Nat × Nat × Nat)) (m : Nat) : Bool := (fs.map fun f => f.1).contains m
def kindP (p q r : Nat) (fs : List (Nat × Nat × Nat)) : Nat :=
  if (hasB fs 1 || hasB fs 3) = true then (if rowsB p q r fs = [] then 10 else if mirrorsB p q r fs = 4 then 11 else 12)
  else if hasB fs 2 = true then (if rowsB p q r fs = [] then 5 else kindH (mirrorsB p q r fs) (glidesB p q r fs))
  else if rowsB p q r fs = [] then 1 else kind4 (mirrorsB p q r fs) (glidesB p q r fs)
theorem halfB_iff {A : Type} {F : Int → Int → A} {p q r : Nat} (R : IsRep F p q r) {m : Nat} {a b : Int} : halfB p q r m a b = true ↔ Dbl F (twX m a b) (twY m a b) := by
  unfold halfB hasStep Dbl
  rw [R.step]
  simp only [Bool.and_eq_true, decide_eq_true_eq]
/-! ### the same m by m -/
section
variable (g : Nat → Option (Nat × Nat))
def fsOf (l : List Nat) : List (Nat × Nat × Nat) := l.filterMap fun m => (g m).map fun x => (m, x.1, x.2)
def hi4 (l : List Nat) : List Nat := l.filter fun m => decide (3 < m)
theorem rows_hi {B : Type} (h : Nat × Nat × Nat → B) : ∀ l : List Nat, ((fsOf g l).filter fun f => decide (3 < f.1)).map h = (hi4 l).filterMap fun m => (g m).map fun x => h (m, x.1, x.2)
  | [] => rfl
  | m :: l => by
    have ih := rows_hi h l
    unfold fsOf hi4 at *
    rw [List.filterMap_cons, List.filter_cons]
    cases e : g m with
    | none =>
      by_cases c : 3 < m
      · rw [decide_eq_true c, if_pos rfl, List.filterMap_cons, e]
        exact ih
      · rw [decide_eq_false c, if_neg Bool.false_ne_true]
        exact ih
    | some x =>
      show (List.filter _ ((m, x.1, x.2) :: _)).map h = _
      rw [List.filter_cons]
      by_cases c : 3 < m
      · rw [show decide (3 < ((m, x.1, x.2) : Nat × Nat × Nat).1) = true from decide_eq_true c, if_pos rfl, if_pos rfl, List.filterMap_cons, e, List.map_cons, ih]
        rfl
      · rw [show decide (3 < ((m, x.1, x.2) : Nat × Nat × Nat).1) = false from decide_eq_false c, if_neg Bool.false_ne_true, if_neg Bool.false_ne_true]
        exact ih
theorem fs_has (l : List Nat) (m : Nat) : hasB (fsOf g l) m = true ↔ m ∈ l ∧ (g m).isSome = true := by
  unfold hasB fsOf
  rw [List.contains_iff_mem, List.mem_map]
  constructor
  · rintro ⟨f, hf, rfl⟩
    obtain ⟨n, hn, e⟩ := List.mem_filterMap.mp hf
    cases h : g n with
    | none =>
      rw [h] at e
      cases e
    | some x =>
      rw [h] at e
      have e' : (n, x.1, x.2) = f := Option.some.inj e
      subst e'
      exact ⟨hn, by rw [h]; rfl⟩
  · intro ⟨hm, hs⟩
    cases h : g m with
    | none =>
      rw [h] at hs
      cases hs
    | some x => exact ⟨(m, x.1, x.2), List.mem_filterMap.mpr ⟨m, hm, by rw [h]; rfl⟩, rfl⟩
theorem count_by {B : Type} (h : Nat → Nat × Nat → B) (t : B → Bool) (u : Nat → Bool) : ∀ l : List Nat, (∀ m ∈ l, u m = match g m with
    | none => false
    | some x => t (h m x)) → ((l.filterMap fun m => (g m).map (h m)).filter t).length = (l.filter u).length
  | [], _ => rfl
  | m :: l, hu => by
    have ih := count_by h t u l fun n hn => hu n (List.mem_cons_of_mem _ hn)
    have hm := hu m List.mem_cons_self
    rw [List.filterMap_cons, List.filter_cons, hm]
    cases e : g m with
    | none =>
      dsimp only
      rw [if_neg Bool.false_ne_true]
      exact ih
    | some x =>
      show (List.filter t (h m x :: _)).length = (if t (h m x) = true then _ else _ : List Nat).length
      rw [List.filter_cons]
      by_cases c : t (h m x) = true
      · rw [if_pos c, if_pos c, List.length_cons, List.length_cons, ih]
      · rw [if_neg c, if_neg c, ih]
theorem all_by {B : Type} (h : Nat → Nat × Nat → B) (t : B → Bool) (u : Nat → Bool) : ∀ l : List Nat, (∀ m ∈ l, u m = match g m with
    | none => false
    | some x => !t (h m x)) → (!((l.filterMap fun m => (g m).map (h m)).map t).all id) = l.any u
  | [], _ => rfl
  | m :: l, hu => by
    have ih := all_by h t u l fun n hn => hu n (List.mem_cons_of_mem _ hn)
    have hm := hu m List.mem_cons_self
    rw [List.filterMap_cons, List.any_cons, hm, ← ih]
    cases e : g m with
    | none =>
      dsimp only
      rw [Bool.false_or]
      rfl
    | some x =>
      show (!(List.map t (h m x :: _)).all id) = (!t (h m x) || _)
      rw [List.map_cons, List.all_cons, Bool.not_and]
      rfl
theorem len_by {B : Type} (h : Nat → Nat × Nat → B) (u : Nat → Bool) : ∀ l : List Nat, (∀ m ∈ l, u m = (g m).isSome) → (l.filterMap fun m => (g m).map (h m)).length = (l.filter u).length
  | [], _ => rfl
  | m :: l, hu => by
    have ih := len_by h u l fun n hn => hu n (List.mem_cons_of_mem _ hn)
    have hm := hu m List.mem_cons_self
    rw [List.filterMap_cons, List.filter_cons, hm]
    cases e : g m with
    | none =>
      show _ = (if false = true then _ else _ : List Nat).length
      rw [if_neg Bool.false_ne_true]
      exact ih
    | some x =>
      show (h m x :: _).length = (if true = true then _ else _ : List Nat).length
      rw [if_pos rfl, List.length_cons, List.length_cons, ih]
end
/-! ### the specification's words -/
section
variable {rows : List (List Int)}
theorem mem_syms (ok : okRows rows) {s : Rg.Sym} : s ∈ Rg.syms (cOf rows) ↔ ∃ m a b : Nat, m < 8 ∧ a < wideOf rows ∧ b < rows.length ∧ Sy (fldI rows) m a b ∧ s = ⟨m, a, b⟩ := by
  unfold Rg.syms
  simp only [List.mem_flatMap, List.mem_range, List.mem_filterMap]
  constructor
  · rintro ⟨m, hm, b, hb, a, ha, e⟩
    by_cases c : Rg.isSym (cOf rows) ⟨m, a, b⟩ = true
    · rw [if_pos c] at e
      exact ⟨m, a, b, hm, ha, hb, ((sym_is ok).mp c).2, (Option.some.inj e).symm⟩
    · rw [if_neg c] at e
      cases e
  · rintro ⟨m, a, b, hm, ha, hb, k, rfl⟩
    refine ⟨m, hm, b, hb, a, ha, ?_⟩
    rw [if_pos ((sym_is ok).mpr ⟨hm, k⟩)]
theorem any_around (ok : okRows rows) {m : Nat} {P : Rg.Sym → Bool} (h : (Rg.around (cOf rows) ((Rg.syms (cOf rows)).filter fun (s : Rg.Sym) => s.m == m)).any P = true) : ∃ a b : Int, Sy (fldI rows) m a b ∧ P ⟨m, a, b⟩ = true := by
  rw [List.any_eq_true] at h
  obtain ⟨s, hs, hP⟩ := h
  unfold Rg.around at hs
  simp only [List.mem_flatMap, List.mem_map, List.mem_filter] at hs
  obtain ⟨s0, ⟨h0, hm⟩, i, _, j, _, e⟩ := hs
  obtain ⟨m', a, b, hm', _, _, k, rfl⟩ := (mem_syms ok).mp h0
  have em : m' = m := by simpa using hm
  subst em
  subst e
  have s1 := (fldI_w rows).x i
  have s2 := (fldI_h rows).y j
  exact ⟨_, _, ((k.step s1).step s2).cast (Int.add_zero _) (by show (b : Int) + 0 + j * (rows.length : Int) = _; rw [Int.add_zero]; rfl), hP⟩
theorem around_any (ok : okRows rows) {m : Nat} (hm : m < 8) {P : Rg.Sym → Bool} {a b : Int} (k : Sy (fldI rows) m a b) (a1 : -(wideOf rows : Int) ≤ a) (a2 : a < 2 * (wideOf rows : Int)) (b1 : -(rows.length : Int) ≤ b) (b2 : b < 2 * (rows.length : Int)) (hP : P ⟨m, a, b⟩ = true) :
    (Rg.around (cOf rows) ((Rg.syms (cOf rows)).filter fun (s : Rg.Sym) => s.m == m)).any P = true := by
  have w0 : 0 < wideOf rows := ok.1
  have h0 := ok.h0
  have x1 := Int.emod_nonneg a (show (wideOf rows : Int) ≠ 0 by omega)
  have x2 := Int.emod_lt_of_pos a (show (0 : Int) < wideOf rows by omega)
  have y1 := Int.emod_nonneg b (show (rows.length : Int) ≠ 0 by omega)
  have y2 := Int.emod_lt_of_pos b (show (0 : Int) < rows.length by omega)
  have ex := Int.emod_add_mul_ediv a (wideOf rows)
  have ey := Int.emod_add_mul_ediv b rows.length
  have three : ∀ (z n : Int), 0 < n → -n ≤ z → z < 2 * n → z / n = -1 ∨ z / n = 0 ∨ z / n = 1 := by
    intro z n n0 z1 z2
    have l1 : -1 ≤ z / n := by
      rw [Int.le_ediv_iff_mul_le n0]
      omega
    have l2 : z / n < 2 := by
      rw [Int.ediv_lt_iff_lt_mul n0]
      omega
    omega
  have i3 := three a _ (by omega) a1 a2
  have j3 := three b _ (by omega) b1 b2
  have s1 := (fldI_w rows).x (-(a / wideOf rows))
  have s2 := (fldI_h rows).y (-(b / rows.length))
  rw [Int.neg_mul, Int.mul_comm] at s1 s2
  have k0 := (k.step s1).step s2
  rw [List.any_eq_true]
  refine ⟨⟨m, a, b⟩, ?_, hP⟩
  unfold Rg.around
  simp only [List.mem_flatMap, List.mem_map, List.mem_filter]
  refine ⟨⟨m, ((a % wideOf rows).toNat : Int), ((b % rows.length).toNat : Int)⟩, ⟨(mem_syms ok).mpr ⟨m, (a % wideOf rows).toNat, (b % rows.length).toNat, hm, by omega, by omega, k0.cast ?_ ?_, rfl⟩, by simp⟩, a / wideOf rows, ?_, b / rows.length, ?_, ?_⟩
  · rw [Int.toNat_of_nonneg x1]
    omega
  · rw [Int.toNat_of_nonneg y1]
    omega
  · rcases i3 with e | e | e <;> rw [e] <;> decide
  · rcases j3 with e | e | e <;> rw [e] <;> decide
  · show Rg.Sym.mk m (((a % wideOf rows).toNat : Int) + a / wideOf rows * (wideOf rows : Int)) (((b % rows.length).toNat : Int) + b / rows.length * (rows.length : Int)) = ⟨m, a, b⟩
    rw [Int.toNat_of_nonneg x1, Int.toNat_of_nonneg y1, Int.mul_comm (a / _), Int.mul_comm (b / _), ex, ey]
theorem twice_is {m : Nat} (hm : m < 8) (a b : Int) : (Rg.Sym.mk m a b).twice = (twX m a b, twY m a b) := by
  unfold Rg.Sym.twice
  rw [turn_is hm]
  rfl
theorem isMirror_iff {m : Nat} (h4 : 4 ≤ m) (h8 : m < 8) {a b : Int} : (Rg.Sym.mk m a b).isMirror = true ↔ twX m a b = 0 ∧ twY m a b = 0 := by
  unfold Rg.Sym.isMirror
  rw [twice_is h8, Bool.and_eq_true, decide_eq_true_eq, beq_iff_eq, Prod.mk.injEq]
  exact ⟨fun h => h.2, fun h => ⟨h4, h⟩⟩
theorem isGlide_iff (ok : okRows rows) {m : Nat} (h4 : 4 ≤ m) (h8 : m < 8) {a b : Int} : (Rg.Sym.mk m a b).isGlide (cOf rows) = true ↔ ¬ Dbl (fldI rows) (twX m a b) (twY m a b) := by
  have st : ∀ x y : Int, Rg.isStep (cOf rows) x y = true ↔ Step (fldI rows) x y := fun x y => by
    rw [isStep_iff (c := cOf rows) ok.1 ok.h0, (alike ok).step]
  unfold Rg.Sym.isGlide
  rw [twice_is h8, Bool.and_eq_true, decide_eq_true_eq, Bool.not_eq_true', ← Bool.not_eq_true, Bool.and_eq_true, Bool.and_eq_true, beq_iff_eq, beq_iff_eq, st]
  exact ⟨fun h => h.2, fun h => ⟨h4, h⟩⟩
/-- for the first with m, or none -/
def gM (rows : List (List Int)) (p r m : Nat) : Option (Nat × Nat) := pFirst (fldI rows) (wideOf rows) rows.length p r m
theorem gM_none (ok : okRows rows) {p q r : Nat} (R : IsRep (fldI rows) p q r) {m : Nat} (hm : m < 8) (e : gM rows p r m = none) (a b : Int) : ¬ Sy (fldI rows) m a b := pFirst_none ok.1 ok.h0 (fldI_w rows) (fldI_h rows) R hm e a b
theorem gM_some (ok : okRows rows) {p r m : Nat} (hm : m < 8) {x : Nat × Nat} (e : gM rows p r m = some x) : Sy (fldI rows) m x.1 x.2 := (pFirst_some ok.1 ok.h0 (fldI_w rows) (fldI_h rows) hm e).2.2
theorem turn_has (ok : okRows rows) {p q r : Nat} (R : IsRep (fldI rows) p q r) {m : Nat} (hm : m < 8) : Rg.hasTurn (Rg.syms (cOf rows)) m = (gM rows p r m).isSome := by
  have key : Rg.hasTurn (Rg.syms (cOf rows)) m = true ↔ (gM rows p r m).isSome = true := by
    unfold Rg.hasTurn
    rw [List.any_eq_true]
    constructor
    · rintro ⟨s, hs, e⟩
      obtain ⟨m', a, b, hm', _, _, k, rfl⟩ := (mem_syms ok).mp hs
      have em : m' = m := by simpa using e
      subst em
      cases h : gM rows p r m' with
      | none => exact absurd k (gM_none ok R hm h _ _)
      | some x => rfl
    · intro h
      cases e : gM rows p r m with
      | none =>
        rw [e] at h
        cases h
      | some x =>
        have k := gM_some ok hm e
        obtain ⟨h1, h2, _⟩ := pFirst_some ok.1 ok.h0 (fldI_w rows) (fldI_h rows) hm e
        have pw := Nat.le_of_dvd ok.1 (R.wide (fldI_w rows))
        have rh := Nat.le_of_dvd ok.h0 (R.high (fldI_h rows))
        exact ⟨⟨m, x.1, x.2⟩, (mem_syms ok).mpr ⟨m, x.1, x.2, hm, by omega, by omega, k, rfl⟩, by simp⟩
  cases e1 : Rg.hasTurn (Rg.syms (cOf rows)) m <;> cases e2 : (gM rows p r m).isSome
  · rfl
  · rw [e1, e2] at key
    exact absurd (key.mpr rfl) Bool.false_ne_true
  · rw [e1, e2] at key
    exact absurd (key.mp rfl) Bool.false_ne_true
  · rfl
theorem bool_eq {b c : Bool} (h : b = true ↔ c = true) : b = c := by
  cases b <;> cases c
  · rfl
  · exact absurd (h.mpr rfl) Bool.false_ne_true
  · exact absurd (h.mp rfl) Bool.false_ne_true
  · rfl
theorem mirror_has (ok : okRows rows) {p q r : Nat} (R : IsRep (fldI rows) p q r) {m : Nat} (h4 : 4 ≤ m) (h8 : m < 8) :
    (Rg.around (cOf rows) ((Rg.syms (cOf rows)).filter fun (s : Rg.Sym) => s.m == m)).any Rg.Sym.isMirror = match gM rows p r m with
      | none => false
      | some x => (halvesB p q r (m, x.1, x.2)).any id := by
  refine bool_eq ⟨fun h => ?_, fun h => ?_⟩
  · obtain ⟨a, b, k, hm⟩ := any_around ok h
    have z := (isMirror_iff h4 h8).mp hm
    cases e : gM rows p r m with
    | none => exact absurd k (gM_none ok R h8 e a b)
    | some x =>
      obtain ⟨y, hy, iff⟩ := four_all R h8 (gM_some ok h8 e) k
      rw [z.1, z.2] at iff
      have d := iff.mp dbl_zero
      show (halvesB p q r (m, x.1, x.2)).any id = true
      unfold halvesB
      rw [List.any_map, List.any_eq_true]
      exact ⟨y, hy, (halfB_iff R).mpr d⟩
  · cases e : gM rows p r m with
    | none =>
      rw [e] at h
      cases h
    | some x =>
      rw [e] at h
      have h : (halvesB p q r (m, x.1, x.2)).any id = true := h
      unfold halvesB at h
      rw [List.any_map, List.any_eq_true] at h
      obtain ⟨y, hy, hd⟩ := h
      have d := (halfB_iff R (m := m)).mp hd
      have ky := four_sy R (gM_some ok h8 e) y hy
      obtain ⟨a, b, k, z1, z2⟩ := mirror_of h4 h8 ky d
      obtain ⟨a', b', k', l1, l2, l3, l4, _, near⟩ := near ok.1 ok.h0 (fldI_w rows) (fldI_h rows) h4 h8 k
      rcases near z1 z2 with ⟨t1, t2⟩ | ⟨a'', b'', k'', m1, m2, m3, m4, t1, t2⟩
      · exact around_any ok h8 k' l1 l2 l3 l4 ((isMirror_iff h4 h8).mpr ⟨t1, t2⟩)
      · exact around_any ok h8 k'' m1 m2 m3 m4 ((isMirror_iff h4 h8).mpr ⟨t1, t2⟩)
theorem glide_has (ok : okRows rows) {p q r : Nat} (R : IsRep (fldI rows) p q r) {m : Nat} (h4 : 4 ≤ m) (h8 : m < 8) :
    (Rg.around (cOf rows) ((Rg.syms (cOf rows)).filter fun (s : Rg.Sym) => s.m == m)).any (Rg.Sym.isGlide (cOf rows)) = match gM rows p r m with
      | none => false
      | some x => !(halvesB p q r (m, x.1, x.2)).all id := by
  refine bool_eq ⟨fun h => ?_, fun h => ?_⟩
  · obtain ⟨a, b, k, hm⟩ := any_around ok h
    have z := (isGlide_iff ok h4 h8).mp hm
    cases e : gM rows p r m with
    | none => exact absurd k (gM_none ok R h8 e a b)
    | some x =>
      obtain ⟨y, hy, iff⟩ := four_all R h8 (gM_some ok h8 e) k
      show (!(halvesB p q r (m, x.1, x.2)).all id) = true
      rw [Bool.not_eq_true', ← Bool.not_eq_true]
      unfold halvesB
      rw [List.all_map, List.all_eq_true]
      intro all
      exact z (iff.mpr ((halfB_iff R).mp (all y hy)))
  · cases e : gM rows p r m with
    | none =>
      rw [e] at h
      cases h
    | some x =>
      rw [e] at h
      have h : (!(halvesB p q r (m, x.1, x.2)).all id) = true := h
      rw [Bool.not_eq_true'] at h
      unfold halvesB at h
      rw [List.all_map, List.all_eq_false] at h
      obtain ⟨y, hy, hd⟩ := h
      have d : ¬ Dbl (fldI rows) (twX m y.1 y.2) (twY m y.1 y.2) := fun z => hd ((halfB_iff R).mpr z)
      have ky := four_sy R (gM_some ok h8 e) y hy
      obtain ⟨a', b', k', l1, l2, l3, l4, iff, _⟩ := near ok.1 ok.h0 (fldI_w rows) (fldI_h rows) h4 h8 ky
      exact around_any ok h8 k' l1 l2 l3 l4 ((isGlide_iff ok h4 h8).mpr fun z => d (iff.mpr z))
def pqr (rows : List (List Int)) : Nat × Nat × Nat := pRep (fldI rows) (wideOf rows) rows.length
theorem kind_all (ok : okRows rows) {p q r : Nat} (R : IsRep (fldI rows) p q r) : Rg.kindOf (cOf rows) = kindP p q r (pFirsts (fldI rows) (wideOf rows) rows.length p r) ∧
    (Rg.motionsOf (cOf rows)).length = (pFirsts (fldI rows) (wideOf rows) rows.length p r).length ∧ (Rg.mirrorsOf (cOf rows) (Rg.syms (cOf rows))).length = mirrorsB p q r (pFirsts (fldI rows) (wideOf rows) rows.length p r) := by
  have hf : pFirsts (fldI rows) (wideOf rows) rows.length p r = fsOf (gM rows p r) (List.range 8) := rfl
  have h47 : hi4 (List.range 8) = [4, 5, 6, 7] := by decide
  have in47 : ∀ m ∈ ([4, 5, 6, 7] : List Nat), 4 ≤ m ∧ m < 8 := by decide
  have eR : rowsB p q r (pFirsts (fldI rows) (wideOf rows) rows.length p r) = ([4, 5, 6, 7] : List Nat).filterMap fun m => (gM rows p r m).map fun x => halvesB p q r (m, x.1, x.2) := by
    unfold rowsB
    rw [hf, rows_hi, h47]
  have eMir : (Rg.mirrorsOf (cOf rows) (Rg.syms (cOf rows))).length = mirrorsB p q r (pFirsts (fldI rows) (wideOf rows) rows.length p r) := by
    unfold mirrorsB
    rw [eR]
    exact (count_by (gM rows p r) (fun m x => halvesB p q r (m, x.1, x.2)) (fun l => l.any id) (fun (m : Nat) => (Rg.around (cOf rows) ((Rg.syms (cOf rows)).filter fun (s : Rg.Sym) => s.m == m)).any Rg.Sym.isMirror) [4, 5, 6, 7] fun m hm => mirror_has ok R (in47 m hm).1 (in47 m hm).2).symm
  have eGl : Rg.hasGlide (cOf rows) (Rg.syms (cOf rows)) = glidesB p q r (pFirsts (fldI rows) (wideOf rows) rows.length p r) := by
    unfold glidesB
    rw [eR]
    exact (all_by (gM rows p r) (fun m x => halvesB p q r (m, x.1, x.2)) (fun l => l.all id) (fun (m : Nat) => (Rg.around (cOf rows) ((Rg.syms (cOf rows)).filter fun (s : Rg.Sym) => s.m == m)).any (Rg.Sym.isGlide (cOf rows))) [4, 5, 6, 7] fun m hm => glide_has ok R (in47 m hm).1 (in47 m hm).2).symm
  have eT : (([4, 5, 6, 7] : List Nat).filter (Rg.hasTurn (Rg.syms (cOf rows)))).length = (rowsB p q r (pFirsts (fldI rows) (wideOf rows) rows.length p r)).length := by
    rw [eR]
    exact (len_by (gM rows p r) (fun m x => halvesB p q r (m, x.1, x.2)) (Rg.hasTurn (Rg.syms (cOf rows))) [4, 5, 6, 7] fun m hm => turn_has ok R (in47 m hm).2).symm
  have eH : ∀ m, m < 8 → Rg.hasTurn (Rg.syms (cOf rows)) m = hasB (pFirsts (fldI rows) (wideOf rows) rows.length p r) m := fun m hm => by
    rw [turn_has ok R hm, hf]
    refine bool_eq ⟨fun h => (fs_has _ _ _).mpr ⟨List.mem_range.mpr hm, h⟩, fun h => ((fs_has _ _ _).mp h).2⟩
  refine ⟨?_, ?_, eMir⟩
  · unfold Rg.kindOf
    dsimp only
    rw [eMir, eGl, eT, eH 1 (by decide), eH 2 (by decide), eH 3 (by decide)]
    unfold Rg.kindBy kindP kindH kind4
    generalize rowsB p q r (pFirsts (fldI rows) (wideOf rows) rows.length p r) = L
    have eL : L.length = 0 ↔ L = [] := List.length_eq_zero_iff
    by_cases c : L = []
    · rw [if_pos (eL.mpr c), if_pos (eL.mpr c), if_pos (eL.mpr c), if_pos c, if_pos c, if_pos c]
    · have c' : ¬ L.length = 0 := fun z => c (eL.mp z)
      rw [if_neg c', if_neg c', if_neg c', if_neg c, if_neg c, if_neg c]
  · unfold Rg.motionsOf
    rw [hf]
    exact (len_by (gM rows p r) (fun m x => (m, x.1, x.2)) (Rg.hasTurn (Rg.syms (cOf rows))) (List.range 8) fun m hm => turn_has ok R (List.mem_range.mp hm)).symm
end
def kindM (t : List Int) : List Int := match readC t with
  | .inl n => [n]
  | .inr rows => [(kindP (pqr rows).1 (pqr rows).2.1 (pqr rows).2.2 (firstsM rows) : Int), ((firstsM rows).length : Int), (mirrorsB (pqr rows).1 (pqr rows).2.1 (pqr rows).2.2 (firstsM rows) : Int)]
theorem kind_is {t : List Int} (ht : ∀ z ∈ t, isByte z) : PyWqbbcf.kind t = kindM t := by
  show RugBNeutral.shown (RugB.ofChart (RugBNeutral.text t) fun c => Rg.tells (Rg.kindOf c : Int) [(Rg.motionsOf c).length, (Rg.mirrorsOf c (Rg.syms c)).length]) = kindM t
  rw [of_read ht]
  unfold kindM
  cases e : readC t with
  | inl n => rfl
  | inr rows =>
    obtain ⟨ok, _⟩ := read_ok ht e
    obtain ⟨k1, k2, k3⟩ := kind_all ok (rep_is ok).1
    show [(Rg.kindOf (cOf rows) : Int), ((Rg.motionsOf (cOf rows)).length : Int), ((Rg.mirrorsOf (cOf rows) (Rg.syms (cOf rows))).length : Int)] = _
    rw [k1, k2, k3]
    rfl
end Kn
set_option Elab.async false
set_option linter.all false
set_option maxRecDepth 100000
set_option maxHeartbeats 4000000
/-! ### words for the walk -/
namespace Kn
open PySem PySem.Spec PyProof.Rows L2
def topS (i : Nat) : Stmt := PySem.Challenge.pw_knotcharts_s06_kind.main.body.getD i (.Pass ⟨0, 0, 0, 0⟩)
/-- a def that callers may use -/
structure Def (P : Program) (w : World) (K : PySem.W.Frag) (mg : Str → Option Value) (base : Heap) (CX : CXT) (k : Nat) (name : Str) (ps : List Str) (sp : Sp) : Prop where
  ex : ∃ (f : Addr) (fd : FuncData), mg name = some (.ref f) ∧ PySem.W.keepIn K (.ref f) = true ∧ Binds K fd ps [] ∧ FnOk P w K mg base CX k f fd ps sp
/-- a method that callers may use -/
structure DefM (P : Program) (w : World) (K : PySem.W.Frag) (mg : Str → Option Value) (base : Heap) (CX : CXT) (k : Nat) (C : Addr) (name : Str) (ps : List Str) (sp : Sp) : Prop where
  ex : ∃ (f : Addr) (fd : FuncData), Meth K C name f ∧ Binds K fd ps [] ∧ FnOk P w K mg base CX k f fd ps sp
/-- a class that callers may make -/
structure DefC (P : Program) (w : World) (K : PySem.W.Frag) (mg : Str → Option Value) (base : Heap) (CX : CXT) (k : Nat) (C : Addr) (name : Str) (ps : List Str) (sp : Sp) : Prop where
  ex : ∃ (f : Addr) (fd : FuncData), mg name = some (.ref C) ∧ Mk K C f ∧ Binds K fd ps [] ∧ FnOk P w K mg base CX k f fd ps sp
theorem same_upd {H : Hp} {p : Addr} {o : HO} (h : H p = none) : Same H (upd H p o) := fun b x e => by
  rw [upd_ne (ne_of_none e h)]
  exact e
theorem same_at {H H' : Hp} (s : Same H H') {a : Addr} {o : HO} (h : H a = some o) : H' a = some o := s a o h
/-- what is new beside what was there: the store of a new object keeps what was tracked ahead of it -/
theorem same_put {H0 H : Hp} {p : Addr} {o : HO} (s : Same H0 H) (h : H0 p = none) : Same H0 (upd H p o) := fun b x e => by
  rw [upd_ne (ne_of_none e h)]
  exact s b x e
theorem lk_here {k : Str} {v : V} {r : List (Str × V)} : List.lookup k ((k, v) :: r) = some v := by
  have e : (k == k) = true := beq_self_eq_true k
  simp only [List.lookup, e]
theorem lk_past {k g : Str} {v : V} {r : List (Str × V)} (h : (k == g) = false) : List.lookup k ((g, v) :: r) = List.lookup k r := by
  simp only [List.lookup, h]
theorem put_here {f : Str} {v x : V} {r : List (Str × V)} : putF f v ((f, x) :: r) = (f, v) :: r := if_pos rfl
theorem put_past {f g : Str} {v x : V} {r : List (Str × V)} (h : ¬ g = f) : putF f v ((g, x) :: r) = (g, x) :: putF f v r := if_neg h
theorem if_true_of {c : Bool} {A B : Prop} (hc : c = true) (h : A) : if c = true then A else B := by
  rw [if_pos hc]
  exact h
theorem if_false_of {c : Bool} {A B : Prop} (hc : c = false) (h : B) : if c = true then A else B := by
  rw [hc, if_neg Bool.false_ne_true]
  exact h
theorem if_two {c : Bool} {A B : Prop} (h1 : c = true → A) (h2 : c = false → B) : if c = true then A else B := by
  cases c
  · exact if_false_of rfl (h2 rfl)
  · exact if_true_of rfl (h1 rfl)
theorem le_line {n : Nat} (h : n ≤ 16777216) : n ≤ sizeLine := by
  rw [sizeLine_eq]
  exact h
theorem lt_line {n : Nat} (h : n < 16777216) : n < sizeLine := by
  rw [sizeLine_eq]
  exact h
theorem take_more {A : Type} : ∀ {l : List A} {i : Nat} {x : A}, l[i]? = some x → l.take (i + 1) = l.take i ++ [x]
  | [], i, x, h => by simp at h
  | a :: l, 0, x, h => by
    have e : a = x := Option.some.inj h
    subst e
    rfl
  | a :: l, i + 1, x, h => by
    have ih := take_more (l := l) (i := i) (x := x) h
    show a :: l.take (i + 1) = a :: l.take i ++ [x]
    rw [ih]
    rfl
theorem map_get {A B : Type} {f : A → B} {l : List A} {i : Nat} {y : B} (h : (l.map f)[i]? = some y) : ∃ z, l[i]? = some z ∧ y = f z := by
  rw [List.getElem?_map] at h
  cases e : l[i]? with
  | none =>
    rw [e] at h
    cases h
  | some z =>
    rw [e] at h
    exact ⟨z, rfl, (Option.some.inj h).symm⟩
/-- lo <= x <= hi, x in the i-th slot -/
theorem ch_le {i : Nat} {lo hi z : Int} {σ : L2.St} {H : Hp} {Q : VK} (hz : σ[i]? = some (some (V.int z))) (h : Q (V.bl (decide (lo ≤ z) && decide (z ≤ hi))) H) :
    tChain (rI0 fun i j => V.bl (decide (i ≤ j))) (rI0 fun i j => V.bl (decide (i ≤ j))) (tC (V.int lo)) (tVar i) (tC (V.int hi)) σ H Q := by
  refine ⟨_, hz, lo, z, rfl, rfl, _, rfl, if_two (fun e => ?_) fun e => ?_⟩
  · rw [e, Bool.true_and] at h
    exact ⟨z, hi, rfl, rfl, h⟩
  · rw [e, Bool.false_and] at h
    exact h
/-! comprehensions of one for, no test, whose element is a known value at each turn -/
theorem wipe_back (σ : L2.St) (i : Nat) (x : Option V) : wipe ((wipe σ [i]).set i x) [i] = wipe σ [i] := by
  show ((σ.set i none).set i x).set i none = σ.set i none
  rw [List.set_set, List.set_set]
theorem take_get {A : Type} {l : List A} {i : Nat} {x : A} (h : l[i]? = some x) : l.take (i + 1) = l.take i ++ [x] := take_more h
theorem lc_map {K : PySem.W.Frag} {a : Addr} {xs : List V} {te : TE} {i : Nat} {σ : L2.St} {H1 : Hp} {D : Addr} {Qd : Hp → Prop} (hD : H1 D = none) (hS : SqL K H1 a xs) (hn : xs.length ≤ 1000000) (ys : List V) (hl : ys.length = xs.length)
    (he : ∀ (j : Nat) (x y : V) (H' : Hp), xs[j]? = some x → ys[j]? = some y → Same H1 H' → ∀ Q : VK, (∀ H4, Same H' H4 → Q y H4) → te ((wipe σ [i]).set i (some x)) H' Q) (hd : ∀ H', Same H1 H' → H' D = some (.lst ys) → Qd H') :
    ∃ W : Nat → Nat → Hp → Prop, (∃ m, W 0 m (upd H1 D (.lst []))) ∧ ∀ j m H, W j m H →
      ((Itl K a).stop j H ∧ Qd H) ∨ ((Itl K a).go j H ∧ ∃ Nx : Hp → Prop, (∀ H', Nx H' → ∃ m', m' < m ∧ W (j + 1) m' H') ∧ ∀ x H', (Itl K a).yld j H x H' → gName i x (wipe σ [i]) H' fun σ2 H2 => wipe σ2 [i] = wipe σ [i] ∧ tYes σ2 H2 fun b H3 =>
        if b = true then te σ2 H3 fun y H4 => ∃ acc, H4 D = some (.lst acc) ∧ acc.length < sizeLine ∧ Nx (upd H4 D (.lst (acc ++ [y]))) else Nx H3) := by
  refine lc_list (K := K) (a := a) (xs := xs) (fun j H => Same H1 H ∧ H D = some (.lst (ys.take j))) ⟨same_upd hD, upd_same⟩ (fun j H _ h => h.1.seq hS) (fun j x H hx h => ?_) fun H h => ?_
  · obtain ⟨s1, hd1⟩ := h
    obtain ⟨y, hy⟩ : ∃ y, ys[j]? = some y := by
      have : j < ys.length := by
        rw [hl]
        exact (List.getElem?_eq_some_iff.mp hx).1
      exact ⟨_, List.getElem?_eq_getElem this⟩
    refine ⟨wipe_back _ _ _, ?_⟩
    unfold tYes
    dsimp only
    rw [if_pos rfl]
    refine he j x y H hx hy s1 _ fun H4 s4 => ?_
    refine ⟨ys.take j, s4 _ _ hd1, ?_, ?_, ?_⟩
    · rw [List.length_take]
      exact lt_line (by omega)
    · exact same_put (s1.trans s4) hD
    · rw [upd_same, take_more hy]
  · refine hd H h.1 ?_
    rw [h.2, ← hl, List.take_length]
theorem lc_map_range {te : TE} {i : Nat} {σ : L2.St} {H1 : Hp} {D : Addr} {Qd : Hp → Prop} {lo : Int} {n : Nat} (hD : H1 D = none) (hn : n ≤ 1000000) (ys : List V) (hl : ys.length = n)
    (he : ∀ (j : Nat) (y : V) (H' : Hp), j < n → ys[j]? = some y → Same H1 H' → ∀ Q : VK, (∀ H4, Same H' H4 → Q y H4) → te ((wipe σ [i]).set i (some (V.int (lo + j)))) H' Q) (hd : ∀ H', Same H1 H' → H' D = some (.lst ys) → Qd H') :
    ∃ W : Nat → Nat → Hp → Prop, (∃ m, W 0 m (upd H1 D (.lst []))) ∧ ∀ j m H, W j m H →
      ((Itr lo n).stop j H ∧ Qd H) ∨ ((Itr lo n).go j H ∧ ∃ Nx : Hp → Prop, (∀ H', Nx H' → ∃ m', m' < m ∧ W (j + 1) m' H') ∧ ∀ x H', (Itr lo n).yld j H x H' → gName i x (wipe σ [i]) H' fun σ2 H2 => wipe σ2 [i] = wipe σ [i] ∧ tYes σ2 H2 fun b H3 =>
        if b = true then te σ2 H3 fun y H4 => ∃ acc, H4 D = some (.lst acc) ∧ acc.length < sizeLine ∧ Nx (upd H4 D (.lst (acc ++ [y]))) else Nx H3) := by
  refine lc_range (fun j H => Same H1 H ∧ H D = some (.lst (ys.take j))) ⟨same_upd hD, upd_same⟩ (fun j H hj h => ?_) fun H h => ?_
  · obtain ⟨s1, hd1⟩ := h
    obtain ⟨y, hy⟩ : ∃ y, ys[j]? = some y := by
      have : j < ys.length := by omega
      exact ⟨_, List.getElem?_eq_getElem this⟩
    refine ⟨wipe_back _ _ _, ?_⟩
    unfold tYes
    dsimp only
    rw [if_pos rfl]
    refine he j y H hj hy s1 _ fun H4 s4 => ?_
    refine ⟨ys.take j, s4 _ _ hd1, ?_, ?_, ?_⟩
    · rw [List.length_take]
      exact lt_line (by omega)
    · exact same_put (s1.trans s4) hD
    · rw [upd_same, take_more hy]
  · refine hd H h.1 ?_
    rw [h.2, ← hl, List.take_length]
/-- a comprehension with a test over a range: those that the test keeps -/
theorem lc_filt_range {tt : TT} {te : TE} {i : Nat} {σ : L2.St} {H1 : Hp} {D : Addr} {Qd : Hp → Prop} {lo : Int} {n : Nat} (hD : H1 D = none) (hn : n ≤ 1000000) (g : Nat → Bool) (f : Nat → V)
    (ht : ∀ (j : Nat) (H' : Hp), j < n → Same H1 H' → ∀ Q : Bool → Hp → Prop, (∀ H4, Same H' H4 → Q (g j) H4) → tt ((wipe σ [i]).set i (some (V.int (lo + j)))) H' Q)
    (he : ∀ (j : Nat) (H' : Hp), j < n → Same H1 H' → ∀ Q : VK, (∀ H4, Same H' H4 → Q (f j) H4) → te ((wipe σ [i]).set i (some (V.int (lo + j)))) H' Q) (hd : ∀ H', Same H1 H' → H' D = some (.lst (((List.range n).filter g).map f)) → Qd H') :
    ∃ W : Nat → Nat → Hp → Prop, (∃ m, W 0 m (upd H1 D (.lst []))) ∧ ∀ j m H, W j m H →
      ((Itr lo n).stop j H ∧ Qd H) ∨ ((Itr lo n).go j H ∧ ∃ Nx : Hp → Prop, (∀ H', Nx H' → ∃ m', m' < m ∧ W (j + 1) m' H') ∧ ∀ x H', (Itr lo n).yld j H x H' → gName i x (wipe σ [i]) H' fun σ2 H2 => wipe σ2 [i] = wipe σ [i] ∧ tt σ2 H2 fun b H3 =>
        if b = true then te σ2 H3 fun y H4 => ∃ acc, H4 D = some (.lst acc) ∧ acc.length < sizeLine ∧ Nx (upd H4 D (.lst (acc ++ [y]))) else Nx H3) := by
  refine lc_range (fun j H => Same H1 H ∧ H D = some (.lst (((List.range j).filter g).map f))) ⟨same_upd hD, upd_same⟩ (fun j H hj h => ?_) fun H h => hd H h.1 h.2
  obtain ⟨s1, hd1⟩ := h
  refine ⟨wipe_back _ _ _, ht j H hj s1 _ fun H4 s4 => if_two (fun e => ?_) fun e => ?_⟩
  · refine he j H4 hj (s1.trans s4) _ fun H5 s5 => ⟨_, s5 _ _ (s4 _ _ hd1), ?_, ?_, ?_⟩
    · rw [List.length_map]
      have := List.length_filter_le g (List.range j)
      rw [List.length_range] at this
      exact lt_line (by omega)
    · exact same_put ((s1.trans s4).trans s5) hD
    · rw [upd_same, List.range_succ, List.filter_append, List.map_append, List.filter_cons, e]
      rfl
  · refine ⟨s1.trans s4, ?_⟩
    rw [s4 _ _ hd1, List.range_succ, List.filter_append, List.map_append, List.filter_cons, e]
    simp
/-! data of lists for == -/
theorem lay_map {A : Type} (g : A → PyData) (l : List A) (h : ∀ x ∈ l, (g x).canLay0 = true) : PyData.canLayAll0 (l.map g) = true := by
  induction l with
  | nil => rfl
  | cons a l ih => simp [PyData.canLayAll0, h a List.mem_cons_self, ih fun x hx => h x (List.mem_cons_of_mem _ hx)]
theorem depth_map {A : Type} (g : A → PyData) (n : Nat) (l : List A) (h : ∀ x ∈ l, (g x).depth ≤ n) : PyData.depthAll (l.map g) ≤ n := by
  induction l with
  | nil => simp [PyData.depthAll]
  | cons a l ih =>
    have h1 := h a List.mem_cons_self
    have h2 := ih fun x hx => h x (List.mem_cons_of_mem _ hx)
    simp only [List.map_cons, PyData.depthAll]
    omega
theorem shaped_list {A : Type} (g : A → PyData) (l : List A) (h : ∀ x ∈ l, (g x).canLay0 = true) (h2 : ∀ x ∈ l, (g x).depth ≤ 60) : SeqAt.shaped (.list (l.map g)) = true := by
  have := depth_map g 60 l h2
  unfold SeqAt.shaped
  simp only [PyData.canLay0, lay_map g l h, PyData.depth, Bool.true_and]
  exact decide_eq_true (by omega)
def dInts (r : List Int) : PyData := .list (r.map PyData.int)
def dBls (r : List Bool) : PyData := .list (r.map PyData.bool)
theorem dInts_lay (r : List Int) : (dInts r).canLay0 = true ∧ (dInts r).depth ≤ 60 := by
  have h1 := lay_map PyData.int r fun _ _ => rfl
  have h2 := depth_map PyData.int 1 r fun _ _ => by simp [PyData.depth]
  refine ⟨h1, ?_⟩
  simp only [dInts, PyData.depth]
  omega
theorem dBls_lay (r : List Bool) : (dBls r).canLay0 = true ∧ (dBls r).depth ≤ 60 := by
  have h1 := lay_map PyData.bool r fun _ _ => rfl
  have h2 := depth_map PyData.bool 1 r fun _ _ => by simp [PyData.depth]
  refine ⟨h1, ?_⟩
  simp only [dBls, PyData.depth]
  omega
theorem dpAll_map {A : Type} {K : PySem.W.Frag} {H : Hp} (f : A → V) (g : A → PyData) : ∀ l : List A, (∀ x ∈ l, Dp K H (f x) (g x)) → DpAll K H (l.map f) (l.map g)
  | [], _ => .nil
  | a :: l, h => .cons (h a List.mem_cons_self) (dpAll_map f g l fun x hx => h x (List.mem_cons_of_mem _ hx))
theorem dp_ints {K : PySem.W.Frag} {H : Hp} {a : Addr} {r : List Int} (h : SqL K H a (r.map V.int)) : Dp K H (.ref a) (dInts r) := .lst h (dpAll_map _ _ _ fun x _ => .int x)
theorem dp_bls {K : PySem.W.Frag} {H : Hp} {a : Addr} {r : List Bool} (h : SqL K H a (r.map V.bl)) : Dp K H (.ref a) (dBls r) := .lst h (dpAll_map _ _ _ fun x _ => .bl x)
theorem dp_empty {K : PySem.W.Frag} {H : Hp} {a : Addr} (h : H a = some (.lst [])) : Dp K H (.ref a) (.list []) := .lst (SqL.of h) .nil
theorem eqv_empty (ds : List PyData) : PyData.eqv (.list ds) (.list []) = ds.isEmpty := by
  cases ds <;> simp [PyData.eqv, PyData.eqvAll]
/-- c and d as a test, told once for both ways -/
theorem test_and {tA tB : TT} {σ : L2.St} {H : Hp} {Qb : Bool → Hp → Prop} (c d : Bool) (hA : ∀ Q : Bool → Hp → Prop, (∀ H1, Same H H1 → Q c H1) → tA σ H Q) (hB : ∀ H1, Same H H1 → ∀ Q : Bool → Hp → Prop, (∀ H2, Same H1 H2 → Q d H2) → tB σ H1 Q)
    (hq : ∀ H2, Same H H2 → Qb (c && d) H2) : tAnd tA tB σ H Qb := by
  refine hA _ fun H1 s1 => if_two (fun e => ?_) fun e => ?_
  · refine hB H1 s1 _ fun H2 s2 => ?_
    have := hq H2 (s1.trans s2)
    rw [e, Bool.true_and] at this
    exact this
  · have := hq H1 s1
    rw [e, Bool.false_and] at this
    exact this
/-- c and d as a value -/
theorem val_and {ta tb : TE} {σ : L2.St} {H : Hp} {Q : VK} (c d : Bool) (hA : ∀ Q : VK, (∀ H1, Same H H1 → Q (.bl c) H1) → ta σ H Q) (hB : ∀ H1, Same H H1 → ∀ Q : VK, (∀ H2, Same H1 H2 → Q (.bl d) H2) → tb σ H1 Q)
    (hq : ∀ H2, Same H H2 → Q (.bl (c && d)) H2) : tAndV ta tb σ H Q := by
  refine hA _ fun H1 s1 => ⟨c, rfl, if_two (fun e => ?_) fun e => ?_⟩
  · refine hB H1 s1 _ fun H2 s2 => ?_
    have := hq H2 (s1.trans s2)
    rw [e, Bool.true_and] at this
    exact this
  · have := hq H1 s1
    rw [e, Bool.false_and] at this
    exact this
end Kn
set_option Elab.async false
set_option linter.all false
set_option maxRecDepth 100000
set_option maxHeartbeats 4000000
/-! ### charts: is_colour, the class Chart -/
namespace Kn
open PySem PySem.Spec PyProof.Rows L2
abbrev sNoInit : Stmt := inClass (topS 8) 0
abbrev sIsCol : Stmt := topS 9
abbrev sChInit : Stmt := inClass (topS 10) 0
abbrev sColour : Stmt := inClass (topS 10) 1
abbrev sRowsOf : Stmt := topS 11
abbrev sRight : Stmt := topS 12
abbrev sRead : Stmt := topS 13
/-- what the top has written of the class Chart -/
structure TxC (K : PySem.W.Frag) (mg : Str → Option Value) (C : Addr) : Prop where
  cl : Cls K C
  nR : NoAttr K C "rows"
  nW : NoAttr K C "wide"
  nH : NoAttr K C "high"
  mLen : mg "len" = none
  mAll : mg "all" = none
  mList : mg "list" = none
def chF (ra : Addr) (w h : Nat) : List (Str × V) := [("rows", .ref ra), ("wide", .int w), ("high", .int h)]
/-- rows of bytes stand in the list at ra -/
def RowsAt (H : Hp) (ra : Addr) (rows : List (List Int)) : Prop := ∃ ads : List Addr, H ra = some (.lst (ads.map V.ref)) ∧ ads.length = rows.length ∧ (∀ (i : Nat) (ad : Addr) (r : List Int), ads[i]? = some ad → rows[i]? = some r → H ad = some (.lst (r.map V.int))) ∧ ∀ ad ∈ ads, ad ≠ ra
/-- a chart stands at a -/
def ChAt (C : Addr) (H : Hp) (a : Addr) (rows : List (List Int)) : Prop := ∃ dx ra, H a = some (.ins C dx (chF ra (wideOf rows) rows.length)) ∧ RowsAt H ra rows
theorem RowsAt.same {H H' : Hp} {ra : Addr} {rows : List (List Int)} (h : RowsAt H ra rows) (s : Same H H') : RowsAt H' ra rows := by
  obtain ⟨ads, h1, h2, h3, h4⟩ := h
  exact ⟨ads, s _ _ h1, h2, fun i ad r e1 e2 => s _ _ (h3 i ad r e1 e2), h4⟩
theorem ChAt.same {C : Addr} {H H' : Hp} {a : Addr} {rows : List (List Int)} (h : ChAt C H a rows) (s : Same H H') : ChAt C H' a rows := by
  obtain ⟨dx, ra, h1, h2⟩ := h
  exact ⟨dx, ra, s _ _ h1, h2.same s⟩
theorem chF_rows {ra : Addr} {w h : Nat} : (chF ra w h).lookup ("rows" : Str) = some (.ref ra) := lk_here
theorem chF_wide {ra : Addr} {w h : Nat} : (chF ra w h).lookup ("wide" : Str) = some (.int w) := (lk_past (by decide +kernel)).trans lk_here
theorem chF_high {ra : Addr} {w h : Nat} : (chF ra w h).lookup ("high" : Str) = some (.int h) := (lk_past (by decide +kernel)).trans ((lk_past (by decide +kernel)).trans lk_here)
theorem chF_colour {ra : Addr} {w h : Nat} : (chF ra w h).lookup ("colour" : Str) = none := (lk_past (by decide +kernel)).trans ((lk_past (by decide +kernel)).trans ((lk_past (by decide +kernel)).trans rfl))
section
variable {P : Program} {w : World} {K : PySem.W.Frag} {mg : Str → Option Value} {base : Heap} {C : Addr}
/-! is_colour -/
def spIsCol : Sp := fun vs H Q _ => ∃ z : Int, vs = [.int z] ∧ Q (.bl (isCol z)) H
theorem scIsCol : FnScope ["byte"] ["byte"] (defScope sIsCol) := ⟨rfl, rfl, rfl, by decide +kernel, rfl, by decide +kernel, by decide +kernel⟩
theorem ok_isCol {f : Addr} {fd : FuncData} (F : Fun K "is_colour" "is_colour" sIsCol f fd) : FnOk P w K mg base CX0 1 f fd ["byte"] spIsCol := by
  refine F.ok scIsCol (fun vs H Q E h => ?_) (fun cdv A outer s H vs Q E hr h => ?_)
  · obtain ⟨z, rfl, _⟩ := h
    rfl
  · obtain ⟨z, rfl, q⟩ := h
    refine ⟨_, pss_one (ps_ret (pe_or (pe_chain op_le op_le pe_int (pv 0) pe_int) (pe_or (pe_chain op_le op_le pe_int (pv 0) pe_int) (pe_one (pe_chain op_le op_le pe_int (pv 0) pe_int))))), ?_⟩
    unfold isCol at q
    refine ch_le rfl ⟨_, rfl, if_two (fun e => ?_) fun e => ?_⟩
    · rw [e, Bool.true_or] at q
      exact q
    · rw [e, Bool.false_or] at q
      refine ch_le rfl ⟨_, rfl, if_two (fun e => ?_) fun e => ?_⟩
      · rw [e, Bool.true_or] at q
        exact q
      · rw [e, Bool.false_or] at q
        exact ch_le rfl q
/-! Chart.colour -/
def spColour (C : Addr) : Sp := fun vs H Q _ => ∃ (a : Addr) (rows : List (List Int)) (x y : Int), vs = [.ref a, .int x, .int y] ∧ ChAt C H a rows ∧ okRows rows ∧ Q (.int (fldI rows x y)) H
theorem scColour : FnScope ["self", "x", "y"] ["self", "x", "y"] (defScope sColour) := ⟨rfl, rfl, rfl, by decide +kernel, rfl, by decide +kernel, by decide +kernel⟩
theorem ok_colour {f : Addr} {fd : FuncData} (F : Fun K "colour" "Chart.colour" sColour f fd) (T : TxC K mg C) : FnOk P w K mg base CX0 1 f fd ["self", "x", "y"] (spColour C) := by
  refine F.ok scColour (fun vs H Q E h => ?_) (fun cdv A outer s H vs Q E hr h => ?_)
  · obtain ⟨a, rows, x, y, rfl, _⟩ := h
    rfl
  · obtain ⟨a, rows, x, y, rfl, ⟨dx, ra, ha, ads, hra, hl, hrow, _⟩, ok, q⟩ := h
    refine ⟨_, pss_one (ps_ret (pe_ix ix_list (pe_ix ix_list (pe_fld (pv 0) rfl) (pe_op op_mod (pv 2) (pe_fld (pv 0) rfl)) (fun _ _ => rfl)) (pe_op op_mod (pv 1) (pe_fld (pv 0) rfl)) (fun _ _ => rfl))), ?_⟩
    obtain ⟨i, j, r, ey, ex, hi, hm, hj, _⟩ := ok.at x y
    have h0 := ok.h0
    have w0 := ok.1
    obtain ⟨ad, had⟩ : ∃ ad, ads[i]? = some ad := by
      have : i < ads.length := by
        rw [hl]
        exact (List.getElem?_eq_some_iff.mp hi).1
      exact ⟨_, List.getElem?_eq_getElem this⟩
    refine ⟨_, rfl, a, C, dx, _, _, rfl, ha, T.cl, T.nR, chF_rows, _, rfl, _, rfl, a, C, dx, _, _, rfl, ha, T.cl, T.nH, chF_high, _, _, rfl, rfl, by omega, ?_⟩
    refine ⟨ra, _, _, .ref ad, rfl, rfl, SqL.of hra, at_of ey (by rw [List.getElem?_map, had]; rfl), ?_⟩
    refine ⟨_, rfl, _, rfl, a, C, dx, _, _, rfl, ha, T.cl, T.nW, chF_wide, _, _, rfl, rfl, by omega, ?_⟩
    refine ⟨ad, _, _, .int (fldI rows x y), rfl, rfl, SqL.of (hrow i ad r had hi), at_of ex (by rw [List.getElem?_map, hj]; rfl), q⟩
/-! is_right_row -/
def spRight (K : PySem.W.Frag) : Sp := fun vs H Q _ => ∃ (a : Addr) (r : List Int) (n : Nat), vs = [.ref a, .int n] ∧ SqL K H a (r.map V.int) ∧ r.length ≤ 100000 ∧ ∀ H', Same H H' → Q (.bl (decide (r.length = n) && r.all isCol)) H'
theorem scRight : FnScope ["row", "wide", "byte"] ["row", "wide"] (defScope sRight) := ⟨rfl, rfl, rfl, by decide +kernel, rfl, by decide +kernel, by decide +kernel⟩
theorem ok_right {f : Addr} {fd : FuncData} (F : Fun K "is_right_row" "is_right_row" sRight f fd) (T : TxC K mg C) (D : Def P w K mg base CX0 1 "is_colour" ["byte"] spIsCol) : FnOk P w K mg base CX0 2 f fd ["row", "wide"] (spRight K) := by
  obtain ⟨fc, fdc, gc, kc, bc, Gc⟩ := D.ex
  refine F.ok scRight (fun vs H Q E h => ?_) (fun cdv A outer s H vs Q E hr h => ?_)
  · obtain ⟨a, r, n, rfl, _⟩ := h
    rfl
  · obtain ⟨a, r, n, rfl, hS, hl, q⟩ := h
    refine ⟨_, pss_one (ps_ret (pe_and (pe_cmpR op_eq (pe_callB call_len_seq (by rfl) T.mLen PySem.boot_len (pa_cons (pv 0) pa_nil)) (pv 1) (nomark _))
      (pe_one (pe_callB (cr_all rfl) (by rfl) T.mAll (by decide +kernel) (pa_cons (pe_lc (own := [("byte", 2)]) (g := gName 2) (tt := tYes) rfl scRight.nd (pi_list (pv 0)) (blkOk_by (own := [("byte", 2)]) (N := ["row", "wide", "byte"]) (sc := defScope sRight) (by decide +kernel))
        (fun _ _ _ _ _ => pg_name (i := 2) scRight.nd rfl (Or.inl rfl)) (fun _ _ _ _ _ => pts_nil) (fun _ _ _ _ _ => pe_call Gc hr rfl gc kc bc .nil pass0 (pa_cons (pv 2) pa_nil))) pa_nil))))), ?_⟩
    refine ⟨_, rfl, a, _, rfl, .inl hS, _, rfl, rfl, _, rfl, if_two (fun e => ?_) fun e => ?_⟩
    · have e' : r.length = n := by
        rw [decide_eq_true_eq, List.length_map] at e
        have e2 : ((r.length : Int)) = (n : Int) := by
          injection e
        omega
      refine ⟨_, rfl, a, rfl, ⟨_, hS⟩, fun p np => ?_⟩
      refine lc_map np hS (by rw [List.length_map]; omega) ((r.map isCol).map V.bl) (by rw [List.length_map, List.length_map, List.length_map]) (fun j x y H' hx hy s1 Q' hQ => ?_) fun H' s1 hp => ?_
      · obtain ⟨z, hz, rfl⟩ := map_get hx
        refine ⟨_, rfl, z, rfl, ?_⟩
        rw [List.map_map, List.getElem?_map, hz] at hy
        have := Option.some.inj hy
        rw [show V.bl (isCol z) = y from this]
        exact hQ H' (Same.refl _)
      · refine ⟨p, _, rfl, SqL.of hp, ?_⟩
        have := q H' s1
        rw [e', decide_eq_true rfl, Bool.true_and] at this
        rw [List.all_map]
        exact this
    · have e' : ¬ r.length = n := by
        rw [decide_eq_false_iff_not, List.length_map] at e
        intro z
        rw [z] at e
        exact e rfl
      have := q H (Same.refl _)
      rw [decide_eq_false e', Bool.false_and] at this
      exact this
end
end Kn
set_option Elab.async false
set_option linter.all false
set_option maxRecDepth 100000
set_option maxHeartbeats 4000000
/-! ### charts: rows_of, the making of a Chart -/
namespace Kn
open PySem PySem.Spec PyProof.Rows L2
/-- new rows: the list at R of the lists at ads -/
structure RowsN (H0 H : Hp) (R : Addr) (ads : List Addr) (rows : List (List Int)) : Prop where
  top : H R = some (.lst (ads.map V.ref))
  len : ads.length = rows.length
  row : ∀ (i : Nat) (ad : Addr) (r : List Int), ads[i]? = some ad → rows[i]? = some r → H ad = some (.lst (r.map V.int))
  ne : ∀ ad ∈ ads, ad ≠ R
  new : ∀ ad ∈ ads, H0 ad = none
  newR : H0 R = none
  nd : ads.Nodup
theorem RowsN.there {H0 H : Hp} {R : Addr} {ads : List Addr} {rows : List (List Int)} (h : RowsN H0 H R ads rows) {ad : Addr} (m : ad ∈ ads) : ∃ o, H ad = some o := by
  obtain ⟨i, hi, e⟩ := List.getElem_of_mem m
  have hj : i < rows.length := by
    rw [← h.len]
    exact hi
  exact ⟨_, h.row i ad rows[i] (by rw [List.getElem?_eq_getElem hi, e]) (List.getElem?_eq_getElem hj)⟩
theorem RowsN.push {H0 H : Hp} {R p : Addr} {ads : List Addr} {rows : List (List Int)} (h : RowsN H0 H R ads rows) (s : Same H0 H) (hp : H p = none) : RowsN H0 (upd (upd H p (.lst [])) R (.lst (ads.map V.ref ++ [.ref p]))) R (ads ++ [p]) (rows ++ [[]]) := by
  have hpR : p ≠ R := fun e => by
    rw [e, h.top] at hp
    cases hp
  have hpa : ∀ ad ∈ ads, ad ≠ p := fun ad m e => by
    obtain ⟨o, ho⟩ := h.there m
    rw [e, hp] at ho
    cases ho
  refine ⟨?_, ?_, ?_, ?_, ?_, h.newR, ?_⟩
  · rw [upd_same, List.map_append]
    rfl
  · rw [List.length_append, List.length_append, h.len]
    rfl
  · intro i ad r e1 e2
    by_cases hi : i < ads.length
    · rw [List.getElem?_append_left hi] at e1
      rw [List.getElem?_append_left (by rw [← h.len]; exact hi)] at e2
      have m : ad ∈ ads := List.mem_of_getElem? e1
      rw [upd_ne (h.ne ad m), upd_ne (hpa ad m)]
      exact h.row i ad r e1 e2
    · have hi2 : i < (ads ++ [p]).length := (List.getElem?_eq_some_iff.mp e1).1
      rw [List.length_append, List.length_singleton] at hi2
      have e : i = ads.length := by omega
      subst e
      rw [List.getElem?_append_right (Nat.le_refl _), Nat.sub_self] at e1
      rw [h.len, List.getElem?_append_right (Nat.le_refl _), Nat.sub_self] at e2
      have e1' : p = ad := Option.some.inj e1
      have e2' : [] = r := Option.some.inj e2
      subst e1' e2'
      rw [upd_ne hpR, upd_same]
      rfl
  · intro ad m
    rcases List.mem_append.mp m with m | m
    · exact h.ne ad m
    · rw [List.mem_singleton.mp m]
      exact hpR
  · intro ad m
    rcases List.mem_append.mp m with m | m
    · exact h.new ad m
    · rw [List.mem_singleton.mp m]
      exact s.free hp
  · rw [List.nodup_append]
    refine ⟨h.nd, by simp, fun a ha b hb => ?_⟩
    rw [List.mem_singleton.mp hb]
    exact hpa a ha
theorem RowsN.app {H0 H : Hp} {R : Addr} {ads : List Addr} {done : List (List Int)} {cur : List Int} (h : RowsN H0 H R ads (done ++ [cur])) : ∃ (bs : List Addr) (L : Addr), ads = bs ++ [L] ∧ bs.length = done.length ∧ H L = some (.lst (cur.map V.int)) ∧ H0 L = none ∧
    ∀ z : Int, RowsN H0 (upd H L (.lst (cur.map V.int ++ [.int z]))) R ads (done ++ [cur ++ [z]]) := by
  have hl := h.len
  rw [List.length_append, List.length_singleton] at hl
  have hne : ads ≠ [] := fun e => by
    rw [e] at hl
    simp at hl
  have hlast := List.dropLast_concat_getLast hne
  generalize hL : ads.getLast hne = L at hlast
  have hdl : ads.dropLast.length = done.length := by
    rw [List.length_dropLast]
    omega
  have hget : ads[done.length]? = some L := by
    rw [← hlast, List.getElem?_append_right (by omega), hdl, Nat.sub_self]
    rfl
  have hL' : L ∈ ads := List.mem_of_getElem? hget
  have hrow := h.row done.length L cur hget (by rw [List.getElem?_append_right (Nat.le_refl _), Nat.sub_self]; rfl)
  refine ⟨ads.dropLast, L, hlast.symm, hdl, hrow, h.new L hL', fun z => ?_⟩
  refine ⟨?_, ?_, ?_, h.ne, h.new, h.newR, h.nd⟩
  · rw [upd_ne (Ne.symm (h.ne L hL'))]
    exact h.top
  · rw [h.len, List.length_append, List.length_append]
    rfl
  · intro i ad r e1 e2
    by_cases hi : i = done.length
    · subst hi
      rw [hget] at e1
      have e1' := Option.some.inj e1
      subst e1'
      rw [List.getElem?_append_right (Nat.le_refl _), Nat.sub_self] at e2
      have e2' : cur ++ [z] = r := Option.some.inj e2
      subst e2'
      rw [upd_same, List.map_append]
      rfl
    · have hi2 : i < (done ++ [cur ++ [z]]).length := (List.getElem?_eq_some_iff.mp e2).1
      rw [List.length_append, List.length_singleton] at hi2
      rw [List.getElem?_append_left (by omega)] at e2
      have ne : ad ≠ L := fun e => by
        subst e
        exact hi (nd_ix h.nd e1 hget)
      rw [upd_ne ne]
      exact h.row i ad r e1 (by rw [List.getElem?_append_left (by omega)]; exact e2)
section
variable {P : Program} {w : World} {K : PySem.W.Frag} {mg : Str → Option Value} {base : Heap} {C : Addr}
/-! rows_of -/
def spRowsOf (K : PySem.W.Frag) : Sp := fun vs H Q _ => ∃ (a : Addr) (t : List Int), vs = [.ref a] ∧ SqL K H a (t.map V.int) ∧ t.length ≤ 100000 ∧
  ∀ H' R ads, Same H H' → RowsN H H' R ads ((parts t).1 ++ [(parts t).2]) → Q (.ref R) H'
theorem scRowsOf : FnScope ["text", "rows", "byte"] ["text"] (defScope sRowsOf) := ⟨rfl, rfl, rfl, by decide +kernel, rfl, by decide +kernel, by decide +kernel⟩
theorem ok_rowsOf {f : Addr} {fd : FuncData} (F : Fun K "rows_of" "rows_of" sRowsOf f fd) {tk : Tok} (mE : mg "ROW_END" = some (.int 10 tk)) : FnOk P w K mg base CX0 1 f fd ["text"] (spRowsOf K) := by
  refine F.ok scRowsOf (fun vs H Q E h => ?_) (fun cdv A outer s H vs Q E hr h => ?_)
  · obtain ⟨a, t, rfl, _⟩ := h
    rfl
  · obtain ⟨a, t, rfl, hS, hl, q⟩ := h
    refine ⟨_, pss_cons (ps_set (i := 1) scRowsOf.nd rfl (Or.inl rfl) (pe_lst (pa_cons (pe_lst pa_nil) pa_nil)))
      (pss_cons (ps_for PassesOwn.never rfl (pi_list (pv 0)) (pg_name (i := 2) scRowsOf.nd rfl (Or.inl rfl))
        (pss_one (ps_if (pt_cmpR op_eq (pv 2) (pe_glob (v := V.int 10) rfl mE ⟨_, rfl⟩) (nomark _))
          (pss_one (ps_expr (pe_bm PySem.F.plainAttrs_list PySem.F.slot_list_append PySem.F.type_list_append mt_append (pv 1) (pa_cons (pe_lst pa_nil) pa_nil))))
          (pss_one (ps_expr (pe_bm PySem.F.plainAttrs_list PySem.F.slot_list_append PySem.F.type_list_append mt_append (pe_ix ix_list (pv 1) (pe_un un_neg pe_int) (fun _ _ => rfl)) (pa_cons (pv 2) pa_nil)))))))
      (pss_one (ps_ret (pv 1)))), ?_⟩
    refine ⟨Nat.zero_le _, fun p np => ⟨(by show 1 ≤ sizeLine; decide), fun R nR => ?_⟩⟩
    have npR : p ≠ R := fun e => by
      rw [← e, upd_same] at nR
      cases nR
    have nR0 : H R = none := (same_upd np).free nR
    have s0 : Same H (upd (upd H p (.lst [])) R (.lst [.ref p])) := same_put (same_upd np) nR0
    have r0 : RowsN H (upd (upd H p (.lst [])) R (.lst [.ref p])) R [p] [[]] := by
      refine ⟨upd_same, rfl, ?_, ?_, ?_, nR0, by simp⟩
      · intro i ad r e1 e2
        cases i with
        | zero =>
          have e1' : p = ad := Option.some.inj e1
          have e2' : [] = r := Option.some.inj e2
          subst e1' e2'
          rw [upd_ne npR, upd_same]
          rfl
        | succ i => simp at e1
      · intro ad m
        rw [List.mem_singleton.mp m]
        exact npR
      · intro ad m
        rw [List.mem_singleton.mp m]
        exact np
    refine ⟨_, rfl, a, rfl, ⟨_, s0.seq hS⟩, for_list (K := K) (a := a) (xs := t.map V.int) (fun i σ H' => ∃ (v : Option V) (ads : List Addr), σ = [some (.ref a), some (.ref R), v] ∧ Same H H' ∧ RowsN H H' R ads (((t.take i).foldl rowStep ([], [])).1 ++ [((t.take i).foldl rowStep ([], [])).2]))
      ⟨none, [p], rfl, s0, r0⟩ (fun i σ H' _ ⟨_, _, _, s5, _⟩ => s5.seq hS) ?_ ?_⟩
    · rintro i y σ H' hi ⟨v, ads, rfl, s5, r5⟩
      obtain ⟨z, hz, rfl⟩ := map_get hi
      have hit : i < t.length := (List.getElem?_eq_some_iff.mp hz).1
      have step : (t.take (i + 1)).foldl rowStep ([], []) = rowStep ((t.take i).foldl rowStep ([], [])) z := by
        rw [take_more hz, List.foldl_append]
        rfl
      have b1 := parts_len (t.take i)
      have bj := congrArg List.length (parts_join (t.take i))
      rw [List.length_append, List.length_take] at bj
      rw [List.length_take] at b1
      generalize hs : (t.take i).foldl rowStep ([], []) = st at step r5
      have hst : parts (t.take i) = st := hs
      rw [hst] at b1 bj
      obtain ⟨done, cur⟩ := st
      have b1' : done.length ≤ min i t.length := b1
      have b2' : cur.length ≤ min i t.length := by
        have e : (done.flatMap fun r => r ++ [10]).length + cur.length = min i t.length := bj
        omega
      refine ⟨_, rfl, rfl, _, rfl, ?_⟩
      by_cases c : z = 10
      · refine if_true_of (decide_eq_true (by rw [c])) ?_
        have st1 : rowStep (done, cur) z = (done ++ [cur], []) := if_pos c
        rw [st1] at step
        refine ⟨_, rfl, .inl ⟨rfl, _, SqL.of r5.top⟩, Nat.zero_le _, fun p5 np5 => ?_⟩
        have ne : R ≠ p5 := fun e => by
          rw [← e, r5.top] at np5
          cases np5
        refine ⟨R, _, _, rfl, rfl, (upd_ne ne).trans r5.top, ?_, ?_⟩
        · rw [List.length_map, r5.len, List.length_append]
          refine lt_line ?_
          show done.length + 1 < 16777216
          omega
        · refine ⟨some (.int z), ads ++ [p5], rfl, ?_, ?_⟩
          · exact same_put (same_put s5 (s5.free np5)) r5.newR
          · rw [step]
            exact r5.push s5 np5
      · refine if_false_of (decide_eq_false (fun e => c (by injection e))) ?_
        have st1 : rowStep (done, cur) z = (done, cur ++ [z]) := if_neg c
        rw [st1] at step
        obtain ⟨bs, L, hbs, _, hL, hL0, hnext⟩ := r5.app
        have hat : atI (ads.map V.ref) (-1) = some (.ref L) := by
          rw [hbs, List.map_append]
          exact atI_last _ _
        refine ⟨_, rfl, 1, rfl, R, _, _, _, rfl, rfl, SqL.of r5.top, hat, .inl ⟨rfl, _, SqL.of hL⟩, _, rfl, L, _, _, rfl, rfl, hL, ?_, ?_⟩
        · rw [List.length_map]
          refine lt_line ?_
          omega
        · refine ⟨some (.int z), ads, rfl, same_put s5 hL0, ?_⟩
          rw [step]
          exact hnext z
    · rintro σ H' ⟨v, ads, rfl, s5, r5⟩
      rw [List.length_map, List.take_length] at r5
      exact ⟨_, rfl, q H' R ads s5 r5⟩
/-! Chart.__init__ -/
def rListOf (K : PySem.W.Frag) : List V → Hp → VK → Prop := fun xs H Q => ∃ p ys, xs = [.ref p] ∧ (SqL K H p ys ∨ SqT K H p ys) ∧ ∀ l, H l = none → Q (.ref l) (upd H l (.lst ys))
def spChInit (C : Addr) : Sp := fun vs H Q _ => ∃ (p dx ra : Addr) (rows : List (List Int)), vs = [.ref p, .ref ra] ∧ H p = some (.ins C dx []) ∧ RowsAt H ra rows ∧ okRows rows ∧
  ∀ H' : Hp, ChAt C H' p rows → (∀ b o, H b = some o → b ≠ p → H' b = some o) → Q .non H'
theorem scChInit : FnScope ["self", "rows", "row"] ["self", "rows"] (defScope sChInit) := ⟨rfl, rfl, rfl, by decide +kernel, rfl, by decide +kernel, by decide +kernel⟩
theorem chF_new {ra : Addr} {w h : Nat} : putF "high" (.int h) (putF "wide" (.int w) (putF "rows" (.ref ra) [])) = chF ra w h := by
  have e1 : putF "wide" (.int w) [(("rows" : Str), V.ref ra)] = [(("rows" : Str), V.ref ra), (("wide" : Str), V.int w)] := (put_past (by decide +kernel)).trans rfl
  have e2 : putF "high" (.int h) [(("rows" : Str), V.ref ra), (("wide" : Str), V.int w)] = [(("rows" : Str), V.ref ra), (("wide" : Str), V.int w), (("high" : Str), V.int h)] := (put_past (by decide +kernel)).trans (congrArg _ ((put_past (by decide +kernel)).trans rfl))
  show putF "high" (.int h) (putF "wide" (.int w) [(("rows" : Str), V.ref ra)]) = _
  rw [e1]
  exact e2
theorem okRows.rowlen {rows : List (List Int)} (h : okRows rows) {r : List Int} (m : r ∈ rows) : r.length ≤ 512 := by
  rw [(h.2.2.2.2 r m).1]
  exact h.2.1
theorem ok_chInit {f : Addr} {fd : FuncData} (F : Fun K "__init__" "Chart.__init__" sChInit f fd) (T : TxC K mg C) : FnOk P w K mg base CX0 1 f fd ["self", "rows"] (spChInit C) := by
  refine F.ok scChInit (fun vs H Q E h => ?_) (fun cdv A outer s H vs Q E hr h => ?_)
  · obtain ⟨p, dx, ra, rows, rfl, _⟩ := h
    rfl
  · obtain ⟨p, dx, ra, rows, rfl, hp, ⟨ads, hra, hl, hrow, hne⟩, ok, q⟩ := h
    refine ⟨_, pss_cons (ps_fld (pv 0) (pe_lc (own := [("row", 2)]) (g := gName 2) (tt := tYes) (te := tCB (rListOf K) (tCons (tVar 2) tNil)) rfl scChInit.nd (pi_list (pv 1)) (blkOk_by (own := [("row", 2)]) (N := ["self", "rows", "row"]) (sc := defScope sChInit) (by decide +kernel))
        (fun _ _ _ _ _ => pg_name (i := 2) scChInit.nd rfl (Or.inl rfl)) (fun _ _ _ _ _ => pts_nil) (fun _ _ _ _ _ => pe_callTy (T := "list") call_list_of (by rfl) T.mList (by decide +kernel) (pa_cons (pv 2) pa_nil))) rfl)
      (pss_cons (ps_fld (pv 0) (pe_callB call_len_seq (by rfl) T.mLen PySem.boot_len (pa_cons (pe_ix ix_list (pe_fld (pv 0) rfl) pe_int (fun _ _ => rfl)) pa_nil)) rfl)
      (pss_one (ps_fld (pv 0) (pe_callB call_len_seq (by rfl) T.mLen PySem.boot_len (pa_cons (pe_fld (pv 0) rfl) pa_nil)) rfl))), ?_⟩
    refine ⟨_, rfl, ra, rfl, ⟨_, SqL.of hra⟩, fun D nD => ?_⟩
    have rl : rows.length ≤ 512 := ok.2.2.1
    refine lc_list (K := K) (a := ra) (xs := ads.map V.ref) (fun j H' => Same H H' ∧ ∃ bds : List Addr, H' D = some (.lst (bds.map V.ref)) ∧ bds.length = j ∧ (∀ (i : Nat) (ad : Addr) (r : List Int), bds[i]? = some ad → rows[i]? = some r → H' ad = some (.lst (r.map V.int))) ∧ ∀ ad ∈ bds, ad ≠ D ∧ H ad = none)
      ⟨same_upd nD, [], upd_same, rfl, fun i ad r e _ => by simp at e, fun ad m => by cases m⟩ (fun j H' _ h => h.1.seq (SqL.of hra)) (fun j x H' hx h => ?_) fun H' h => ?_
    · obtain ⟨s1, bds, hD, hbl, hbr, hbn⟩ := h
      obtain ⟨ad, had, rfl⟩ := map_get hx
      have hj : j < rows.length := by
        rw [← hl]
        exact (List.getElem?_eq_some_iff.mp had).1
      have had' := hrow j ad rows[j] had (List.getElem?_eq_getElem hj)
      refine ⟨wipe_back _ _ _, ?_⟩
      unfold tYes
      dsimp only
      rw [if_pos rfl]
      refine ⟨_, rfl, ad, _, rfl, .inl (SqL.of (s1 _ _ had')), fun l nl => ?_⟩
      have nlD : l ≠ D := fun e => by
        rw [e, hD] at nl
        cases nl
      have nl0 : H l = none := s1.free nl
      refine ⟨_, (upd_ne (Ne.symm nlD)).trans hD, ?_, ?_, bds ++ [l], ?_, ?_, ?_, ?_⟩
      · rw [List.length_map]
        refine lt_line ?_
        omega
      · exact same_put (same_put s1 nl0) nD
      · rw [upd_same, List.map_append]
        rfl
      · rw [List.length_append, hbl]
        rfl
      · intro i ad2 r e1 e2
        by_cases hi : i < bds.length
        · rw [List.getElem?_append_left hi] at e1
          have m := List.mem_of_getElem? e1
          rw [upd_ne (hbn ad2 m).1, upd_ne]
          · exact hbr i ad2 r e1 e2
          · intro e
            rw [e] at e1
            have := hbr i l r e1 e2
            rw [nl] at this
            cases this
        · have hi2 : i < (bds ++ [l]).length := (List.getElem?_eq_some_iff.mp e1).1
          rw [List.length_append, List.length_singleton] at hi2
          have e : i = bds.length := by omega
          subst e
          rw [List.getElem?_append_right (Nat.le_refl _), Nat.sub_self] at e1
          have e1' : l = ad2 := Option.some.inj e1
          subst e1'
          rw [upd_ne nlD, upd_same]
          rw [hbl, List.getElem?_eq_getElem hj] at e2
          rw [Option.some.inj e2]
      · intro ad2 m
        rcases List.mem_append.mp m with m | m
        · exact hbn ad2 m
        · rw [List.mem_singleton.mp m]
          exact ⟨nlD, nl0⟩
    · obtain ⟨s1, bds, hD, hbl, hbr, hbn⟩ := h
      rw [List.length_map, hl] at hbl
      have hDp : D ≠ p := fun e => by
        rw [e, hp] at nD
        cases nD
      have hbp : ∀ ad ∈ bds, ad ≠ p := fun ad m e => by
        have := (hbn ad m).2
        rw [e, hp] at this
        cases this
      have h0 := ok.h0
      obtain ⟨b0, hb0⟩ : ∃ b0, bds[0]? = some b0 := ⟨_, List.getElem?_eq_getElem (by omega)⟩
      have e0 : rows[0]? = some rows[0] := List.getElem?_eq_getElem h0
      have hw : wideOf rows = rows[0].length := by
        unfold wideOf
        cases rows with
        | nil => exact absurd h0 (by decide)
        | cons a l => rfl
      -- self.rows = D
      refine ⟨_, rfl, p, C, dx, [], rfl, s1 _ _ hp, T.cl, T.nR, (by show 0 < 1000; decide), ?_⟩
      -- self.wide = len(self.rows[0])
      refine ⟨_, rfl, p, C, dx, _, _, rfl, upd_same, T.cl, T.nR, lk_here, D, _, 0, .ref b0, rfl, rfl, SqL.of ((upd_ne hDp).trans hD), at_of rfl (by rw [List.getElem?_map, hb0]; rfl), ?_⟩
      refine ⟨b0, _, rfl, .inl (SqL.of ((upd_ne (hbp b0 (List.mem_of_getElem? hb0))).trans (hbr 0 b0 rows[0] hb0 e0))), ?_⟩
      refine ⟨_, rfl, p, C, dx, _, rfl, upd_same, T.cl, T.nW, (by show 1 < 1000; decide), ?_⟩
      -- self.high = len(self.rows)
      refine ⟨_, rfl, p, C, dx, _, _, rfl, upd_same, T.cl, T.nR, lk_here, D, _, rfl, .inl (SqL.of ((upd_ne hDp).trans ((upd_ne hDp).trans hD))), ?_⟩
      refine ⟨_, rfl, p, C, dx, _, rfl, upd_same, T.cl, T.nH, (by show 2 < 1000; decide), ?_⟩
      refine q _ ⟨dx, D, ?_, bds, ?_, hbl, ?_, fun ad m => (hbn ad m).1⟩ ?_
      · rw [upd_same, hw]
        rw [List.length_map, List.length_map, hbl]
        refine congrArg (fun z => some (HO.ins C dx z)) ?_
        exact chF_new
      · rw [upd_ne hDp, upd_ne hDp, upd_ne hDp]
        exact hD
      · intro i ad r e1 e2
        have m := hbp ad (List.mem_of_getElem? e1)
        rw [upd_ne m, upd_ne m, upd_ne m]
        exact hbr i ad r e1 e2
      · intro b o e hb
        rw [upd_ne hb, upd_ne hb, upd_ne hb]
        exact s1 _ _ e
end
end Kn
set_option Elab.async false
set_option linter.all false
set_option maxRecDepth 100000
set_option maxHeartbeats 4000000
/-! ### charts: the refusal, read_chart -/
namespace Kn
open PySem PySem.Spec PyProof.Rows L2
/-- what the top has written of the class NoChart -/
structure TxN (K : PySem.W.Frag) (mg : Str → Option Value) (CN : Addr) : Prop where
  ex : OexC K CN
  xf : XfC K CN
  gN : mg "NoChart" = some (.ref CN)
  nN : PySem.W.findIn K (.ref CN) "number" = some none
  te : PySem.W.exmOne K (.ref CN) (.ref CN) = some true
  mVE : mg "ValueError" = none
  vV : PySem.W.findCls K (.type "ValueError") (.type "type") "__init__" = some (.val (.builtin "ValueError.__init__"))
/-- its __init__, as a raise uses it -/
structure DefN (P : Program) (w : World) (K : PySem.W.Frag) (mg : Str → Option Value) (base : Heap) (k : Nat) (CN : Addr) (sp : Sp) : Prop where
  ex : ∃ (f : Addr) (fd : FuncData), PySem.W.findIn K (.ref CN) "__init__" = some (some (.ref f)) ∧ PySem.W.typeIn K (.ref f) = some (.type "function") ∧ Binds K fd ["self", "number"] [] ∧ FnOk P w K mg base CX0 k f fd ["self", "number"] sp
/-- the constants of charts -/
structure TxK (mg : Str → Option Value) : Prop where
  mBytes : ∃ tk, mg "MOST_BYTES" = some (.int 66048 tk)
  mWide : ∃ tk, mg "MOST_WIDE" = some (.int 512 tk)
  mHigh : ∃ tk, mg "MOST_HIGH" = some (.int 512 tk)
  mKnots : ∃ tk, mg "MOST_KNOTS" = some (.int 65536 tk)
  mLong : ∃ tk, mg "TOO_LONG" = some (.int (-2) tk)
  mNo : ∃ tk, mg "NO_CHART" = some (.int (-6) tk)
def noF (n : Int) : List (Str × V) := [(("number" : Str), .int n)]
section
variable {P : Program} {w : World} {K : PySem.W.Frag} {mg : Str → Option Value} {base : Heap} {C CN : Addr}
def spNoInit (CN : Addr) : Sp := fun vs H Q _ => ∃ (a : Addr) (n : Int), vs = [.ref a, .int n] ∧ H a = some (exo a CN none) ∧
  ∀ dx, H dx = none → dx ≠ a → Q .non (upd (upd H dx (exd dx (noF n))) a (exo a CN (some dx)))
theorem scNoInit : FnScope ["self", "number"] ["self", "number"] (defScope sNoInit) := ⟨rfl, rfl, rfl, by decide +kernel, rfl, by decide +kernel, by decide +kernel⟩
theorem ok_noInit {f : Addr} {fd : FuncData} (F : Fun K "__init__" "NoChart.__init__" sNoInit f fd) (T : TxN K mg CN) : FnOk P w K mg base CX0 1 f fd ["self", "number"] (spNoInit CN) := by
  refine F.ok scNoInit (fun vs H Q E h => ?_) (fun cdv A outer s H vs Q E hr h => ?_)
  · obtain ⟨a, n, rfl, _⟩ := h
    rfl
  · obtain ⟨a, n, rfl, ha, q⟩ := h
    refine ⟨_, pss_cons (ps_expr (pe_veinit (by rfl) T.mVE T.vV (pa_cons (pv 0) (pa_cons pe_str pa_nil)))) (pss_one (ps_ost (pv 0) (pv 1))), ?_⟩
    refine ⟨_, rfl, a, CN, _, rfl, (by show 1 ≤ 1000; decide), T.ex, ha, ?_⟩
    exact ⟨_, rfl, _, rfl, a, CN, rfl, T.ex, T.nN, .inl ⟨ha, q⟩⟩
/-- raise NoChart(n): its reading -/
theorem raise_no {n : Int} {σ : L2.St} {H : Hp} {Q : XK} (h : ∀ H' d, Same H H' → H' d = some (.xd (noF n)) → Q (.ref CN) (some d) H') : tMkO CN (spNoInit CN) [] (tCons (tC (V.int n)) tNil) σ H Q := by
  refine ⟨(by show 1 ≤ 1000; decide), fun a na => ⟨a, n, rfl, upd_same, fun dx ndx ne => ⟨rfl, dx, noF n, upd_same, ?_, ?_, ?_⟩⟩⟩
  · rw [upd_ne ne, upd_same]
  · rw [upd_ne ne] at ndx
    exact ndx
  · rw [upd_ne ne] at ndx
    refine h _ dx (fun b o e => ?_) upd_same
    have b1 : b ≠ dx := ne_of_none e ndx
    have b2 : b ≠ a := ne_of_none e na
    rw [upd_ne b1, del_ne b2, upd_ne b2, upd_ne b1, upd_ne b2]
    exact e
/-! read_chart -/
def spRead (K : PySem.W.Frag) (C CN : Addr) : Sp := fun vs H Q E => ∃ (a : Addr) (t : List Int), vs = [.ref a] ∧ SqL K H a (t.map V.int) ∧ t.length ≤ 100000 ∧
  (∀ n, readC t = .inl n → ∀ H' d, Same H H' → H' d = some (.xd (noF n)) → E (.ref CN) (some d) H') ∧ (∀ rows, readC t = .inr rows → ∀ H' p, Same H H' → ChAt C H' p rows → Q (.ref p) H')
theorem scRead : FnScope ["text", "rows", "behind", "wide", "row"] ["text"] (defScope sRead) := ⟨rfl, rfl, rfl, by decide +kernel, rfl, by decide +kernel, by decide +kernel⟩
theorem ok_read {f : Addr} {fd : FuncData} (F : Fun K "read_chart" "read_chart" sRead f fd) (T : TxC K mg C) (N : TxN K mg CN) (Z : TxK mg) (DN : DefN P w K mg base 1 CN (spNoInit CN)) (DR : Def P w K mg base CX0 1 "rows_of" ["text"] (spRowsOf K))
    (DI : Def P w K mg base CX0 2 "is_right_row" ["row", "wide"] (spRight K)) (DC : DefC P w K mg base CX0 1 C "Chart" ["self", "rows"] (spChInit C)) : FnOk P w K mg base (L2.CX P w) 3 f fd ["text"] (spRead K C CN) := by
  obtain ⟨fn, fdn, iN, tN, bN, GN⟩ := DN.ex
  obtain ⟨fr, fdr, gr, kr, br, GR⟩ := DR.ex
  obtain ⟨fi, fdi, gi, ki, bi, GI⟩ := DI.ex
  obtain ⟨fc, fdc, gc, MC, bc, GC⟩ := DC.ex
  obtain ⟨tk1, z1⟩ := Z.mBytes
  obtain ⟨tk2, z2⟩ := Z.mWide
  obtain ⟨tk3, z3⟩ := Z.mHigh
  obtain ⟨tk4, z4⟩ := Z.mKnots
  obtain ⟨tk5, z5⟩ := Z.mLong
  obtain ⟨tk6, z6⟩ := Z.mNo
  refine F.okX scRead (fun vs H Q E h => ?_) (fun cdv A outer s H vs Q E hr h => ?_)
  · obtain ⟨a, t, rfl, _⟩ := h
    rfl
  · have hr1 : Room 1 _ := hr.mono (by decide)
    obtain ⟨a, t, rfl, hS, hl, qE, qQ⟩ := h
    refine ⟨_, pss_cons (ps_if (pt_cmpR op_gt (pe_callB call_len_seq (by rfl) T.mLen PySem.boot_len (pa_cons (pv 0) pa_nil)) (pe_glob (v := V.int 66048) rfl z1 ⟨_, rfl⟩) (nomark _))
        (pss_one (ps_raise rfl (takes_of rfl rfl rfl rfl) (pmk_oex N.ex iN tN GN hr bN .nil pass0 rfl N.gN (by exact (pa_cons (pe_glob (v := V.int (-2)) rfl z5 ⟨_, rfl⟩) pa_nil))))) pss_nil)
      (pss_cons (ps_set (i := 1) scRead.nd rfl (Or.inl rfl) (pe_call GR hr1 rfl gr kr br .nil pass0 (pa_cons (pv 0) pa_nil)))
      (pss_cons (ps_set (i := 2) scRead.nd rfl (Or.inl rfl) (pe_bm0 PySem.F.plainAttrs_list PySem.F.slot_list_pop PySem.F.type_list_pop mt_pop (pv 1)))
      (pss_cons (ps_if (PW.pt (pw_or (pt_cmpR (op_neD hr.units) (pv 2) (pe_lst pa_nil) (nomark _)) (pw_or1 (pt_cmpR (op_eqD hr.units) (pv 1) (pe_lst pa_nil) (nomark _)))))
        (pss_one (ps_raise rfl (takes_of rfl rfl rfl rfl) (pmk_oex N.ex iN tN GN hr bN .nil pass0 rfl N.gN (by exact (pa_cons (pe_glob (v := V.int (-6)) rfl z6 ⟨_, rfl⟩) pa_nil))))) pss_nil)
      (pss_cons (ps_set (i := 3) scRead.nd rfl (Or.inr rfl) (pe_callB call_len_seq (by rfl) T.mLen PySem.boot_len (pa_cons (pe_ix ix_list (pv 1) pe_int (fun _ _ => rfl)) pa_nil)))
      (pss_cons (ps_if (PW.pt (pw_or (pt_not (pt_chain op_le op_le pe_int (pv 3) (pe_glob (v := V.int 512) rfl z2 ⟨_, rfl⟩))) (pw_or (pt_cmpR op_gt (pe_callB call_len_seq (by rfl) T.mLen PySem.boot_len (pa_cons (pv 1) pa_nil)) (pe_glob (v := V.int 512) rfl z3 ⟨_, rfl⟩) (nomark _))
          (pw_or1 (pt_cmpR op_gt (pe_op op_mul (pv 3) (pe_callB call_len_seq (by rfl) T.mLen PySem.boot_len (pa_cons (pv 1) pa_nil))) (pe_glob (v := V.int 65536) rfl z4 ⟨_, rfl⟩) (nomark _))))))
        (pss_one (ps_raise rfl (takes_of rfl rfl rfl rfl) (pmk_oex N.ex iN tN GN hr bN .nil pass0 rfl N.gN (by exact (pa_cons (pe_glob (v := V.int (-6)) rfl z6 ⟨_, rfl⟩) pa_nil))))) pss_nil)
      (pss_cons (ps_if (pt_not (pt_val (pe_callB (cr_all rfl) (by rfl) T.mAll (by decide +kernel) (pa_cons (pe_lc (own := [("row", 4)]) (g := gName 4) (tt := tYes) rfl scRead.nd (pi_list (pv 1)) (blkOk_by (own := [("row", 4)]) (N := ["text", "rows", "behind", "wide", "row"]) (sc := defScope sRead) (by decide +kernel))
          (fun _ _ _ _ _ => pg_name (i := 4) scRead.nd rfl (Or.inl rfl)) (fun _ _ _ _ _ => pts_nil) (fun _ _ _ _ _ => pe_call GI hr rfl gi ki bi .nil pass0 (pa_cons (pv 4) (pa_cons (pv 3) pa_nil)))) pa_nil))))
        (pss_one (ps_raise rfl (takes_of rfl rfl rfl rfl) (pmk_oex N.ex iN tN GN hr bN .nil pass0 rfl N.gN (by exact (pa_cons (pe_glob (v := V.int (-6)) rfl z6 ⟨_, rfl⟩) pa_nil))))) pss_nil)
      (pss_one (ps_ret (pe_make MC GC hr rfl gc bc .nil pass0 (pa_cons (pv 1) pa_nil)))))))))), ?_⟩
    have lenV : (t.map V.int).length = t.length := List.length_map ..
    refine ⟨_, rfl, a, _, rfl, .inl hS, _, _, rfl, rfl, _, rfl, if_two (fun e => ?_) fun e => ?_⟩
    · -- too long
      rw [decide_eq_true_eq, lenV] at e
      have e' : readC t = .inl (-2) := if_pos (by omega)
      exact raise_no fun H' d s1 h1 => qE _ e' H' d s1 h1
    rw [decide_eq_false_iff_not, lenV] at e
    have notLong : ¬ t.length > 66048 := by omega
    have rd : readC t = if (parts t).2 = [] ∧ okRows (parts t).1 then .inr (parts t).1 else .inl (-6) := if_neg notLong
    -- rows = rows_of(text)
    refine ⟨_, rfl, a, t, rfl, hS, hl, fun H1 R ads s1 r1 => ?_⟩
    -- behind = rows.pop()
    obtain ⟨bs, L', hbs, hbl, hL, hL0, _⟩ := r1.app
    subst hbs
    have hlk : ((bs ++ [L']).map V.ref)[((bs ++ [L']).map V.ref).length - 1]? = some (.ref L') := by
      rw [List.length_map, List.length_append, List.length_singleton, Nat.add_sub_cancel, List.getElem?_map, List.getElem?_append_right (Nat.le_refl _), Nat.sub_self]
      rfl
    have hdrop : ((bs ++ [L']).map V.ref).dropLast = bs.map V.ref := by
      rw [List.map_append]
      exact List.dropLast_concat
    refine ⟨_, rfl, .inl ⟨rfl, _, SqL.of r1.top⟩, R, _, _, rfl, rfl, r1.top, hlk, ?_⟩
    rw [hdrop]
    have hLR : L' ≠ R := r1.ne L' (List.mem_append_right _ List.mem_cons_self)
    have s2 : Same H (upd H1 R (.lst (bs.map V.ref))) := same_put s1 r1.newR
    have hmem : ∀ ad ∈ bs, ad ∈ bs ++ [L'] := fun ad m => List.mem_append_left _ m
    have rows2 : RowsAt (upd H1 R (.lst (bs.map V.ref))) R (parts t).1 := by
      refine ⟨bs, upd_same, hbl, ?_, fun ad m => r1.ne ad (hmem ad m)⟩
      intro i ad r e1 e2
      have hi : i < (parts t).1.length := (List.getElem?_eq_some_iff.mp e2).1
      have m := List.mem_of_getElem? e1
      rw [upd_ne (r1.ne ad (hmem ad m))]
      refine r1.row i ad r ?_ ?_
      · rw [List.getElem?_append_left (by omega)]
        exact e1
      · rw [List.getElem?_append_left hi]
        exact e2
    have hL2 : (upd H1 R (.lst (bs.map V.ref))) L' = some (.lst ((parts t).2.map V.int)) := by
      rw [upd_ne hLR]
      exact hL
    generalize upd H1 R (.lst (bs.map V.ref)) = H2 at s2 rows2 hL2
    -- the refusal -6
    have no6 : ∀ H3 : Hp, Same H2 H3 → ¬ ((parts t).2 = [] ∧ okRows (parts t).1) → ∀ H' d, Same H3 H' → H' d = some (.xd (noF (-6))) → E (.ref CN) (some d) H' := fun H3 s3 no H' d s4 h4 => by
      refine qE (-6) ?_ H' d ((s2.trans s3).trans s4) h4
      rw [rd, if_neg no]
    -- behind != [] or rows == []
    refine ⟨_, rfl, Nat.zero_le _, fun p np => ⟨dInts (parts t).2, .list [], dp_ints (SqL.of (same_upd np _ _ hL2)), dp_empty upd_same, ?_, rfl, _, rfl, if_two (fun e => ?_) fun e => ?_⟩⟩
    · exact shaped_list PyData.int _ (fun _ _ => rfl) (fun _ _ => by simp [PyData.depth])
    · refine if_true_of rfl ?_
      have no : ¬ (parts t).2 = [] := fun z => by
        rw [show PyData.eqv (dInts (parts t).2) (.list []) = _ from eqv_empty _, z] at e
        exact absurd e (by decide)
      exact raise_no fun H' d s4 h4 => no6 _ (same_upd np) (fun z => no z.1) H' d s4 h4
    have beh : (parts t).2 = [] := by
      rw [show PyData.eqv (dInts (parts t).2) (.list []) = _ from eqv_empty _] at e
      cases z : (parts t).2 with
      | nil => rfl
      | cons x l =>
        rw [z] at e
        exact absurd (show true = false from e) (by decide)
    have s3 : Same H2 (upd H2 p (.lst [])) := same_upd np
    have rows3 := rows2.same s3
    generalize upd H2 p (.lst []) = H3 at s3 rows3
    obtain ⟨ads3, top3, len3, row3, ne3⟩ := rows3
    refine ⟨_, rfl, Nat.zero_le _, fun p np => ⟨.list ((parts t).1.map dInts), .list [], ?_, dp_empty upd_same, ?_, rfl, _, rfl, if_two (fun e => ?_) fun e => ?_⟩⟩
    · refine .lst (SqL.of (same_upd np _ _ top3)) ?_
      have key : ∀ (as : List Addr) (rs : List (List Int)), as.length = rs.length → (∀ (i : Nat) (ad : Addr) (r : List Int), as[i]? = some ad → rs[i]? = some r → (upd H3 p (.lst [])) ad = some (.lst (r.map V.int))) → DpAll K (upd H3 p (.lst [])) (as.map V.ref) (rs.map dInts) := by
        intro as
        induction as with
        | nil =>
          intro rs hh _
          cases rs with
          | nil => exact .nil
          | cons _ _ => cases hh
        | cons x as ih =>
          intro rs hh hx
          cases rs with
          | nil => cases hh
          | cons r rs => exact .cons (dp_ints (SqL.of (hx 0 x r rfl rfl))) (ih rs (by simpa using hh) fun i ad r' e1 e2 => hx (i + 1) ad r' (by simpa using e1) (by simpa using e2))
      exact key ads3 _ len3 fun i ad r e1 e2 => same_upd np _ _ (row3 i ad r e1 e2)
    · exact shaped_list dInts _ (fun r _ => (dInts_lay r).1) (fun r _ => (dInts_lay r).2)
    · have no : ¬ okRows (parts t).1 := fun z => by
        have h0 := z.h0
        rw [eqv_empty, List.isEmpty_map, List.isEmpty_iff] at e
        rw [e] at h0
        exact absurd h0 (by decide)
      exact raise_no fun H' d s4 h4 => no6 _ (s3.trans (same_upd np)) (fun z => no z.2) H' d s4 h4
    have ne0 : (parts t).1 ≠ [] := fun z => by
      rw [eqv_empty, z] at e
      exact absurd e (by decide)
    have s4 : Same H2 (upd H3 p (.lst [])) := s3.trans (same_upd np)
    have top4 := same_upd np (o := .lst []) _ _ top3
    have row4 : ∀ (i : Nat) (ad : Addr) (r : List Int), ads3[i]? = some ad → (parts t).1[i]? = some r → (upd H3 p (.lst [])) ad = some (.lst (r.map V.int)) := fun i ad r e1 e2 => same_upd np _ _ (row3 i ad r e1 e2)
    generalize upd H3 p (.lst []) = H4 at s4 top4 row4
    generalize hrows : (parts t).1 = rows at *
    -- wide = len(rows[0])
    have h0 : 0 < rows.length := List.length_pos_iff.mpr ne0
    have hw : wideOf rows = rows[0].length := by
      unfold wideOf
      cases rows with
      | nil => exact absurd h0 (by decide)
      | cons a l => rfl
    obtain ⟨b0, hb0⟩ : ∃ b0, ads3[0]? = some b0 := ⟨_, List.getElem?_eq_getElem (by omega)⟩
    have hrow0 := row4 0 b0 rows[0] hb0 (List.getElem?_eq_getElem h0)
    refine ⟨_, rfl, R, _, 0, .ref b0, rfl, rfl, SqL.of top4, at_of rfl (by rw [List.getElem?_map, hb0]; rfl), b0, _, rfl, .inl (SqL.of hrow0), ?_⟩
    have lw : ((rows[0].map V.int).length : Int) = (wideOf rows : Int) := by rw [List.length_map, hw]
    have lr : ((ads3.map V.ref).length : Int) = (rows.length : Int) := by rw [List.length_map, len3]
    rw [lw]
    have wl : wideOf rows ≤ 100000 := by
      rw [hw]
      have m : rows[0] ∈ (parts t).1 := by
        rw [hrows]
        exact List.getElem_mem h0
      have := parts_row_len m
      omega
    -- the sizes
    have wle : wideOf rows ≤ 100000 := wl
    have lenr : rows.length ≤ 100000 := by
      have := parts_len t
      rw [hrows] at this
      omega
    refine ch_le (i := 3) rfl ⟨_, rfl, if_two (fun e => ?_) fun e => ?_⟩
    · refine if_true_of rfl ?_
      refine raise_no fun H' d s5 h5 => no6 H4 s4 (fun z => ?_) H' d s5 h5
      obtain ⟨_, z1, z2, _⟩ := z
      rw [decide_eq_true (show (1 : Int) ≤ wideOf rows by omega), decide_eq_true (show (wideOf rows : Int) ≤ 512 by omega)] at e
      exact absurd e (by decide)
    have w12 : 1 ≤ wideOf rows ∧ wideOf rows ≤ 512 := by
      rw [Bool.not_eq_false', Bool.and_eq_true, decide_eq_true_eq, decide_eq_true_eq] at e
      omega
    refine ⟨_, rfl, R, _, rfl, .inl (SqL.of top4), _, _, rfl, rfl, _, rfl, if_two (fun e => ?_) fun e => ?_⟩
    · refine if_true_of rfl ?_
      refine raise_no fun H' d s5 h5 => no6 H4 s4 (fun z => ?_) H' d s5 h5
      rw [decide_eq_true_eq, lr] at e
      have := z.2.2.2.1
      omega
    have h512 : rows.length ≤ 512 := by
      rw [decide_eq_false_iff_not, lr] at e
      omega
    refine ⟨_, rfl, _, rfl, R, _, rfl, .inl (SqL.of top4), _, _, rfl, rfl, .inl ⟨by omega, by omega⟩, _, _, rfl, rfl, _, rfl, if_two (fun e => ?_) fun e => ?_⟩
    · refine raise_no fun H' d s5 h5 => no6 H4 s4 (fun z => ?_) H' d s5 h5
      rw [decide_eq_true_eq, lr] at e
      have := z.2.2.2.2.1
      have e2 : ((wideOf rows * rows.length : Nat) : Int) = (wideOf rows : Int) * (rows.length : Int) := Int.natCast_mul _ _
      omega
    have hk : wideOf rows * rows.length ≤ 65536 := by
      rw [decide_eq_false_iff_not, lr] at e
      have e2 : ((wideOf rows * rows.length : Nat) : Int) = (wideOf rows : Int) * (rows.length : Int) := Int.natCast_mul _ _
      omega
    -- the rows
    refine ⟨_, rfl, R, rfl, ⟨_, SqL.of top4⟩, fun p np => ?_⟩
    refine lc_map np (SqL.of top4) (by rw [List.length_map]; omega) ((rows.map fun r => decide (r.length = wideOf rows) && r.all isCol).map V.bl) (by rw [List.length_map, List.length_map, List.length_map, len3]) (fun j x y H' hx hy s5 Q' hQ => ?_) fun H5 s5 hp => ?_
    · obtain ⟨ad, had, rfl⟩ := map_get hx
      rw [List.map_map] at hy
      obtain ⟨r, hr2, rfl⟩ := map_get hy
      refine ⟨_, rfl, _, rfl, ad, r, wideOf rows, rfl, SqL.of (s5 _ _ (row4 j ad r had hr2)), ?_, fun H6 s6 => hQ H6 s6⟩
      have m : r ∈ (parts t).1 := by
        rw [hrows]
        exact List.mem_of_getElem? hr2
      have := parts_row_len m
      omega
    refine ⟨p, _, rfl, SqL.of hp, _, rfl, if_two (fun e => ?_) fun e => ?_⟩
    · refine raise_no fun H' d s6 h6 => no6 H5 (s4.trans s5) (fun z => ?_) H' d s6 h6
      rw [Bool.not_eq_true', ← Bool.not_eq_true, List.all_map, List.all_eq_true] at e
      refine e fun r m => ?_
      have := z.2.2.2.2.2 r m
      show (decide (r.length = wideOf rows) && r.all isCol) = true
      rw [decide_eq_true this.1, Bool.true_and, List.all_eq_true]
      exact this.2
    have ok : okRows rows := by
      refine ⟨w12.1, w12.2, h512, hk, fun r m => ?_⟩
      rw [Bool.not_eq_false', List.all_map, List.all_eq_true] at e
      have := e r m
      have this : (decide (r.length = wideOf rows) && r.all isCol) = true := this
      rw [Bool.and_eq_true, decide_eq_true_eq, List.all_eq_true] at this
      exact this
    -- Chart(rows)
    have s6 : Same H2 H5 := s4.trans s5
    refine ⟨_, rfl, fun x dx nx ndx ne => ⟨x, dx, R, rows, rfl, upd_same, ?_, ok, fun H' J kp => ⟨rfl, qQ rows ?_ H' x ((s2.trans s6).trans (Same.made nx ndx kp)) J⟩⟩⟩
    · have r5 : RowsAt H5 R rows := RowsAt.same ⟨ads3, top4, len3, row4, ne3⟩ s5
      exact (r5.same (same_upd ndx)).same (same_upd (by rw [upd_ne (Ne.symm ne)]; exact nx))
    · rw [rd, if_pos ⟨beh, ok⟩]
end
end Kn
set_option Elab.async false
set_option linter.all false
set_option maxRecDepth 100000
set_option maxHeartbeats 4000000
/-! ### motions: turned, agrees, is_step -/
namespace Kn
open PySem PySem.Spec PyProof.Rows L2
abbrev sTurned : Stmt := topS 16
abbrev sAgrees : Stmt := topS 19
abbrev sStep : Stmt := topS 20
def tEl (m : Nat) : List V := [.int (tE m).1, .int (tE m).2.1, .int (tE m).2.2.1, .int (tE m).2.2.2]
/-- the constant TURNS, and the built-in names that motions uses -/
structure TxT (K : PySem.W.Frag) (mg : Str → Option Value) : Prop where
  turns : ∃ (aT : Addr) (as : List Addr), mg "TURNS" = some (.ref aT) ∧ as.length = 8 ∧ (∀ H : Hp, SqT K H aT (as.map V.ref)) ∧ ∀ m : Nat, m < 8 → ∃ ad, as[m]? = some ad ∧ ∀ H : Hp, SqT K H ad (tEl m)
  mRange : mg "range" = none
theorem tE_small (m : Nat) : (-1 ≤ (tE m).1 ∧ (tE m).1 ≤ 1) ∧ (-1 ≤ (tE m).2.1 ∧ (tE m).2.1 ≤ 1) ∧ (-1 ≤ (tE m).2.2.1 ∧ (tE m).2.2.1 ≤ 1) ∧ (-1 ≤ (tE m).2.2.2 ∧ (tE m).2.2.2 ≤ 1) := by
  unfold tE
  split <;> decide
theorem tE_exch {m : Nat} (h : m < 8) : decide (V.int (tE m).1 = V.int 0) = decide (m % 2 = 1) := by
  rcases m8 h with rfl | rfl | rfl | rfl | rfl | rfl | rfl | rfl <;> rfl
section
variable {P : Program} {w : World} {K : PySem.W.Frag} {mg : Str → Option Value} {base : Heap} {C : Addr}
/-! turned -/
def spTurned : Sp := fun vs H Q _ => ∃ (m : Nat) (x y : Int), vs = [.int m, .int x, .int y] ∧ m < 8 ∧ ∀ p H', Same H H' → H' p = some (.tup [.int (tX m x y), .int (tY m x y)]) → Q (.ref p) H'
theorem scTurned : FnScope ["m", "x", "y", "e", "f", "g", "h"] ["m", "x", "y"] (defScope sTurned) := ⟨rfl, rfl, rfl, by decide +kernel, rfl, by decide +kernel, by decide +kernel⟩
theorem ok_turned {f : Addr} {fd : FuncData} (F : Fun K "turned" "turned" sTurned f fd) (T : TxT K mg) : FnOk P w K mg base CX0 1 f fd ["m", "x", "y"] spTurned := by
  obtain ⟨aT, as, gT, _, hT, hm⟩ := T.turns
  refine F.ok scTurned (fun vs H Q E h => ?_) (fun cdv A outer s H vs Q E hr h => ?_)
  · obtain ⟨m, x, y, rfl, _⟩ := h
    rfl
  · obtain ⟨m, x, y, rfl, m8, q⟩ := h
    refine ⟨_, pss_cons (ps_asg (pe_ix ix_tup (pe_glob (v := V.ref aT) rfl gT rfl) (pv 0) (fun _ _ => rfl)) (pg_tup rfl (pgs_cons (pg_name (i := 3) scTurned.nd rfl (.inl rfl)) (pgs_cons (pg_name (i := 4) scTurned.nd rfl (.inl rfl)) (pgs_cons (pg_name (i := 5) scTurned.nd rfl (.inl rfl)) (pgs_cons (pg_name (i := 6) scTurned.nd rfl (.inl rfl)) pgs_nil))))))
      (pss_one (ps_ret (pe_tup (pa_cons (pe_op op_add (pe_op op_mul (pv 3) (pv 1)) (pe_op op_mul (pv 4) (pv 2))) (pa_cons (pe_op op_add (pe_op op_mul (pv 5) (pv 1)) (pe_op op_mul (pv 6) (pv 2))) pa_nil))))), ?_⟩
    obtain ⟨ad, had, hs⟩ := hm m m8
    obtain ⟨e1, e2, e3, e4⟩ := tE_small m
    refine ⟨_, rfl, aT, _, _, .ref ad, rfl, rfl, hT H, at_of rfl (by rw [List.getElem?_map, had]; rfl), ad, tEl m, rfl, hs H, rfl, _, _, rfl, _, _, rfl, _, _, rfl, _, _, rfl, rfl, ?_⟩
    refine ⟨_, rfl, _, rfl, _, _, rfl, rfl, .inl ⟨by omega, by omega⟩, _, rfl, _, rfl, _, _, rfl, rfl, .inl ⟨by omega, by omega⟩, _, _, rfl, rfl, ?_⟩
    refine ⟨_, rfl, _, rfl, _, _, rfl, rfl, .inl ⟨by omega, by omega⟩, _, rfl, _, rfl, _, _, rfl, rfl, .inl ⟨by omega, by omega⟩, _, _, rfl, rfl, ?_⟩
    exact ⟨(by show 2 ≤ sizeLine; decide), fun p np => q p _ (same_upd np) upd_same⟩
/-! agrees -/
def spAgrees (C : Addr) : Sp := fun vs H Q _ => ∃ (c : Addr) (rows : List (List Int)) (m : Nat) (a b : Int) (W Z : Nat), vs = [.ref c, .int m, .int a, .int b, .int W, .int Z] ∧ ChAt C H c rows ∧ okRows rows ∧ m < 8 ∧ W ≤ 100000 ∧ Z ≤ 100000 ∧
  ∀ H', Same H H' → Q (.bl (agrees (fldI rows) m a b W Z)) H'
theorem scAgrees : FnScope ["chart", "m", "a", "b", "wide", "high", "y", "x", "to_x", "to_y"] ["chart", "m", "a", "b", "wide", "high"] (defScope sAgrees) := ⟨rfl, rfl, rfl, by decide +kernel, rfl, by decide +kernel, by decide +kernel⟩
theorem ok_agrees {f : Addr} {fd : FuncData} (F : Fun K "agrees" "agrees" sAgrees f fd) (T : TxT K mg) (TC : TxC K mg C) (DT : Def P w K mg base CX0 1 "turned" ["m", "x", "y"] spTurned) (DC : DefM P w K mg base CX0 1 C "colour" ["self", "x", "y"] (spColour C)) :
    FnOk P w K mg base CX0 2 f fd ["chart", "m", "a", "b", "wide", "high"] (spAgrees C) := by
  obtain ⟨ft, fdt, gt, kt, bt, GT⟩ := DT.ex
  obtain ⟨fc, fdc, mC, bc, GC⟩ := DC.ex
  refine F.ok scAgrees (fun vs H Q E h => ?_) (fun cdv A outer s H vs Q E hr h => ?_)
  · obtain ⟨c, rows, m, a, b, W, Z, rfl, _⟩ := h
    rfl
  · obtain ⟨c, rows, m, a, b, W, Z, rfl, hc, ok, m8, hW, hZ, q⟩ := h
    refine ⟨_, pss_cons (ps_for PassesOwn.never rfl (pi_range1 (by rfl) T.mRange (pa_cons (pv 5) pa_nil)) (pg_name (i := 6) scAgrees.nd rfl (.inl rfl))
        (pss_one (ps_for PassesOwn.never rfl (pi_range1 (by rfl) T.mRange (pa_cons (pv 4) pa_nil)) (pg_name (i := 7) scAgrees.nd rfl (.inl rfl))
          (pss_cons (ps_asg (pe_call GT hr rfl gt kt bt .nil pass0 (pa_cons (pv 1) (pa_cons (pv 7) (pa_cons (pv 6) pa_nil)))) (pg_tup rfl (pgs_cons (pg_name (i := 8) scAgrees.nd rfl (.inl rfl)) (pgs_cons (pg_name (i := 9) scAgrees.nd rfl (.inl rfl)) pgs_nil))))
          (pss_one (ps_if (pt_cmpR op_ne (pe_meth (pv 0) TC.cl mC GC hr bc .nil pass0 (pa_cons (pe_op op_add (pv 8) (pv 2)) (pa_cons (pe_op op_add (pv 9) (pv 3)) pa_nil))) (pe_meth (pv 0) TC.cl mC GC hr bc .nil pass0 (pa_cons (pv 7) (pa_cons (pv 6) pa_nil))) (nomark _))
            (pss_one (ps_ret pe_bl)) pss_nil))))))
      (pss_one (ps_ret pe_bl)), ?_⟩
    refine ⟨_, rfl, Z, rfl, by omega, by omega, ?_⟩
    refine for_range (lo := 0) (n := (Z : Int).toNat) (fun i σ H' => ∃ v6 v7 v8 v9 : Option V, σ = [some (.ref c), some (.int m), some (.int a), some (.int b), some (.int W), some (.int Z), v6, v7, v8, v9] ∧ Same H H' ∧
      ∀ y : Nat, y < i → ∀ x : Nat, x < W → fldI rows (tX m x y + a) (tY m x y + b) = fldI rows x y) ⟨none, none, none, none, rfl, Same.refl _, fun y hy => absurd hy (Nat.not_lt_zero _)⟩ ?_ ?_
    · rintro i σ H1 hi ⟨v6, v7, v8, v9, rfl, s1, g1⟩
      rw [Int.toNat_natCast] at hi
      refine ⟨_, rfl, W, rfl, by omega, by omega, ?_⟩
      refine for_range (lo := 0) (n := (W : Int).toNat) (fun j σ H' => ∃ v7 v8 v9 : Option V, σ = [some (.ref c), some (.int m), some (.int a), some (.int b), some (.int W), some (.int Z), some (.int (0 + i)), v7, v8, v9] ∧ Same H H' ∧
        ∀ x : Nat, x < j → fldI rows (tX m x i + a) (tY m x i + b) = fldI rows x i) ⟨v7, v8, v9, rfl, s1, fun x hx => absurd hx (Nat.not_lt_zero _)⟩ ?_ ?_
      · rintro j σ H2 hj ⟨v7, v8, v9, rfl, s2, g2⟩
        rw [Int.toNat_natCast] at hj
        have ei : (0 : Int) + i = i := Int.zero_add _
        have ej : (0 : Int) + j = j := Int.zero_add _
        refine ⟨_, rfl, _, rfl, _, rfl, m, 0 + j, 0 + i, rfl, m8, fun p H3 s3 hp => ?_⟩
        refine ⟨p, _, rfl, SqT.of hp, rfl, _, _, rfl, _, _, rfl, rfl, ?_⟩
        obtain ⟨dx, ra, h1, h2⟩ := hc.same (s2.trans s3)
        refine ⟨_, rfl, c, dx, _, rfl, h1, chF_colour, _, rfl, _, rfl, _, _, rfl, rfl, _, rfl, _, rfl, _, _, rfl, rfl, c, rows, _, _, rfl, ⟨dx, ra, h1, h2⟩, ok, ?_⟩
        refine ⟨_, rfl, c, dx, _, rfl, h1, chF_colour, _, rfl, _, rfl, c, rows, _, _, rfl, ⟨dx, ra, h1, h2⟩, ok, rfl, _, rfl, if_two (fun e => ?_) fun e => ?_⟩
        · have := q H3 (s2.trans s3)
          have no : agrees (fldI rows) m a b W Z = false := by
            cases z : agrees (fldI rows) m a b W Z with
            | false => rfl
            | true =>
              have := agrees_iff.mp z j i hj hi
              rw [ei, ej, this] at e
              simp at e
          rw [no] at this
          exact this
        · refine ⟨_, _, _, rfl, s2.trans s3, fun x hx => ?_⟩
          by_cases hxj : x < j
          · exact g2 x hxj
          · have : x = j := by omega
            subst this
            rw [ei, ej] at e
            simpa using e
      · rintro σ H2 ⟨v7, v8, v9, rfl, s2, g2⟩
        rw [Int.toNat_natCast] at g2
        refine ⟨_, v7, v8, v9, rfl, s2, fun y hy x hx => ?_⟩
        by_cases hyi : y < i
        · exact g1 y hyi x hx
        · have : y = i := by omega
          subst this
          exact g2 x hx
    · rintro σ H1 ⟨v6, v7, v8, v9, rfl, s1, g1⟩
      rw [Int.toNat_natCast] at g1
      have := q H1 s1
      rw [agrees_iff.mpr fun x y hx hy => g1 y hy x hx] at this
      exact this
/-! is_step -/
def spStep (C : Addr) : Sp := fun vs H Q _ => ∃ (c : Addr) (rows : List (List Int)) (a b : Int), vs = [.ref c, .int a, .int b] ∧ ChAt C H c rows ∧ okRows rows ∧ ∀ H', Same H H' → Q (.bl (pStep (fldI rows) (wideOf rows) rows.length a b)) H'
theorem scStep : FnScope ["chart", "a", "b"] ["chart", "a", "b"] (defScope sStep) := ⟨rfl, rfl, rfl, by decide +kernel, rfl, by decide +kernel, by decide +kernel⟩
theorem ok_step {f : Addr} {fd : FuncData} (F : Fun K "is_step" "is_step" sStep f fd) (TC : TxC K mg C) (DA : Def P w K mg base CX0 2 "agrees" ["chart", "m", "a", "b", "wide", "high"] (spAgrees C)) : FnOk P w K mg base CX0 3 f fd ["chart", "a", "b"] (spStep C) := by
  obtain ⟨fa, fda, ga, ka, ba, GA⟩ := DA.ex
  refine F.ok scStep (fun vs H Q E h => ?_) (fun cdv A outer s H vs Q E hr h => ?_)
  · obtain ⟨c, rows, a, b, rfl, _⟩ := h
    rfl
  · obtain ⟨c, rows, a, b, rfl, ⟨dx, ra, h1, h2⟩, ok, q⟩ := h
    refine ⟨_, pss_one (ps_ret (pe_call GA hr rfl ga ka ba .nil pass0 (pa_cons (pv 0) (pa_cons pe_int (pa_cons (pv 1) (pa_cons (pv 2) (pa_cons (pe_fld (pv 0) rfl) (pa_cons (pe_fld (pv 0) rfl) pa_nil)))))))), ?_⟩
    have w1 := ok.2.1
    have w2 := ok.2.2.1
    exact ⟨_, rfl, _, rfl, _, rfl, _, rfl, c, C, dx, _, _, rfl, h1, TC.cl, TC.nW, chF_wide, _, rfl, c, C, dx, _, _, rfl, h1, TC.cl, TC.nH, chF_high, c, rows, 0, a, b, wideOf rows, rows.length, rfl, ⟨dx, ra, h1, h2⟩, ok, by decide, by omega, by omega, q⟩
end
end Kn
set_option Elab.async false
set_option linter.all false
set_option maxRecDepth 100000
set_option maxHeartbeats 4000000
/-! ### motions: squares and windows -/
namespace Kn
open PySem PySem.Spec PyProof.Rows L2
abbrev sExch : Stmt := topS 17
abbrev sDiv : Stmt := topS 18
abbrev sSide : Stmt := topS 21
abbrev sSquares : Stmt := topS 22
abbrev sWindow : Stmt := topS 23
section
variable {P : Program} {w : World} {K : PySem.W.Frag} {mg : Str → Option Value} {base : Heap} {C : Addr}
/-! exchanges -/
def spExch : Sp := fun vs H Q _ => ∃ m : Nat, vs = [.int m] ∧ m < 8 ∧ Q (.bl (decide (m % 2 = 1))) H
theorem scExch : FnScope ["m"] ["m"] (defScope sExch) := ⟨rfl, rfl, rfl, by decide +kernel, rfl, by decide +kernel, by decide +kernel⟩
theorem ok_exch {f : Addr} {fd : FuncData} (F : Fun K "exchanges" "exchanges" sExch f fd) (T : TxT K mg) : FnOk P w K mg base CX0 1 f fd ["m"] spExch := by
  obtain ⟨aT, as, gT, _, hT, hm⟩ := T.turns
  refine F.ok scExch (fun vs H Q E h => ?_) (fun cdv A outer s H vs Q E hr h => ?_)
  · obtain ⟨m, rfl, _⟩ := h
    rfl
  · obtain ⟨m, rfl, m8, q⟩ := h
    refine ⟨_, pss_one (ps_ret (pe_cmpR op_eq (pe_ix ix_tup (pe_ix ix_tup (pe_glob (v := V.ref aT) rfl gT rfl) (pv 0) (fun _ _ => rfl)) pe_int (fun _ _ => rfl)) pe_int (nomark _))), ?_⟩
    obtain ⟨ad, had, hs⟩ := hm m m8
    refine ⟨_, rfl, aT, _, _, .ref ad, rfl, rfl, hT H, at_of rfl (by rw [List.getElem?_map, had]; rfl), ad, tEl m, 0, .int (tE m).1, rfl, rfl, hs H, at_of rfl rfl, rfl, ?_⟩
    rw [tE_exch m8]
    exact q
/-! divisor -/
def spDiv : Sp := fun vs H Q _ => ∃ a b : Nat, vs = [.int a, .int b] ∧ Q (.int (Nat.gcd a b)) H
theorem scDiv : FnScope ["one", "other"] ["one", "other"] (defScope sDiv) := ⟨rfl, rfl, rfl, by decide +kernel, rfl, by decide +kernel, by decide +kernel⟩
def muDiv : L2.St → Hp → Nat := fun σ _ => match σ with
  | [_, some (.int b)] => b.toNat
  | _ => 0
theorem gcd_turn (a b : Nat) : Nat.gcd b (a % b) = Nat.gcd a b := by
  rw [Nat.gcd_comm b (a % b), ← Nat.gcd_rec, Nat.gcd_comm]
theorem ok_div {f : Addr} {fd : FuncData} (F : Fun K "divisor" "divisor" sDiv f fd) : FnOk P w K mg base CX0 1 f fd ["one", "other"] spDiv := by
  refine F.ok scDiv (fun vs H Q E h => ?_) (fun cdv A outer s H vs Q E hr h => ?_)
  · obtain ⟨a, b, rfl, _⟩ := h
    rfl
  · obtain ⟨a, b, rfl, q⟩ := h
    refine ⟨_, pss_cons (ps_while PassesOwn.never (pt_cmpR op_gt (pv 1) pe_int (nomark _))
        (pss_one (ps_par (i := 0) (j := 1) (by rfl) scDiv.nd rfl rfl (by decide) rfl rfl (pa_cons (pv 1) (pa_cons (pe_op op_mod (pv 0) (pv 1)) pa_nil)) (by rfl))))
      (pss_one (ps_ret (pv 0))), ?_⟩
    refine while_by (fun σ H' => ∃ x y : Nat, σ = [some (.int x), some (.int y)] ∧ Nat.gcd x y = Nat.gcd a b ∧ H' = H) muDiv ⟨a, b, rfl, rfl, rfl⟩ ?_ ?_
    · rintro σ H' ⟨x, y, rfl, g, rfl⟩
      refine ⟨_, rfl, _, _, rfl, rfl, _, rfl, if_two (fun e => ?_) fun e => ?_⟩
      · rw [decide_eq_true_eq] at e
        refine ⟨_, rfl, _, rfl, _, rfl, _, _, rfl, rfl, e, _, _, rfl, ?_⟩
        have y0 : 0 < y := by omega
        refine ⟨⟨y, x % y, ?_, (gcd_turn x y).trans g, rfl⟩, ?_⟩
        · rw [Int.natCast_emod]
          rfl
        · show ((x : Int) % (y : Int)).toNat < ((y : Int)).toNat
          rw [← Int.natCast_emod, Int.toNat_natCast, Int.toNat_natCast]
          exact Nat.mod_lt _ y0
      · rw [decide_eq_false_iff_not] at e
        have y0 : y = 0 := by omega
        subst y0
        rw [Nat.gcd_zero_right] at g
        subst g
        exact ⟨_, rfl, q⟩
    · intro σ H' Q1 Q2 hq h
      obtain ⟨v, e1, i, j, e2, e3, k, e4, h⟩ := h
      exact ⟨v, e1, i, j, e2, e3, k, e4, hq _ _ h⟩
/-! side_of -/
def spSide (C : Addr) : Sp := fun vs H Q _ => ∃ (c : Addr) (rows : List (List Int)), vs = [.ref c] ∧ ChAt C H c rows ∧ okRows rows ∧ Q (.int (Nat.gcd (wideOf rows) rows.length)) H
theorem scSide : FnScope ["chart"] ["chart"] (defScope sSide) := ⟨rfl, rfl, rfl, by decide +kernel, rfl, by decide +kernel, by decide +kernel⟩
theorem ok_side {f : Addr} {fd : FuncData} (F : Fun K "side_of" "side_of" sSide f fd) (TC : TxC K mg C) (DD : Def P w K mg base CX0 1 "divisor" ["one", "other"] spDiv) : FnOk P w K mg base CX0 2 f fd ["chart"] (spSide C) := by
  obtain ⟨fa, fda, ga, ka, ba, GA⟩ := DD.ex
  refine F.ok scSide (fun vs H Q E h => ?_) (fun cdv A outer s H vs Q E hr h => ?_)
  · obtain ⟨c, rows, rfl, _⟩ := h
    rfl
  · obtain ⟨c, rows, rfl, ⟨dx, ra, h1, h2⟩, ok, q⟩ := h
    refine ⟨_, pss_one (ps_ret (pe_call GA hr rfl ga ka ba .nil pass0 (pa_cons (pe_fld (pv 0) rfl) (pa_cons (pe_fld (pv 0) rfl) pa_nil)))), ?_⟩
    exact ⟨_, rfl, c, C, dx, _, _, rfl, h1, TC.cl, TC.nW, chF_wide, _, rfl, c, C, dx, _, _, rfl, h1, TC.cl, TC.nH, chF_high, wideOf rows, rows.length, rfl, q⟩
/-! repeats_by_squares -/
def spSquares (C : Addr) : Sp := fun vs H Q _ => ∃ (c : Addr) (rows : List (List Int)), vs = [.ref c] ∧ ChAt C H c rows ∧ okRows rows ∧ ∀ H', Same H H' → Q (.bl (pSquares (fldI rows) (wideOf rows) rows.length)) H'
theorem scSquares : FnScope ["chart", "side"] ["chart"] (defScope sSquares) := ⟨rfl, rfl, rfl, by decide +kernel, rfl, by decide +kernel, by decide +kernel⟩
theorem ok_squares {f : Addr} {fd : FuncData} (F : Fun K "repeats_by_squares" "repeats_by_squares" sSquares f fd) (DD : Def P w K mg base CX0 2 "side_of" ["chart"] (spSide C)) (DS : Def P w K mg base CX0 3 "is_step" ["chart", "a", "b"] (spStep C)) :
    FnOk P w K mg base CX0 4 f fd ["chart"] (spSquares C) := by
  obtain ⟨fa, fda, ga, ka, ba, GA⟩ := DD.ex
  obtain ⟨fs, fds, gs, ks, bs, GS⟩ := DS.ex
  refine F.ok scSquares (fun vs H Q E h => ?_) (fun cdv A outer s H vs Q E hr h => ?_)
  · obtain ⟨c, rows, rfl, _⟩ := h
    rfl
  · have hr2 : Room 2 _ := hr.mono (by decide)
    obtain ⟨c, rows, rfl, hc, ok, q⟩ := h
    refine ⟨_, pss_cons (ps_set (i := 1) scSquares.nd rfl (Or.inl rfl) (pe_call GA hr2 rfl ga ka ba .nil pass0 (pa_cons (pv 0) pa_nil)))
      (pss_one (ps_ret (pe_and (pe_call GS hr rfl gs ks bs .nil pass0 (pa_cons (pv 0) (pa_cons (pv 1) (pa_cons pe_int pa_nil)))) (pe_one (pe_call GS hr rfl gs ks bs .nil pass0 (pa_cons (pv 0) (pa_cons pe_int (pa_cons (pv 1) pa_nil)))))))), ?_⟩
    refine ⟨_, rfl, c, rows, rfl, hc, ok, _, rfl, _, rfl, c, rows, _, _, rfl, hc, ok, fun H1 s1 => ⟨_, rfl, if_two (fun e => ?_) fun e => ?_⟩⟩
    · refine ⟨_, rfl, _, rfl, c, rows, _, _, rfl, hc.same s1, ok, fun H2 s2 => ?_⟩
      have := q H2 (s1.trans s2)
      unfold pSquares at this
      rw [e, Bool.true_and] at this
      exact this
    · have := q H1 s1
      unfold pSquares at this
      rw [e, Bool.false_and] at this
      exact this
/-! window -/
def spWindow (C : Addr) : Sp := fun vs H Q _ => ∃ (c : Addr) (rows : List (List Int)) (m : Nat), vs = [.ref c, .int m] ∧ ChAt C H c rows ∧ okRows rows ∧ m < 8 ∧
  ∀ p H', Same H H' → H' p = some (.tup [.int (pWin m (wideOf rows) rows.length).1, .int (pWin m (wideOf rows) rows.length).2]) → Q (.ref p) H'
theorem scWindow : FnScope ["chart", "m"] ["chart", "m"] (defScope sWindow) := ⟨rfl, rfl, rfl, by decide +kernel, rfl, by decide +kernel, by decide +kernel⟩
theorem ok_window {f : Addr} {fd : FuncData} (F : Fun K "window" "window" sWindow f fd) (TC : TxC K mg C) (DD : Def P w K mg base CX0 2 "side_of" ["chart"] (spSide C)) (DE : Def P w K mg base CX0 1 "exchanges" ["m"] spExch) :
    FnOk P w K mg base CX0 3 f fd ["chart", "m"] (spWindow C) := by
  obtain ⟨fa, fda, ga, ka, ba, GA⟩ := DD.ex
  obtain ⟨fe, fde, ge, ke, be, GE⟩ := DE.ex
  refine F.ok scWindow (fun vs H Q E h => ?_) (fun cdv A outer s H vs Q E hr h => ?_)
  · obtain ⟨c, rows, m, rfl, _⟩ := h
    rfl
  · have hr1 : Room 1 _ := hr.mono (by decide)
    obtain ⟨c, rows, m, rfl, ⟨dx, ra, h1, h2⟩, ok, m8, q⟩ := h
    refine ⟨_, pss_cons (ps_if (pt_val (pe_call GE hr1 rfl ge ke be .nil pass0 (pa_cons (pv 1) pa_nil)))
        (pss_one (ps_ret (pe_tup (pa_cons (pe_call GA hr rfl ga ka ba .nil pass0 (pa_cons (pv 0) pa_nil)) (pa_cons (pe_call GA hr rfl ga ka ba .nil pass0 (pa_cons (pv 0) pa_nil)) pa_nil))))) pss_nil)
      (pss_one (ps_ret (pe_tup (pa_cons (pe_fld (pv 0) rfl) (pa_cons (pe_fld (pv 0) rfl) pa_nil))))), ?_⟩
    refine ⟨_, rfl, m, rfl, m8, _, rfl, if_two (fun e => ?_) fun e => ?_⟩
    · rw [decide_eq_true_eq] at e
      refine ⟨_, rfl, c, rows, rfl, ⟨dx, ra, h1, h2⟩, ok, _, rfl, c, rows, rfl, ⟨dx, ra, h1, h2⟩, ok, (by show 2 ≤ sizeLine; decide), fun p np => q p _ (same_upd np) ?_⟩
      unfold pWin
      rw [if_pos e]
      exact upd_same
    · rw [decide_eq_false_iff_not] at e
      refine ⟨_, rfl, c, C, dx, _, _, rfl, h1, TC.cl, TC.nW, chF_wide, _, rfl, c, C, dx, _, _, rfl, h1, TC.cl, TC.nH, chF_high, (by show 2 ≤ sizeLine; decide), fun p np => q p _ (same_upd np) ?_⟩
      unfold pWin
      rw [if_neg e]
      exact upd_same
end
end Kn
set_option Elab.async false
set_option linter.all false
set_option maxRecDepth 100000
set_option maxHeartbeats 4000000
/-! ### repeats: the class, the least repeat -/
namespace Kn
open PySem PySem.Spec PyProof.Rows L2
abbrev sRpInit : Stmt := inClass (topS 32) 0
abbrev sLeastWide : Stmt := topS 33
abbrev sAside : Stmt := topS 34
abbrev sRepeatOf : Stmt := topS 35
/-- what the top has written of the class Repeat -/
structure TxR (K : PySem.W.Frag) (CR : Addr) : Prop where
  cl : Cls K CR
  nP : NoAttr K CR "p"
  nQ : NoAttr K CR "q"
  nR : NoAttr K CR "r"
def rpF (p q r : Nat) : List (Str × V) := [(("p" : Str), .int p), (("q" : Str), .int q), (("r" : Str), .int r)]
def RepAt (CR : Addr) (H : Hp) (a : Addr) (p q r : Nat) : Prop := ∃ dx, H a = some (.ins CR dx (rpF p q r))
theorem RepAt.same {CR : Addr} {H H' : Hp} {a : Addr} {p q r : Nat} (h : RepAt CR H a p q r) (s : Same H H') : RepAt CR H' a p q r := by
  obtain ⟨dx, h⟩ := h
  exact ⟨dx, s _ _ h⟩
theorem rpF_p {p q r : Nat} : (rpF p q r).lookup ("p" : Str) = some (.int p) := lk_here
theorem rpF_q {p q r : Nat} : (rpF p q r).lookup ("q" : Str) = some (.int q) := (lk_past (by decide +kernel)).trans lk_here
theorem rpF_r {p q r : Nat} : (rpF p q r).lookup ("r" : Str) = some (.int r) := (lk_past (by decide +kernel)).trans ((lk_past (by decide +kernel)).trans lk_here)
theorem rpF_has {p q r : Nat} : (rpF p q r).lookup ("has_step" : Str) = none := (lk_past (by decide +kernel)).trans ((lk_past (by decide +kernel)).trans ((lk_past (by decide +kernel)).trans rfl))
theorem rpF_new {p q r : Nat} : putF "r" (.int r) (putF "q" (.int q) (putF "p" (.int p) [])) = rpF p q r := by
  have e1 : putF "q" (.int q) [(("p" : Str), V.int p)] = [(("p" : Str), V.int p), (("q" : Str), V.int q)] := (put_past (by decide +kernel)).trans rfl
  have e2 : putF "r" (.int r) [(("p" : Str), V.int p), (("q" : Str), V.int q)] = [(("p" : Str), V.int p), (("q" : Str), V.int q), (("r" : Str), V.int r)] := (put_past (by decide +kernel)).trans (congrArg _ ((put_past (by decide +kernel)).trans rfl))
  show putF "r" (.int r) (putF "q" (.int q) [(("p" : Str), V.int p)]) = _
  rw [e1]
  exact e2
section
variable {P : Program} {w : World} {K : PySem.W.Frag} {mg : Str → Option Value} {base : Heap} {C CR : Addr}
/-! Repeat.__init__ -/
def spRpInit (CR : Addr) : Sp := fun vs H Q _ => ∃ (x dx : Addr) (p q r : Nat), vs = [.ref x, .int p, .int q, .int r] ∧ H x = some (.ins CR dx []) ∧
  ∀ H' : Hp, RepAt CR H' x p q r → (∀ b o, H b = some o → b ≠ x → H' b = some o) → Q .non H'
theorem scRpInit : FnScope ["self", "p", "q", "r"] ["self", "p", "q", "r"] (defScope sRpInit) := ⟨rfl, rfl, rfl, by decide +kernel, rfl, by decide +kernel, by decide +kernel⟩
theorem ok_rpInit {f : Addr} {fd : FuncData} (F : Fun K "__init__" "Repeat.__init__" sRpInit f fd) (T : TxR K CR) : FnOk P w K mg base CX0 1 f fd ["self", "p", "q", "r"] (spRpInit CR) := by
  refine F.ok scRpInit (fun vs H Q E h => ?_) (fun cdv A outer s H vs Q E hr h => ?_)
  · obtain ⟨x, dx, p, q, r, rfl, _⟩ := h
    rfl
  · obtain ⟨x, dx, p, q, r, rfl, hx, k⟩ := h
    refine ⟨_, pss_cons (ps_fld (pv 0) (pv 1) rfl) (pss_cons (ps_fld (pv 0) (pv 2) rfl) (pss_one (ps_fld (pv 0) (pv 3) rfl))), ?_⟩
    refine ⟨_, rfl, _, rfl, x, CR, dx, [], rfl, hx, T.cl, T.nP, (by show 0 < 1000; decide), ?_⟩
    refine ⟨_, rfl, _, rfl, x, CR, dx, _, rfl, upd_same, T.cl, T.nQ, (by show 1 < 1000; decide), ?_⟩
    refine ⟨_, rfl, _, rfl, x, CR, dx, _, rfl, upd_same, T.cl, T.nR, (by show 2 < 1000; decide), ?_⟩
    refine k _ ⟨dx, upd_same.trans (congrArg (fun z => some (HO.ins CR dx z)) rpF_new)⟩ fun b o e hb => ?_
    rw [upd_ne hb, upd_ne hb, upd_ne hb]
    exact e
/-! least_wide -/
def spLeastWide (C : Addr) : Sp := fun vs H Q _ => ∃ (c : Addr) (rows : List (List Int)), vs = [.ref c] ∧ ChAt C H c rows ∧ okRows rows ∧ ∀ H', Same H H' → Q (.int (pWide (fldI rows) (wideOf rows) rows.length : Nat)) H'
theorem scLeastWide : FnScope ["chart", "p"] ["chart"] (defScope sLeastWide) := ⟨rfl, rfl, rfl, by decide +kernel, rfl, by decide +kernel, by decide +kernel⟩
theorem one_add (i : Nat) : (1 : Int) + i = ((1 + i : Nat) : Int) := by omega
theorem ok_leastWide {f : Addr} {fd : FuncData} (F : Fun K "least_wide" "least_wide" sLeastWide f fd) (T : TxT K mg) (TC : TxC K mg C) (DS : Def P w K mg base CX0 3 "is_step" ["chart", "a", "b"] (spStep C)) : FnOk P w K mg base CX0 4 f fd ["chart"] (spLeastWide C) := by
  obtain ⟨fs, fds, gs, ks, bs, GS⟩ := DS.ex
  refine F.ok scLeastWide (fun vs H Q E h => ?_) (fun cdv A outer s H vs Q E hr h => ?_)
  · obtain ⟨c, rows, rfl, _⟩ := h
    rfl
  · obtain ⟨c, rows, rfl, hc, ok, q⟩ := h
    refine ⟨_, pss_cons (ps_for PassesOwn.never rfl (pi_range2 (by rfl) T.mRange (pa_cons pe_int (pa_cons (pe_fld (pv 0) rfl) pa_nil))) (pg_name (i := 1) scLeastWide.nd rfl (.inl rfl))
        (pss_one (ps_if (pt_val (pe_call GS hr rfl gs ks bs .nil pass0 (pa_cons (pv 0) (pa_cons (pv 1) (pa_cons pe_int pa_nil))))) (pss_one (ps_ret (pv 1))) pss_nil)))
      (pss_one (ps_ret (pe_fld (pv 0) rfl))), ?_⟩
    have hc0 := hc
    obtain ⟨dx, ra, h1, h2⟩ := hc0
    have w1 := ok.2.1
    have w0 := ok.1
    have en : ((wideOf rows : Int) - 1).toNat = wideOf rows - 1 := by omega
    refine ⟨_, rfl, c, C, dx, _, _, rfl, h1, TC.cl, TC.nW, chF_wide, 1, wideOf rows, rfl, ⟨by omega, by omega, by omega, by omega⟩, ?_⟩
    refine for_range (lo := 1) (n := ((wideOf rows : Int) - 1).toNat) (fun i σ H' => ∃ v : Option V, σ = [some (.ref c), v] ∧ Same H H' ∧ ∀ j, j < i → pStep (fldI rows) (wideOf rows) rows.length ((1 + j : Nat) : Int) 0 = false) ⟨none, rfl, Same.refl _, fun j hj => absurd hj (Nat.not_lt_zero _)⟩ ?_ ?_
    · rintro i σ H1 hi ⟨v, rfl, s1, g⟩
      rw [en] at hi
      refine ⟨_, rfl, _, rfl, c, rows, _, _, rfl, hc.same s1, ok, fun H2 s2 => ⟨_, rfl, if_two (fun e => ?_) fun e => ?_⟩⟩
      · rw [one_add] at e
        refine ⟨_, rfl, ?_⟩
        have := q H2 (s1.trans s2)
        unfold pWide at this
        rw [seek_some hi e g] at this
        rw [one_add]
        exact this
      · rw [one_add] at e
        refine ⟨_, rfl, s1.trans s2, fun j hj => ?_⟩
        by_cases hji : j < i
        · exact g j hji
        · have : j = i := by omega
          subst this
          exact e
    · rintro σ H1 ⟨v, rfl, s1, g⟩
      rw [en] at g
      obtain ⟨dx2, ra2, h3, _⟩ := hc.same s1
      refine ⟨_, rfl, c, C, dx2, _, _, rfl, h3, TC.cl, TC.nW, chF_wide, ?_⟩
      have := q H1 s1
      unfold pWide at this
      rw [seek_none g] at this
      exact this
/-! aside -/
def optInts (o : Option Nat) : List Int := o.toList.map fun (a : Nat) => (a : Int)
def spAside (C : Addr) : Sp := fun vs H Q _ => ∃ (c : Addr) (rows : List (List Int)) (p : Nat) (r : Int), vs = [.ref c, .int p, .int r] ∧ ChAt C H c rows ∧ okRows rows ∧ p ≤ 100000 ∧
  ∀ H' l, Same H H' → H' l = some (.lst ((optInts (pAside (fldI rows) (wideOf rows) rows.length p r)).map V.int)) → Q (.ref l) H'
theorem scAside : FnScope ["chart", "p", "r", "a"] ["chart", "p", "r"] (defScope sAside) := ⟨rfl, rfl, rfl, by decide +kernel, rfl, by decide +kernel, by decide +kernel⟩
theorem ok_aside {f : Addr} {fd : FuncData} (F : Fun K "aside" "aside" sAside f fd) (T : TxT K mg) (DS : Def P w K mg base CX0 3 "is_step" ["chart", "a", "b"] (spStep C)) : FnOk P w K mg base CX0 4 f fd ["chart", "p", "r"] (spAside C) := by
  obtain ⟨fs, fds, gs, ks, bs, GS⟩ := DS.ex
  refine F.ok scAside (fun vs H Q E h => ?_) (fun cdv A outer s H vs Q E hr h => ?_)
  · obtain ⟨c, rows, p, r, rfl, _⟩ := h
    rfl
  · obtain ⟨c, rows, p, r, rfl, hc, ok, hp, q⟩ := h
    refine ⟨_, pss_cons (ps_for PassesOwn.never rfl (pi_range1 (by rfl) T.mRange (pa_cons (pv 1) pa_nil)) (pg_name (i := 3) scAside.nd rfl (.inl rfl))
        (pss_one (ps_if (pt_val (pe_call GS hr rfl gs ks bs .nil pass0 (pa_cons (pv 0) (pa_cons (pv 3) (pa_cons (pv 2) pa_nil))))) (pss_one (ps_ret (pe_lst (pa_cons (pv 3) pa_nil)))) pss_nil)))
      (pss_one (ps_ret (pe_lst pa_nil))), ?_⟩
    refine ⟨_, rfl, p, rfl, by omega, by omega, ?_⟩
    refine for_range (lo := 0) (n := (p : Int).toNat) (fun i σ H' => ∃ v : Option V, σ = [some (.ref c), some (.int p), some (.int r), v] ∧ Same H H' ∧ ∀ j, j < i → pStep (fldI rows) (wideOf rows) rows.length (j : Int) r = false) ⟨none, rfl, Same.refl _, fun j hj => absurd hj (Nat.not_lt_zero _)⟩ ?_ ?_
    · rintro i σ H1 hi ⟨v, rfl, s1, g⟩
      rw [Int.toNat_natCast] at hi
      refine ⟨_, rfl, _, rfl, _, rfl, c, rows, _, _, rfl, hc.same s1, ok, fun H2 s2 => ⟨_, rfl, if_two (fun e => ?_) fun e => ?_⟩⟩
      · rw [Int.zero_add] at e
        refine ⟨_, rfl, (by show 1 ≤ sizeLine; decide), fun l nl => q _ l ((s1.trans s2).trans (same_upd nl)) ?_⟩
        unfold pAside
        rw [seek_some (f := fun a => pStep (fldI rows) (wideOf rows) rows.length (a : Int) r) hi e g, upd_same, Int.zero_add]
        rfl
      · rw [Int.zero_add] at e
        refine ⟨_, rfl, s1.trans s2, fun j hj => ?_⟩
        by_cases hji : j < i
        · exact g j hji
        · have : j = i := by omega
          subst this
          exact e
    · rintro σ H1 ⟨v, rfl, s1, g⟩
      rw [Int.toNat_natCast] at g
      refine ⟨Nat.zero_le _, fun l nl => q _ l (s1.trans (same_upd nl)) ?_⟩
      unfold pAside
      rw [seek_none (f := fun a => pStep (fldI rows) (wideOf rows) rows.length (a : Int) r) g, upd_same]
      rfl
/-! repeat_of -/
def spRepeatOf (C CR : Addr) : Sp := fun vs H Q _ => ∃ (c : Addr) (rows : List (List Int)), vs = [.ref c] ∧ ChAt C H c rows ∧ okRows rows ∧
  ∀ H' a, Same H H' → RepAt CR H' a (pRep (fldI rows) (wideOf rows) rows.length).1 (pRep (fldI rows) (wideOf rows) rows.length).2.1 (pRep (fldI rows) (wideOf rows) rows.length).2.2 → Q (.ref a) H'
theorem scRepeatOf : FnScope ["chart", "p", "r", "some"] ["chart"] (defScope sRepeatOf) := ⟨rfl, rfl, rfl, by decide +kernel, rfl, by decide +kernel, by decide +kernel⟩
theorem ok_repeatOf {f : Addr} {fd : FuncData} (F : Fun K "repeat_of" "repeat_of" sRepeatOf f fd) (T : TxT K mg) (TC : TxC K mg C) (DL : Def P w K mg base CX0 4 "least_wide" ["chart"] (spLeastWide C)) (DA : Def P w K mg base CX0 4 "aside" ["chart", "p", "r"] (spAside C))
    (DR : DefC P w K mg base CX0 1 CR "Repeat" ["self", "p", "q", "r"] (spRpInit CR)) : FnOk P w K mg base CX0 5 f fd ["chart"] (spRepeatOf C CR) := by
  obtain ⟨fl, fdl, gl, kl, bl, GL⟩ := DL.ex
  obtain ⟨fa, fda, ga, ka, ba, GA⟩ := DA.ex
  obtain ⟨fr, fdr, gr, MR, br, GR⟩ := DR.ex
  refine F.ok scRepeatOf (fun vs H Q E h => ?_) (fun cdv A outer s H vs Q E hr h => ?_)
  · obtain ⟨c, rows, rfl, _⟩ := h
    rfl
  · have hr2 : Room 2 _ := hr.mono (by decide)
    obtain ⟨c, rows, rfl, hc, ok, q⟩ := h
    refine ⟨_, pss_cons (ps_set (i := 1) scRepeatOf.nd rfl (Or.inl rfl) (pe_call GL hr rfl gl kl bl .nil pass0 (pa_cons (pv 0) pa_nil)))
      (pss_cons (ps_for PassesOwn.never rfl (pi_range2 (by rfl) T.mRange (pa_cons pe_int (pa_cons (pe_fld (pv 0) rfl) pa_nil))) (pg_name (i := 2) scRepeatOf.nd rfl (.inl rfl))
        (pss_cons (ps_set (i := 3) scRepeatOf.nd rfl (Or.inl rfl) (pe_call GA hr rfl ga ka ba .nil pass0 (pa_cons (pv 0) (pa_cons (pv 1) (pa_cons (pv 2) pa_nil)))))
        (pss_one (ps_if (pt_cmpR (op_neD hr.units) (pv 3) (pe_lst pa_nil) (nomark _))
          (pss_one (ps_ret (pe_make MR GR hr2 rfl gr br .nil pass0 (pa_cons (pv 1) (pa_cons (pe_ix ix_list (pv 3) pe_int (fun _ _ => rfl)) (pa_cons (pv 2) pa_nil)))))) pss_nil))))
      (pss_one (ps_ret (pe_make MR GR hr2 rfl gr br .nil pass0 (pa_cons (pv 1) (pa_cons pe_int (pa_cons (pe_fld (pv 0) rfl) pa_nil))))))), ?_⟩
    have h1' := ok.2.2.1
    have h0' := ok.h0
    have pw := (pWide_is ok.1 ok.h0 (fldI_w rows) (fldI_h rows)).2.1
    have w1 := ok.2.1
    refine ⟨_, rfl, c, rows, rfl, hc, ok, fun H1 s1 => ?_⟩
    obtain ⟨dx, ra, h3, h4⟩ := hc.same s1
    have en : ((rows.length : Int) - 1).toNat = rows.length - 1 := by omega
    generalize hpw : pWide (fldI rows) (wideOf rows) rows.length = pw' at pw
    refine ⟨_, rfl, c, C, dx, _, _, rfl, h3, TC.cl, TC.nH, chF_high, 1, rows.length, rfl, ⟨by omega, by omega, by omega, by omega⟩, ?_⟩
    refine for_range (lo := 1) (n := ((rows.length : Int) - 1).toNat) (fun i σ H' => ∃ v v' : Option V, σ = [some (.ref c), some (.int pw'), v, v'] ∧ Same H H' ∧ ∀ j, j < i → (pAside (fldI rows) (wideOf rows) rows.length pw' ((1 + j : Nat) : Int)).isSome = false) ⟨none, none, rfl, s1, fun j hj => absurd hj (Nat.not_lt_zero _)⟩ ?_ ?_
    · rintro i σ H2 hi ⟨v, v', rfl, s2, g⟩
      rw [en] at hi
      refine ⟨_, rfl, _, rfl, _, rfl, c, rows, pw', _, rfl, hc.same s2, ok, by omega, fun H3 l s3 hl => ?_⟩
      rw [one_add] at hl
      refine ⟨_, rfl, Nat.zero_le _, fun e ne => ⟨dInts (optInts (pAside (fldI rows) (wideOf rows) rows.length pw' ((1 + i : Nat) : Int))), .list [], dp_ints (SqL.of (same_upd ne _ _ hl)), dp_empty upd_same, ?_, rfl, _, rfl, if_two (fun e => ?_) fun e => ?_⟩⟩
      · exact shaped_list PyData.int _ (fun _ _ => rfl) (fun _ _ => by simp [PyData.depth])
      · rw [show PyData.eqv (dInts (optInts (pAside (fldI rows) (wideOf rows) rows.length pw' ((1 + i : Nat) : Int)))) (.list []) = _ from eqv_empty _] at e
        cases z : pAside (fldI rows) (wideOf rows) rows.length pw' ((1 + i : Nat) : Int) with
        | none =>
          rw [z] at e
          exact absurd (show false = true from e) (by decide)
        | some a0 =>
          rw [z] at hl
          refine ⟨_, rfl, _, rfl, l, _, 0, .int a0, rfl, rfl, SqL.of (same_upd ne _ _ hl), at_of rfl rfl, _, rfl, fun x dx nx ndx ne2 => ?_⟩
          refine ⟨x, dx, pw', a0, 1 + i, ?_, upd_same, fun H' J kp => ⟨rfl, q H' x (((s2.trans s3).trans (same_upd ne)).trans (Same.made nx ndx kp)) ?_⟩⟩
          · rw [one_add]
            rfl
          · have e2 : pRep (fldI rows) (wideOf rows) rows.length = (pw', a0, 1 + i) := by
              unfold pRep
              rw [hpw, seek_some (f := fun i => (pAside (fldI rows) (wideOf rows) rows.length pw' ((1 + i : Nat) : Int)).isSome) hi (by show (pAside (fldI rows) (wideOf rows) rows.length pw' ((1 + i : Nat) : Int)).isSome = true; rw [z]; rfl) g]
              show (pw', (pAside (fldI rows) (wideOf rows) rows.length pw' ((1 + i : Nat) : Int)).getD 0, 1 + i) = _
              rw [z]
              rfl
            rw [e2]
            exact J
      · rw [show PyData.eqv (dInts (optInts (pAside (fldI rows) (wideOf rows) rows.length pw' ((1 + i : Nat) : Int)))) (.list []) = _ from eqv_empty _] at e
        refine ⟨_, _, rfl, (s2.trans s3).trans (same_upd ne), fun j hj => ?_⟩
        by_cases hji : j < i
        · exact g j hji
        · have : j = i := by omega
          subst this
          cases z : pAside (fldI rows) (wideOf rows) rows.length pw' ((1 + j : Nat) : Int) with
          | none => rfl
          | some a0 =>
            rw [z] at e
            exact absurd (show true = false from e) (by decide)
    · rintro σ H2 ⟨v, v', rfl, s2, g⟩
      rw [en] at g
      obtain ⟨dx2, ra2, h5, _⟩ := hc.same s2
      refine ⟨_, rfl, _, rfl, c, C, dx2, _, _, rfl, h5, TC.cl, TC.nH, chF_high, fun x dx nx ndx ne2 => ?_⟩
      refine ⟨x, dx, pw', 0, rows.length, rfl, upd_same, fun H' J kp => ⟨rfl, q H' x (s2.trans (Same.made nx ndx kp)) ?_⟩⟩
      have e2 : pRep (fldI rows) (wideOf rows) rows.length = (pw', 0, rows.length) := by
        unfold pRep
        rw [hpw, seek_none (f := fun i => (pAside (fldI rows) (wideOf rows) rows.length pw' ((1 + i : Nat) : Int)).isSome) g]
      rw [e2]
      exact J
end
end Kn
set_option Elab.async false
set_option linter.all false
set_option maxRecDepth 100000
set_option maxHeartbeats 4000000
/-! ### repeats: the first symmetries -/
namespace Kn
open PySem PySem.Spec PyProof.Rows L2
abbrev sFirstOf : Stmt := topS 36
abbrev sFirstsOf : Stmt := topS 37
section
variable {P : Program} {w : World} {K : PySem.W.Frag} {mg : Str → Option Value} {base : Heap} {C CR : Addr}
/-! first_of -/
/-- at l: a list with the pair, or an empty one -/
def PairAt (H : Hp) (l : Addr) : Option (Nat × Nat) → Prop
  | none => H l = some (.lst [])
  | some x => ∃ t, H l = some (.lst [.ref t]) ∧ H t = some (.tup [.int x.1, .int x.2])
def spFirstOf (C CR : Addr) : Sp := fun vs H Q _ => ∃ (c rp : Addr) (rows : List (List Int)) (p q r m : Nat), vs = [.ref c, .ref rp, .int m] ∧ ChAt C H c rows ∧ okRows rows ∧ RepAt CR H rp p q r ∧ p ≤ 100000 ∧ r ≤ 100000 ∧ m < 8 ∧
  ∀ H' l, Same H H' → PairAt H' l (pFirst (fldI rows) (wideOf rows) rows.length p r m) → Q (.ref l) H'
theorem scFirstOf : FnScope ["chart", "repeat", "m", "wide", "high", "b", "a"] ["chart", "repeat", "m"] (defScope sFirstOf) := ⟨rfl, rfl, rfl, by decide +kernel, rfl, by decide +kernel, by decide +kernel⟩
theorem ok_firstOf {f : Addr} {fd : FuncData} (F : Fun K "first_of" "first_of" sFirstOf f fd) (T : TxT K mg) (TR : TxR K CR) (DE : Def P w K mg base CX0 1 "exchanges" ["m"] spExch) (DQ : Def P w K mg base CX0 4 "repeats_by_squares" ["chart"] (spSquares C))
    (DW : Def P w K mg base CX0 3 "window" ["chart", "m"] (spWindow C)) (DA : Def P w K mg base CX0 2 "agrees" ["chart", "m", "a", "b", "wide", "high"] (spAgrees C)) : FnOk P w K mg base CX0 5 f fd ["chart", "repeat", "m"] (spFirstOf C CR) := by
  obtain ⟨fe, fde, ge, ke, be, GE⟩ := DE.ex
  obtain ⟨fq, fdq, gq, kq, bq, GQ⟩ := DQ.ex
  obtain ⟨fw, fdw, gw, kw, bw, GW⟩ := DW.ex
  obtain ⟨fa, fda, ga, ka, ba, GA⟩ := DA.ex
  refine F.ok scFirstOf (fun vs H Q E h => ?_) (fun cdv A outer s H vs Q E hr h => ?_)
  · obtain ⟨c, rp, rows, p, q, r, m, rfl, _⟩ := h
    rfl
  · have hr1 : Room 1 _ := hr.mono (by decide)
    have hr2 : Room 2 _ := hr.mono (by decide)
    have hr3 : Room 3 _ := hr.mono (by decide)
    obtain ⟨c, rp, rows, p, q, r, m, rfl, hc, ok, hrp, hp, hrr, m8, k⟩ := h
    refine ⟨_, pss_cons (ps_if (PW.pt (pw_and (pt_val (pe_call GE hr1 rfl ge ke be .nil pass0 (pa_cons (pv 2) pa_nil))) (pw_and1 (pt_not (pt_val (pe_call GQ hr rfl gq kq bq .nil pass0 (pa_cons (pv 0) pa_nil)))))))
        (pss_one (ps_ret (pe_lst pa_nil))) pss_nil)
      (pss_cons (ps_asg (pe_call GW hr3 rfl gw kw bw .nil pass0 (pa_cons (pv 0) (pa_cons (pv 2) pa_nil))) (pg_tup rfl (pgs_cons (pg_name (i := 3) scFirstOf.nd rfl (.inl rfl)) (pgs_cons (pg_name (i := 4) scFirstOf.nd rfl (.inl rfl)) pgs_nil))))
      (pss_cons (ps_for PassesOwn.never rfl (pi_range1 (by rfl) T.mRange (pa_cons (pe_fld (pv 1) rfl) pa_nil)) (pg_name (i := 5) scFirstOf.nd rfl (.inl rfl))
        (pss_one (ps_for PassesOwn.never rfl (pi_range1 (by rfl) T.mRange (pa_cons (pe_fld (pv 1) rfl) pa_nil)) (pg_name (i := 6) scFirstOf.nd rfl (.inl rfl))
          (pss_one (ps_if (pt_val (pe_call GA hr2 rfl ga ka ba .nil pass0 (pa_cons (pv 0) (pa_cons (pv 2) (pa_cons (pv 6) (pa_cons (pv 5) (pa_cons (pv 3) (pa_cons (pv 4) pa_nil))))))))
            (pss_one (ps_ret (pe_lst (pa_cons (pe_tup (pa_cons (pv 6) (pa_cons (pv 5) pa_nil))) pa_nil)))) pss_nil)))))
      (pss_one (ps_ret (pe_lst pa_nil))))), ?_⟩
    have w1 := ok.2.1
    have h1 := ok.2.2.1
    refine test_and (decide (m % 2 = 1)) (!pSquares (fldI rows) (wideOf rows) rows.length) (fun Qb hQ => ⟨_, rfl, m, rfl, m8, _, rfl, hQ H (Same.refl _)⟩) (fun H1 s1 Qb hQ => ⟨_, rfl, c, rows, rfl, hc.same s1, ok, fun H2 s2 => ⟨_, rfl, hQ H2 s2⟩⟩) fun H1 s1 => if_two (fun e => ?_) fun e => ?_
    · refine ⟨Nat.zero_le _, fun l nl => k _ l (s1.trans (same_upd nl)) ?_⟩
      have : pFirst (fldI rows) (wideOf rows) rows.length p r m = none := by
        unfold pFirst
        rw [if_pos e]
      rw [this]
      exact upd_same
    · have pf : pFirst (fldI rows) (wideOf rows) rows.length p r m = seek2 (fun a b => agrees (fldI rows) m (a : Int) (b : Int) (pWin m (wideOf rows) rows.length).1 (pWin m (wideOf rows) rows.length).2) p r := by
        unfold pFirst
        rw [if_neg (by rw [e]; exact Bool.false_ne_true)]
      have hWin : (pWin m (wideOf rows) rows.length).1 ≤ 100000 ∧ (pWin m (wideOf rows) rows.length).2 ≤ 100000 := by
        have g := Nat.gcd_le_left rows.length (show 0 < wideOf rows from ok.1)
        unfold pWin
        split
        · exact ⟨by show Nat.gcd _ _ ≤ _; omega, by show Nat.gcd _ _ ≤ _; omega⟩
        · exact ⟨by show wideOf rows ≤ _; omega, by show rows.length ≤ _; omega⟩
      generalize hWW : pWin m (wideOf rows) rows.length = WW at pf hWin
      obtain ⟨W, Z⟩ := WW
      refine ⟨_, rfl, _, rfl, c, rows, m, rfl, hc.same s1, ok, m8, fun t H2 s2 ht => ?_⟩
      rw [hWW] at ht
      refine ⟨t, _, rfl, SqT.of ht, rfl, _, _, rfl, _, _, rfl, rfl, ?_⟩
      obtain ⟨dx, hdx⟩ := hrp.same (s1.trans s2)
      refine ⟨_, rfl, rp, CR, dx, _, _, rfl, hdx, TR.cl, TR.nR, rpF_r, r, rfl, by omega, by omega, ?_⟩
      refine for_range (lo := 0) (n := (r : Int).toNat) (fun i σ H' => ∃ v5 v6 : Option V, σ = [some (.ref c), some (.ref rp), some (.int m), some (.int W), some (.int Z), v5, v6] ∧ Same H H' ∧ ∀ b, b < i → ∀ a, a < p → agrees (fldI rows) m (a : Int) (b : Int) W Z = false)
        ⟨none, none, rfl, s1.trans s2, fun b hb => absurd hb (Nat.not_lt_zero _)⟩ ?_ ?_
      · rintro i σ H3 hi ⟨v5, v6, rfl, s3, g1⟩
        rw [Int.toNat_natCast] at hi
        obtain ⟨dx, hdx⟩ := hrp.same s3
        refine ⟨_, rfl, rp, CR, dx, _, _, rfl, hdx, TR.cl, TR.nP, rpF_p, p, rfl, by omega, by omega, ?_⟩
        refine for_range (lo := 0) (n := (p : Int).toNat) (fun j σ H' => ∃ v6 : Option V, σ = [some (.ref c), some (.ref rp), some (.int m), some (.int W), some (.int Z), some (.int (0 + i)), v6] ∧ Same H H' ∧ ∀ a, a < j → agrees (fldI rows) m (a : Int) (i : Int) W Z = false)
          ⟨v6, rfl, s3, fun b hb => absurd hb (Nat.not_lt_zero _)⟩ ?_ ?_
        · rintro j σ H4 hj ⟨v6, rfl, s4, g2⟩
          rw [Int.toNat_natCast] at hj
          refine ⟨_, rfl, _, rfl, _, rfl, _, rfl, _, rfl, _, rfl, c, rows, m, 0 + j, 0 + i, W, Z, rfl, hc.same s4, ok, m8, hWin.1, hWin.2, fun H5 s5 => ⟨_, rfl, if_two (fun e => ?_) fun e => ?_⟩⟩
          · rw [Int.zero_add, Int.zero_add] at e
            refine ⟨_, rfl, _, rfl, (by show 2 ≤ sizeLine; decide), fun t nt => ⟨(by show 1 ≤ sizeLine; decide), fun l nl => k _ l (((s4.trans s5).trans (same_upd nt)).trans (same_upd nl)) ?_⟩⟩
            rw [pf, seek2_some (f := fun a b => agrees (fldI rows) m (a : Int) (b : Int) W Z) hi hj e g2 g1]
            have ne : t ≠ l := fun z => by
              rw [← z, upd_same] at nl
              cases nl
            refine ⟨t, upd_same, ?_⟩
            rw [upd_ne ne, upd_same, Int.zero_add, Int.zero_add]
          · rw [Int.zero_add, Int.zero_add] at e
            refine ⟨_, rfl, s4.trans s5, fun a ha => ?_⟩
            by_cases haj : a < j
            · exact g2 a haj
            · have : a = j := by omega
              subst this
              exact e
        · rintro σ H4 ⟨v6, rfl, s4, g2⟩
          rw [Int.toNat_natCast] at g2
          refine ⟨_, _, rfl, s4, fun b hb a ha => ?_⟩
          by_cases hbi : b < i
          · exact g1 b hbi a ha
          · have : b = i := by omega
            subst this
            exact g2 a ha
      · rintro σ H3 ⟨v5, v6, rfl, s3, g1⟩
        rw [Int.toNat_natCast] at g1
        refine ⟨Nat.zero_le _, fun l nl => k _ l (s3.trans (same_upd nl)) ?_⟩
        rw [pf, seek2_none (f := fun a b => agrees (fldI rows) m (a : Int) (b : Int) W Z) g1]
        exact upd_same
end
end Kn
set_option Elab.async false
set_option linter.all false
set_option maxRecDepth 100000
set_option maxHeartbeats 4000000
/-! ### repeats: all first symmetries -/
namespace Kn
open PySem PySem.Spec PyProof.Rows L2
def tup3 (f : Nat × Nat × Nat) : List V := [.int f.1, .int f.2.1, .int f.2.2]
/-- the list at l of the tuples fs -/
def FirstsAt (H : Hp) (l : Addr) (fs : List (Nat × Nat × Nat)) : Prop := ∃ ts : List Addr, H l = some (.lst (ts.map V.ref)) ∧ ts.length = fs.length ∧ ∀ (i : Nat) (t : Addr) (f : Nat × Nat × Nat), ts[i]? = some t → fs[i]? = some f → H t = some (.tup (tup3 f))
theorem FirstsAt.same {H H' : Hp} {l : Addr} {fs : List (Nat × Nat × Nat)} (h : FirstsAt H l fs) (s : Same H H') : FirstsAt H' l fs := by
  obtain ⟨ts, h1, h2, h3⟩ := h
  exact ⟨ts, s _ _ h1, h2, fun i t f e1 e2 => s _ _ (h3 i t f e1 e2)⟩
theorem FirstsAt.push {H : Hp} {l t : Addr} {fs : List (Nat × Nat × Nat)} {f : Nat × Nat × Nat} (h : FirstsAt H l fs) (ht : H t = some (.tup (tup3 f))) : ∃ xs, H l = some (.lst xs) ∧ xs.length = fs.length ∧ FirstsAt (upd H l (.lst (xs ++ [.ref t]))) l (fs ++ [f]) := by
  obtain ⟨ts, h1, h2, h3⟩ := h
  refine ⟨_, h1, by rw [List.length_map, h2], ts ++ [t], ?_, ?_, ?_⟩
  · rw [upd_same, List.map_append]
    rfl
  · rw [List.length_append, List.length_append, h2]
    rfl
  · intro i u g e1 e2
    have key : H u = some (.tup (tup3 g)) := by
      by_cases hi : i < ts.length
      · rw [List.getElem?_append_left hi] at e1
        rw [List.getElem?_append_left (by rw [← h2]; exact hi)] at e2
        exact h3 i u g e1 e2
      · have hi2 : i < (ts ++ [t]).length := (List.getElem?_eq_some_iff.mp e1).1
        rw [List.length_append, List.length_singleton] at hi2
        have e : i = ts.length := by omega
        subst e
        rw [List.getElem?_append_right (Nat.le_refl _), Nat.sub_self] at e1
        rw [h2, List.getElem?_append_right (Nat.le_refl _), Nat.sub_self] at e2
        have e1' : t = u := Option.some.inj e1
        have e2' : f = g := Option.some.inj e2
        rw [← e1', ← e2']
        exact ht
    rw [upd_ne (ne_of key h1 (by intro z; cases z))]
    exact key
section
variable {P : Program} {w : World} {K : PySem.W.Frag} {mg : Str → Option Value} {base : Heap} {C CR : Addr}
/-! firsts_of -/
def firstsTo (rows : List (List Int)) (p r n : Nat) : List (Nat × Nat × Nat) := (List.range n).filterMap fun m => (pFirst (fldI rows) (wideOf rows) rows.length p r m).map fun x => (m, x.1, x.2)
theorem firstsTo_all (rows : List (List Int)) (p r : Nat) : firstsTo rows p r 8 = pFirsts (fldI rows) (wideOf rows) rows.length p r := rfl
theorem firstsTo_none {rows : List (List Int)} {p r n : Nat} (h : pFirst (fldI rows) (wideOf rows) rows.length p r n = none) : firstsTo rows p r (n + 1) = firstsTo rows p r n := by
  unfold firstsTo
  rw [List.range_succ, List.filterMap_append, List.filterMap_cons, h]
  simp
theorem firstsTo_some {rows : List (List Int)} {p r n : Nat} {x : Nat × Nat} (h : pFirst (fldI rows) (wideOf rows) rows.length p r n = some x) : firstsTo rows p r (n + 1) = firstsTo rows p r n ++ [(n, x.1, x.2)] := by
  unfold firstsTo
  rw [List.range_succ, List.filterMap_append, List.filterMap_cons, h]
  rfl
theorem firstsTo_len (rows : List (List Int)) (p r n : Nat) : (firstsTo rows p r n).length ≤ n := by
  have := List.length_filterMap_le (fun m => (pFirst (fldI rows) (wideOf rows) rows.length p r m).map fun x => (m, x.1, x.2)) (List.range n)
  rw [List.length_range] at this
  exact this
def spFirstsOf (C CR : Addr) : Sp := fun vs H Q _ => ∃ (c rp : Addr) (rows : List (List Int)) (p q r : Nat), vs = [.ref c, .ref rp] ∧ ChAt C H c rows ∧ okRows rows ∧ RepAt CR H rp p q r ∧ p ≤ 100000 ∧ r ≤ 100000 ∧
  ∀ H' l, Same H H' → FirstsAt H' l (pFirsts (fldI rows) (wideOf rows) rows.length p r) → Q (.ref l) H'
theorem scFirstsOf : FnScope ["chart", "repeat", "found", "m", "a", "b"] ["chart", "repeat"] (defScope sFirstsOf) := ⟨rfl, rfl, rfl, by decide +kernel, rfl, by decide +kernel, by decide +kernel⟩
theorem ok_firstsOf {f : Addr} {fd : FuncData} (F : Fun K "firsts_of" "firsts_of" sFirstsOf f fd) (T : TxT K mg) (TC : TxC K mg C) (DF : Def P w K mg base CX0 5 "first_of" ["chart", "repeat", "m"] (spFirstOf C CR)) : FnOk P w K mg base CX0 6 f fd ["chart", "repeat"] (spFirstsOf C CR) := by
  obtain ⟨ff, fdf, gf, kf, bf, GF⟩ := DF.ex
  obtain ⟨aT, as, gT, hTl, hT, hTm⟩ := T.turns
  refine F.ok scFirstsOf (fun vs H Q E h => ?_) (fun cdv A outer s H vs Q E hr h => ?_)
  · obtain ⟨c, rp, rows, p, q, r, rfl, _⟩ := h
    rfl
  · obtain ⟨c, rp, rows, p, q, r, rfl, hc, ok, hrp, hp, hrr, k⟩ := h
    refine ⟨_, pss_cons (ps_set (i := 2) scFirstsOf.nd rfl (Or.inl rfl) (pe_lst pa_nil))
      (pss_cons (ps_for PassesOwn.never rfl (pi_range1 (by rfl) T.mRange (pa_cons (pe_callB call_len_seq (by rfl) TC.mLen PySem.boot_len (pa_cons (pe_glob (v := V.ref aT) rfl gT rfl) pa_nil)) pa_nil)) (pg_name (i := 3) scFirstsOf.nd rfl (.inl rfl))
        (pss_one (ps_for PassesOwn.never rfl (pi_list (pe_call GF hr rfl gf kf bf .nil pass0 (pa_cons (pv 0) (pa_cons (pv 1) (pa_cons (pv 3) pa_nil))))) (pg_tup rfl (pgs_cons (pg_name (i := 4) scFirstsOf.nd rfl (.inl rfl)) (pgs_cons (pg_name (i := 5) scFirstsOf.nd rfl (.inl rfl)) pgs_nil)))
          (pss_one (ps_expr (pe_bm PySem.F.plainAttrs_list PySem.F.slot_list_append PySem.F.type_list_append mt_append (pv 2) (pa_cons (pe_tup (pa_cons (pv 3) (pa_cons (pv 4) (pa_cons (pv 5) pa_nil)))) pa_nil)))))))
      (pss_one (ps_ret (pv 2)))), ?_⟩
    refine ⟨Nat.zero_le _, fun l nl => ?_⟩
    have lenT : ((as.map V.ref).length : Int) = 8 := by
      rw [List.length_map, hTl]
      rfl
    refine ⟨aT, _, rfl, .inr (hT _), 8, by rw [lenT], by decide, by decide, ?_⟩
    refine for_range (lo := 0) (n := (8 : Int).toNat) (fun i σ H' => ∃ v3 v4 v5 : Option V, σ = [some (.ref c), some (.ref rp), some (.ref l), v3, v4, v5] ∧ Same H H' ∧ FirstsAt H' l (firstsTo rows p r i))
      ⟨none, none, none, rfl, same_upd nl, [], upd_same, rfl, fun i t f e _ => by simp at e⟩ ?_ ?_
    · rintro i σ H1 hi ⟨v3, v4, v5, rfl, s1, g1⟩
      have hi8 : i < 8 := hi
      refine ⟨_, rfl, _, rfl, _, rfl, c, rp, rows, p, q, r, i, by rw [Int.zero_add]; rfl, hc.same s1, ok, hrp.same s1, hp, hrr, hi8, fun H2 l2 s2 h2 => ?_⟩
      have len8 := firstsTo_len rows p r i
      cases hx : pFirst (fldI rows) (wideOf rows) rows.length p r i with
      | none =>
        rw [hx] at h2
        have h2' : H2 l2 = some (.lst []) := h2
        refine ⟨l2, rfl, ⟨_, SqL.of h2'⟩, for_list (K := K) (a := l2) (xs := []) (fun j σ H' => ∃ v4 v5 : Option V, σ = [some (.ref c), some (.ref rp), some (.ref l), some (.int (0 + i)), v4, v5] ∧ H' = H2)
          ⟨v4, v5, rfl, rfl⟩ (fun j σ H' _ ⟨_, _, _, e⟩ => by rw [e]; exact SqL.of h2') (fun j x σ H' e _ => by simp at e) ?_⟩
        rintro σ H' ⟨v4, v5, rfl, rfl⟩
        refine ⟨_, _, _, rfl, s1.trans s2, ?_⟩
        rw [firstsTo_none hx]
        exact g1.same s2
      | some x =>
        rw [hx] at h2
        obtain ⟨t, ht1, ht2⟩ := h2
        have g2 := g1.same s2
        have nll : l2 ≠ l := fun e => by
          obtain ⟨ts, y1, y2, y3⟩ := g2
          rw [e, y1] at ht1
          have z : ts.map V.ref = [V.ref t] := by
            injection ht1 with ht1
            injection ht1
          match ts, z with
          | [u], z =>
            have e0 : u = t := by
              injection z with z1 _
              injection z1
            subst e0
            cases hf : firstsTo rows p r i with
            | nil =>
              rw [hf] at y2
              cases y2
            | cons f0 fr =>
              have := y3 0 u f0 rfl (by rw [hf]; rfl)
              rw [ht2] at this
              have this := Option.some.inj this
              injection this with this
              exact absurd (congrArg List.length this) (by show ¬ 2 = 3; decide)
        refine ⟨l2, rfl, ⟨_, SqL.of ht1⟩, for_list (K := K) (a := l2) (xs := [.ref t]) (fun j σ H' => ∃ v4 v5 : Option V, σ = [some (.ref c), some (.ref rp), some (.ref l), some (.int (0 + i)), v4, v5] ∧ Same H H' ∧ H' l2 = some (.lst [.ref t]) ∧ H' t = some (.tup [.int x.1, .int x.2]) ∧ FirstsAt H' l (if j = 0 then firstsTo rows p r i else firstsTo rows p r (i + 1)))
          ⟨v4, v5, rfl, s1.trans s2, ht1, ht2, g2⟩ (fun j σ H' _ ⟨_, _, _, _, e, _⟩ => SqL.of e) ?_ ?_⟩
        · rintro j y σ H' hj ⟨v4, v5, rfl, s3, e1, e2, g3⟩
          have j0 : j = 0 := by
            have : j < 1 := (List.getElem?_eq_some_iff.mp hj).1
            omega
          subst j0
          have ey : V.ref t = y := Option.some.inj hj
          subst ey
          rw [if_pos rfl] at g3
          refine ⟨t, _, rfl, SqT.of e2, rfl, _, _, rfl, _, _, rfl, rfl, ?_⟩
          have ne1 : t ≠ l := fun e => by
            obtain ⟨ts, y1, _⟩ := g3
            rw [e, y1] at e2
            cases e2
          have g3' := g3
          obtain ⟨ts, y1, _, _⟩ := g3'
          refine ⟨_, rfl, .inl ⟨rfl, _, SqL.of y1⟩, _, rfl, _, rfl, _, rfl, (by show 3 ≤ sizeLine; decide), fun t2 nt2 => ?_⟩
          have g4 := g3.same (same_upd (o := .tup [.int (0 + i), .int x.1, .int x.2]) nt2)
          obtain ⟨xs, hxs, hlen, g5⟩ := g4.push (t := t2) (f := (i, x.1, x.2)) (by rw [upd_same, Int.zero_add]; rfl)
          refine ⟨l, xs, .ref t2, rfl, rfl, hxs, ?_, ?_⟩
          · rw [hlen]
            exact lt_line (by omega)
          · refine ⟨_, _, rfl, same_put (s3.trans (same_upd nt2)) nl, ?_, ?_, ?_⟩
            · rw [upd_ne nll]
              exact same_upd nt2 _ _ e1
            · rw [upd_ne ne1]
              exact same_upd nt2 _ _ e2
            · rw [if_neg (by decide), firstsTo_some hx]
              exact g5
        · rintro σ H' ⟨v4, v5, rfl, s3, _, _, g3⟩
          exact ⟨_, _, _, rfl, s3, g3⟩
    · rintro σ H1 ⟨v3, v4, v5, rfl, s1, g1⟩
      exact ⟨_, rfl, k H1 l s1 g1⟩
end
end Kn
set_option Elab.async false
set_option linter.all false
set_option maxRecDepth 100000
set_option maxHeartbeats 4000000
/-! ### kinds: half steps -/
namespace Kn
open PySem PySem.Spec PyProof.Rows L2
abbrev sHasStep : Stmt := inClass (topS 32) 1
abbrev sTwice : Stmt := topS 25
abbrev sHalf : Stmt := topS 26
abbrev sHalves : Stmt := topS 27
abbrev sKind4 : Stmt := topS 28
abbrev sKindH : Stmt := topS 29
theorem decV (x y : Int) : decide (V.int x = V.int y) = decide (x = y) := by
  by_cases h : x = y
  · rw [decide_eq_true h, h]
    exact decide_eq_true rfl
  · rw [decide_eq_false h]
    exact decide_eq_false fun z => h (by injection z)
theorem decQ {Q : VK} {H : Hp} {x y : Int} (h : Q (.bl (decide (x = y))) H) : Q (.bl (decide (V.int x = V.int y))) H := by
  rw [decV]
  exact h
/-- the numbers of a repeat, small -/
def Small (p q r : Nat) : Prop := 0 < p ∧ p ≤ 100000 ∧ q ≤ 100000 ∧ 0 < r ∧ r ≤ 100000
section
variable {P : Program} {w : World} {K : PySem.W.Frag} {mg : Str → Option Value} {base : Heap} {C CR : Addr}
/-! Repeat.has_step -/
def spHasStep (CR : Addr) : Sp := fun vs H Q _ => ∃ (rp : Addr) (p q r : Nat) (a b : Int), vs = [.ref rp, .int a, .int b] ∧ RepAt CR H rp p q r ∧ Small p q r ∧ ∀ H', Same H H' → Q (.bl (hasStep p q r a b)) H'
theorem scHasStep : FnScope ["self", "a", "b"] ["self", "a", "b"] (defScope sHasStep) := ⟨rfl, rfl, rfl, by decide +kernel, rfl, by decide +kernel, by decide +kernel⟩
theorem ok_hasStep {f : Addr} {fd : FuncData} (F : Fun K "has_step" "Repeat.has_step" sHasStep f fd) (TR : TxR K CR) : FnOk P w K mg base CX0 1 f fd ["self", "a", "b"] (spHasStep CR) := by
  refine F.ok scHasStep (fun vs H Q E h => ?_) (fun cdv A outer s H vs Q E hr h => ?_)
  · obtain ⟨rp, p, q, r, a, b, rfl, _⟩ := h
    rfl
  · obtain ⟨rp, p, q, r, a, b, rfl, ⟨dx, h1⟩, ⟨p0, pl, ql, r0, rl⟩, k⟩ := h
    refine ⟨_, pss_one (ps_ret (pe_and (pe_cmpR op_eq (pe_op op_mod (pv 2) (pe_fld (pv 0) rfl)) pe_int (nomark _)) (pe_one (pe_cmpR op_eq (pe_op op_mod (pe_op op_sub (pv 1) (pe_op op_mul (pe_op op_fdiv (pv 2) (pe_fld (pv 0) rfl)) (pe_fld (pv 0) rfl))) (pe_fld (pv 0) rfl)) pe_int (nomark _))))), ?_⟩
    refine val_and (decide (b % (r : Int) = 0)) (decide ((a - b / (r : Int) * q) % (p : Int) = 0)) (fun Q' hQ => ?_) (fun H1 s1 Q' hQ => ?_) fun H2 s2 => ?_
    · refine ⟨_, rfl, _, rfl, rp, CR, dx, _, _, rfl, h1, TR.cl, TR.nR, rpF_r, _, _, rfl, rfl, by omega, rfl, ?_⟩
      exact decQ (hQ H (Same.refl _))
    · obtain ⟨dx, h1⟩ : RepAt CR H1 rp p q r := RepAt.same ⟨dx, h1⟩ s1
      refine ⟨_, rfl, _, rfl, _, rfl, rp, CR, dx, _, _, rfl, h1, TR.cl, TR.nR, rpF_r, _, _, rfl, rfl, ⟨by omega, by omega⟩, _, rfl, rp, CR, dx, _, _, rfl, h1, TR.cl, TR.nQ, rpF_q, _, _, rfl, rfl, .inr ⟨by omega, by omega⟩, _, _, rfl, rfl, ?_⟩
      refine ⟨_, rfl, rp, CR, dx, _, _, rfl, h1, TR.cl, TR.nP, rpF_p, _, _, rfl, rfl, by omega, rfl, ?_⟩
      exact decQ (hQ H1 (Same.refl _))
    · exact k H2 s2
/-! twice -/
def spTwice : Sp := fun vs H Q _ => ∃ (m : Nat) (a b : Int), vs = [.int m, .int a, .int b] ∧ m < 8 ∧ ∀ p H', Same H H' → H' p = some (.tup [.int (twX m a b), .int (twY m a b)]) → Q (.ref p) H'
theorem scTwice : FnScope ["m", "a", "b", "x", "y"] ["m", "a", "b"] (defScope sTwice) := ⟨rfl, rfl, rfl, by decide +kernel, rfl, by decide +kernel, by decide +kernel⟩
theorem ok_twice {f : Addr} {fd : FuncData} (F : Fun K "twice" "twice" sTwice f fd) (DT : Def P w K mg base CX0 1 "turned" ["m", "x", "y"] spTurned) : FnOk P w K mg base CX0 2 f fd ["m", "a", "b"] spTwice := by
  obtain ⟨ft, fdt, gt, kt, bt, GT⟩ := DT.ex
  refine F.ok scTwice (fun vs H Q E h => ?_) (fun cdv A outer s H vs Q E hr h => ?_)
  · obtain ⟨m, a, b, rfl, _⟩ := h
    rfl
  · obtain ⟨m, a, b, rfl, m8, q⟩ := h
    refine ⟨_, pss_cons (ps_asg (pe_call GT hr rfl gt kt bt .nil pass0 (pa_cons (pv 0) (pa_cons (pv 1) (pa_cons (pv 2) pa_nil)))) (pg_tup rfl (pgs_cons (pg_name (i := 3) scTwice.nd rfl (.inl rfl)) (pgs_cons (pg_name (i := 4) scTwice.nd rfl (.inl rfl)) pgs_nil))))
      (pss_one (ps_ret (pe_tup (pa_cons (pe_op op_add (pv 3) (pv 1)) (pa_cons (pe_op op_add (pv 4) (pv 2)) pa_nil))))), ?_⟩
    refine ⟨_, rfl, _, rfl, _, rfl, m, a, b, rfl, m8, fun p H1 s1 hp => ?_⟩
    refine ⟨p, _, rfl, SqT.of hp, rfl, _, _, rfl, _, _, rfl, rfl, ?_⟩
    exact ⟨_, rfl, _, rfl, _, _, rfl, rfl, _, rfl, _, rfl, _, _, rfl, rfl, (by show 2 ≤ sizeLine; decide), fun t nt => q t _ (s1.trans (same_upd nt)) upd_same⟩
/-! is_half_step -/
def spHalf (CR : Addr) : Sp := fun vs H Q _ => ∃ (rp : Addr) (p q r m : Nat) (a b : Int), vs = [.ref rp, .int m, .int a, .int b] ∧ RepAt CR H rp p q r ∧ Small p q r ∧ m < 8 ∧ ∀ H', Same H H' → Q (.bl (halfB p q r m a b)) H'
theorem scHalf : FnScope ["repeat", "m", "a", "b", "x", "y"] ["repeat", "m", "a", "b"] (defScope sHalf) := ⟨rfl, rfl, rfl, by decide +kernel, rfl, by decide +kernel, by decide +kernel⟩
theorem ok_half {f : Addr} {fd : FuncData} (F : Fun K "is_half_step" "is_half_step" sHalf f fd) (TR : TxR K CR) (DT : Def P w K mg base CX0 2 "twice" ["m", "a", "b"] spTwice) (DS : DefM P w K mg base CX0 1 CR "has_step" ["self", "a", "b"] (spHasStep CR)) :
    FnOk P w K mg base CX0 3 f fd ["repeat", "m", "a", "b"] (spHalf CR) := by
  obtain ⟨ft, fdt, gt, kt, bt, GT⟩ := DT.ex
  obtain ⟨fs, fds, mS, bs, GS⟩ := DS.ex
  refine F.ok scHalf (fun vs H Q E h => ?_) (fun cdv A outer s H vs Q E hr h => ?_)
  · obtain ⟨rp, p, q, r, m, a, b, rfl, _⟩ := h
    rfl
  · have hr1 : Room 1 _ := hr.mono (by decide)
    obtain ⟨rp, p, q, r, m, a, b, rfl, hrp, sm, m8, k⟩ := h
    refine ⟨_, pss_cons (ps_asg (pe_call GT hr rfl gt kt bt .nil pass0 (pa_cons (pv 1) (pa_cons (pv 2) (pa_cons (pv 3) pa_nil)))) (pg_tup rfl (pgs_cons (pg_name (i := 4) scHalf.nd rfl (.inl rfl)) (pgs_cons (pg_name (i := 5) scHalf.nd rfl (.inl rfl)) pgs_nil))))
      (pss_one (ps_ret (pe_and (pe_cmpR op_eq (pe_op op_mod (pv 4) pe_int) pe_int (nomark _)) (pe_and (pe_cmpR op_eq (pe_op op_mod (pv 5) pe_int) pe_int (nomark _)) (pe_one (pe_meth (pv 0) TR.cl mS GS hr1 bs .nil pass0 (pa_cons (pe_op op_fdiv (pv 4) pe_int) (pa_cons (pe_op op_fdiv (pv 5) pe_int) pa_nil)))))))), ?_⟩
    refine ⟨_, rfl, _, rfl, _, rfl, m, a, b, rfl, m8, fun t H1 s1 ht => ?_⟩
    refine ⟨t, _, rfl, SqT.of ht, rfl, _, _, rfl, _, _, rfl, rfl, ?_⟩
    dsimp only [tRet]
    refine val_and (decide (twX m a b % 2 = 0)) (decide (twY m a b % 2 = 0) && hasStep p q r (twX m a b / 2) (twY m a b / 2)) (fun Q' hQ => ?_) (fun H2 s2 Q' hQ => ?_) fun H2 s2 => k H2 (s1.trans s2)
    · refine ⟨_, rfl, _, _, rfl, rfl, (by show (0 : Int) < 2; decide), rfl, ?_⟩
      exact decQ (hQ H1 (Same.refl _))
    · refine val_and (decide (twY m a b % 2 = 0)) (hasStep p q r (twX m a b / 2) (twY m a b / 2)) (fun Q' hQ => ?_) (fun H3 s3 Q' hQ => ?_) fun H3 s3 => hQ H3 s3
      · refine ⟨_, rfl, _, _, rfl, rfl, (by show (0 : Int) < 2; decide), rfl, ?_⟩
        exact decQ (hQ H2 (Same.refl _))
      · obtain ⟨dx, h1⟩ := hrp.same ((s1.trans s2).trans s3)
        exact ⟨_, rfl, rp, dx, _, rfl, h1, rpF_has, _, rfl, _, _, rfl, rfl, ⟨by decide, by decide⟩, _, rfl, _, _, rfl, rfl, ⟨by decide, by decide⟩, rp, p, q, r, _, _, rfl, ⟨dx, h1⟩, sm, hQ⟩
/-! halves -/
def hvB (p q r m : Nat) (a b : Int) (i j : Nat) : Bool := halfB p q r m (a + i * p + j * q) (b + j * r)
def hvs (p q r m : Nat) (a b : Int) (n : Nat) : List Bool := (List.range n).map fun k => hvB p q r m a b (k / 2) (k % 2)
theorem hvs_four (p q r : Nat) (f : Nat × Nat × Nat) : hvs p q r f.1 f.2.1 f.2.2 4 = halvesB p q r f := by
  show [hvB p q r f.1 f.2.1 f.2.2 0 0, hvB p q r f.1 f.2.1 f.2.2 0 1, hvB p q r f.1 f.2.1 f.2.2 1 0, hvB p q r f.1 f.2.1 f.2.2 1 1] = [halfB p q r f.1 f.2.1 f.2.2, halfB p q r f.1 (f.2.1 + q) (f.2.2 + r), halfB p q r f.1 (f.2.1 + p) f.2.2, halfB p q r f.1 (f.2.1 + p + q) (f.2.2 + r)]
  unfold hvB
  have z : ∀ n : Nat, ((0 : Nat) : Int) * (n : Int) = 0 := fun n => Int.zero_mul _
  have o : ∀ n : Nat, ((1 : Nat) : Int) * (n : Int) = n := fun n => Int.one_mul _
  simp only [z, o, Int.add_zero]
theorem hvs_more (p q r m : Nat) (a b : Int) (i j : Nat) (hj : j < 2) : hvs p q r m a b (2 * i + j + 1) = hvs p q r m a b (2 * i + j) ++ [hvB p q r m a b i j] := by
  unfold hvs
  rw [List.range_succ, List.map_append]
  have e1 : (2 * i + j) / 2 = i := by omega
  have e2 : (2 * i + j) % 2 = j := by omega
  show _ ++ [hvB p q r m a b ((2 * i + j) / 2) ((2 * i + j) % 2)] = _
  rw [e1, e2]
def spHalves (CR : Addr) : Sp := fun vs H Q _ => ∃ (rp t : Addr) (p q r : Nat) (f : Nat × Nat × Nat), vs = [.ref rp, .ref t] ∧ RepAt CR H rp p q r ∧ Small p q r ∧ H t = some (.tup (tup3 f)) ∧ f.1 < 8 ∧
  ∀ l H', Same H H' → H l = none → H' l = some (.lst ((halvesB p q r f).map V.bl)) → Q (.ref l) H'
theorem scHalves : FnScope ["repeat", "first", "m", "a", "b", "found", "i", "j"] ["repeat", "first"] (defScope sHalves) := ⟨rfl, rfl, rfl, by decide +kernel, rfl, by decide +kernel, by decide +kernel⟩
theorem ok_halves {f : Addr} {fd : FuncData} (F : Fun K "halves" "halves" sHalves f fd) (T : TxT K mg) (TR : TxR K CR) (DH : Def P w K mg base CX0 3 "is_half_step" ["repeat", "m", "a", "b"] (spHalf CR)) : FnOk P w K mg base CX0 4 f fd ["repeat", "first"] (spHalves CR) := by
  obtain ⟨fh, fdh, gh, kh, bh, GH⟩ := DH.ex
  refine F.ok scHalves (fun vs H Q E h => ?_) (fun cdv A outer s H vs Q E hr h => ?_)
  · obtain ⟨rp, t, p, q, r, f, rfl, _⟩ := h
    rfl
  · obtain ⟨rp, t, p, q, r, f, rfl, hrp, sm, ht, f8, k⟩ := h
    refine ⟨_, pss_cons (ps_asg (pv 1) (pg_tup rfl (pgs_cons (pg_name (i := 2) scHalves.nd rfl (.inl rfl)) (pgs_cons (pg_name (i := 3) scHalves.nd rfl (.inl rfl)) (pgs_cons (pg_name (i := 4) scHalves.nd rfl (.inl rfl)) pgs_nil)))))
      (pss_cons (ps_set (i := 5) scHalves.nd rfl (Or.inl rfl) (pe_lst pa_nil))
      (pss_cons (ps_for PassesOwn.never rfl (pi_range1 (by rfl) T.mRange (pa_cons pe_int pa_nil)) (pg_name (i := 6) scHalves.nd rfl (.inl rfl))
        (pss_one (ps_for PassesOwn.never rfl (pi_range1 (by rfl) T.mRange (pa_cons pe_int pa_nil)) (pg_name (i := 7) scHalves.nd rfl (.inl rfl))
          (pss_one (ps_expr (pe_bm PySem.F.plainAttrs_list PySem.F.slot_list_append PySem.F.type_list_append mt_append (pv 5) (pa_cons (pe_call GH hr rfl gh kh bh .nil pass0 (pa_cons (pv 0) (pa_cons (pv 2)
            (pa_cons (pe_op op_add (pe_op op_add (pv 3) (pe_op op_mul (pv 6) (pe_fld (pv 0) rfl))) (pe_op op_mul (pv 7) (pe_fld (pv 0) rfl)))
            (pa_cons (pe_op op_add (pv 4) (pe_op op_mul (pv 7) (pe_fld (pv 0) rfl))) pa_nil))))) pa_nil)))))))
      (pss_one (ps_ret (pv 5))))), ?_⟩
    refine ⟨_, rfl, t, _, rfl, SqT.of ht, rfl, _, _, rfl, _, _, rfl, _, _, rfl, rfl, ?_⟩
    refine ⟨Nat.zero_le _, fun l nl => ?_⟩
    have sm' := sm
    obtain ⟨p0, pl, ql, r0, rl⟩ := sm'
    refine ⟨2, rfl, by decide, by decide, ?_⟩
    refine for_range (lo := 0) (n := (2 : Int).toNat) (fun i σ H' => ∃ v6 v7 : Option V, σ = [some (.ref rp), some (.ref t), some (.int f.1), some (.int f.2.1), some (.int f.2.2), some (.ref l), v6, v7] ∧ Same H H' ∧ H' l = some (.lst ((hvs p q r f.1 f.2.1 f.2.2 (2 * i)).map V.bl)))
      ⟨none, none, rfl, same_upd nl, upd_same⟩ ?_ ?_
    · rintro i σ H1 hi ⟨v6, v7, rfl, s1, h1⟩
      have hi2 : i < 2 := hi
      refine ⟨2, rfl, by decide, by decide, ?_⟩
      refine for_range (lo := 0) (n := (2 : Int).toNat) (fun j σ H' => ∃ v7 : Option V, σ = [some (.ref rp), some (.ref t), some (.int f.1), some (.int f.2.1), some (.int f.2.2), some (.ref l), some (.int (0 + i)), v7] ∧ Same H H' ∧ H' l = some (.lst ((hvs p q r f.1 f.2.1 f.2.2 (2 * i + j)).map V.bl)))
        ⟨v7, rfl, s1, h1⟩ ?_ ?_
      · rintro j σ H2 hj ⟨v7, rfl, s2, h2⟩
        have hj2 : j < 2 := hj
        obtain ⟨dx, hdx⟩ := hrp.same s2
        refine ⟨_, rfl, .inl ⟨rfl, _, SqL.of h2⟩, ?_⟩
        refine ⟨_, rfl, _, rfl, _, rfl, _, rfl, _, rfl, rp, CR, dx, _, _, rfl, hdx, TR.cl, TR.nP, rpF_p, _, _, rfl, rfl, .inr ⟨by omega, by omega⟩, _, _, rfl, rfl, _, rfl, _, rfl, rp, CR, dx, _, _, rfl, hdx, TR.cl, TR.nQ, rpF_q, _, _, rfl, rfl, .inr ⟨by omega, by omega⟩, _, _, rfl, rfl, ?_⟩
        refine ⟨_, rfl, _, rfl, _, rfl, rp, CR, dx, _, _, rfl, hdx, TR.cl, TR.nR, rpF_r, _, _, rfl, rfl, .inr ⟨by omega, by omega⟩, _, _, rfl, rfl, ?_⟩
        refine ⟨rp, p, q, r, f.1, (f.2.1 : Int) + (i : Int) * p + (j : Int) * q, (f.2.2 : Int) + (j : Int) * r, ?_, ⟨dx, hdx⟩, sm, f8, fun H3 s3 => ?_⟩
        · have ei : (0 : Int) + i = i := Int.zero_add _
          have ej : (0 : Int) + j = j := Int.zero_add _
          show [V.ref rp, V.int (f.1 : Int), V.int ((f.2.1 : Int) + (0 + (i : Int)) * (p : Int) + (0 + (j : Int)) * (q : Int)), V.int ((f.2.2 : Int) + (0 + (j : Int)) * (r : Int))] = _
          rw [ei, ej]
        · refine ⟨l, _, _, rfl, rfl, s3 _ _ h2, ?_, _, rfl, same_put (s2.trans s3) nl, ?_⟩
          · rw [List.length_map]
            unfold hvs
            rw [List.length_map, List.length_range]
            exact lt_line (by omega)
          · rw [upd_same, show 2 * i + (j + 1) = 2 * i + j + 1 from rfl, hvs_more p q r f.1 f.2.1 f.2.2 i j hj2, List.map_append]
            rfl
      · rintro σ H2 ⟨v7, rfl, s2, h2⟩
        exact ⟨_, _, rfl, s2, h2⟩
    · rintro σ H1 ⟨v6, v7, rfl, s1, h1⟩
      refine ⟨_, rfl, k l H1 s1 nl ?_⟩
      rw [← hvs_four]
      exact h1
/-! kind_of_four, kind_of_half -/
def spKind4 : Sp := fun vs H Q _ => ∃ (m : Nat) (g : Bool), vs = [.int m, .bl g] ∧ Q (.int (kind4 m g : Nat)) H
theorem scKind4 : FnScope ["mirrors", "has_glides"] ["mirrors", "has_glides"] (defScope sKind4) := ⟨rfl, rfl, rfl, by decide +kernel, rfl, by decide +kernel, by decide +kernel⟩
theorem ok_kind4 {f : Addr} {fd : FuncData} (F : Fun K "kind_of_four" "kind_of_four" sKind4 f fd) : FnOk P w K mg base CX0 1 f fd ["mirrors", "has_glides"] spKind4 := by
  refine F.ok scKind4 (fun vs H Q E h => ?_) (fun cdv A outer s H vs Q E hr h => ?_)
  · obtain ⟨m, g, rfl, _⟩ := h
    rfl
  · obtain ⟨m, g, rfl, q⟩ := h
    refine ⟨_, pss_cons (ps_if (pt_cmpR op_eq (pv 0) pe_int (nomark _)) (pss_one (ps_ret pe_int)) pss_nil) (pss_cons (ps_if (pt_val (pv 1)) (pss_one (ps_ret pe_int)) pss_nil) (pss_one (ps_ret pe_int))), ?_⟩
    unfold kind4 at q
    refine ⟨_, rfl, rfl, _, rfl, if_two (fun e => ?_) fun e => ?_⟩
    · rw [decV, decide_eq_true_eq] at e
      rw [if_pos (by omega)] at q
      exact q
    · rw [decV, decide_eq_false_iff_not] at e
      rw [if_neg (by omega)] at q
      refine ⟨_, rfl, _, rfl, if_two (fun e2 => ?_) fun e2 => ?_⟩
      · rw [if_pos e2] at q
        exact q
      · rw [e2, if_neg Bool.false_ne_true] at q
        exact q
def spKindH : Sp := fun vs H Q _ => ∃ (m : Nat) (g : Bool), vs = [.int m, .bl g] ∧ Q (.int (kindH m g : Nat)) H
theorem scKindH : FnScope ["mirrors", "has_glides"] ["mirrors", "has_glides"] (defScope sKindH) := ⟨rfl, rfl, rfl, by decide +kernel, rfl, by decide +kernel, by decide +kernel⟩
theorem ok_kindH {f : Addr} {fd : FuncData} (F : Fun K "kind_of_half" "kind_of_half" sKindH f fd) : FnOk P w K mg base CX0 1 f fd ["mirrors", "has_glides"] spKindH := by
  refine F.ok scKindH (fun vs H Q E h => ?_) (fun cdv A outer s H vs Q E hr h => ?_)
  · obtain ⟨m, g, rfl, _⟩ := h
    rfl
  · obtain ⟨m, g, rfl, q⟩ := h
    refine ⟨_, pss_cons (ps_if (pt_cmpR op_eq (pv 0) pe_int (nomark _)) (pss_one (ps_ret pe_int)) pss_nil) (pss_cons (ps_if (pt_cmpR op_eq (pv 0) pe_int (nomark _)) (pss_one (ps_ret pe_int)) pss_nil) (pss_cons (ps_if (pt_val (pv 1)) (pss_one (ps_ret pe_int)) pss_nil) (pss_one (ps_ret pe_int)))), ?_⟩
    unfold kindH at q
    refine ⟨_, rfl, rfl, _, rfl, if_two (fun e => ?_) fun e => ?_⟩
    · rw [decV, decide_eq_true_eq] at e
      rw [if_pos (by omega)] at q
      exact q
    · rw [decV, decide_eq_false_iff_not] at e
      rw [if_neg (by omega)] at q
      refine ⟨_, rfl, rfl, _, rfl, if_two (fun e1 => ?_) fun e1 => ?_⟩
      · rw [decV, decide_eq_true_eq] at e1
        rw [if_pos (by omega)] at q
        exact q
      · rw [decV, decide_eq_false_iff_not] at e1
        rw [if_neg (by omega)] at q
        refine ⟨_, rfl, _, rfl, if_two (fun e2 => ?_) fun e2 => ?_⟩
        · rw [if_pos e2] at q
          exact q
        · rw [e2, if_neg Bool.false_ne_true] at q
          exact q
end
end Kn
set_option Elab.async false
set_option linter.all false
set_option maxRecDepth 100000
set_option maxHeartbeats 4000000
/-! ### kinds: kind_of -/
namespace Kn
open PySem PySem.Spec PyProof.Rows L2
abbrev sKindOf : Stmt := topS 30
def natV (l : List Nat) : List V := (l.map fun (a : Nat) => (a : Int)).map V.int
theorem natV_in (S : List Nat) (a : Nat) : inV (V.int (a : Int)) (natV S) = S.contains a := by
  unfold natV
  rw [Bool.eq_iff_iff, List.contains_iff_mem]
  unfold inV
  rw [List.any_eq_true]
  constructor
  · rintro ⟨v, hv, e⟩
    rw [List.map_map, List.mem_map] at hv
    obtain ⟨b, hb, rfl⟩ := hv
    have : (b : Int) = (a : Int) := by simpa [eqV] using e
    have : b = a := by omega
    rw [← this]
    exact hb
  · intro h
    exact ⟨V.int (a : Int), by rw [List.map_map]; exact List.mem_map.mpr ⟨a, h, rfl⟩, by simp [eqV]⟩
theorem natV_flat (S : List Nat) : (natV S).all flatV = true := by
  unfold natV
  rw [List.map_map, List.all_map, List.all_eq_true]
  intro x _
  rfl
/-- lists of truth values stand at the addresses -/
def BlsAt (H : Hp) (ads : List Addr) (rs : List (List Bool)) : Prop := ads.length = rs.length ∧ ∀ (i : Nat) (ad : Addr) (r : List Bool), ads[i]? = some ad → rs[i]? = some r → H ad = some (.lst (r.map V.bl))
theorem BlsAt.same {H H' : Hp} {ads : List Addr} {rs : List (List Bool)} (h : BlsAt H ads rs) (s : Same H H') : BlsAt H' ads rs := ⟨h.1, fun i ad r e1 e2 => s _ _ (h.2 i ad r e1 e2)⟩
theorem BlsAt.dp {K : PySem.W.Frag} {H : Hp} : ∀ {ads : List Addr} {rs : List (List Bool)}, BlsAt H ads rs → DpAll K H (ads.map V.ref) (rs.map dBls)
  | [], [], _ => .nil
  | [], _ :: _, h => by cases h.1
  | _ :: _, [], h => by cases h.1
  | a :: as, r :: rs, h => .cons (dp_bls (SqL.of (h.2 0 a r rfl rfl))) (BlsAt.dp (ads := as) (rs := rs) ⟨by simpa using h.1, fun i ad r' e1 e2 => h.2 (i + 1) ad r' (by simpa using e1) (by simpa using e2)⟩)
/-- c or d as a test, told once for both ways -/
theorem test_or {tA tB : TT} {σ : L2.St} {H : Hp} {Qb : Bool → Hp → Prop} (c d : Bool) (hA : ∀ Q : Bool → Hp → Prop, (∀ H1, Same H H1 → Q c H1) → tA σ H Q) (hB : ∀ H1, Same H H1 → ∀ Q : Bool → Hp → Prop, (∀ H2, Same H1 H2 → Q d H2) → tB σ H1 Q)
    (hq : ∀ H2, Same H H2 → Qb (c || d) H2) : tOr tA tB σ H Qb := by
  refine hA _ fun H1 s1 => if_two (fun e => ?_) fun e => ?_
  · have := hq H1 s1
    rw [e, Bool.true_or] at this
    exact this
  · refine hB H1 s1 _ fun H2 s2 => ?_
    have := hq H2 (s1.trans s2)
    rw [e, Bool.false_or] at this
    exact this
theorem rowsB_more {p q r : Nat} {fs : List (Nat × Nat × Nat)} {j : Nat} {f : Nat × Nat × Nat} (h : fs[j]? = some f) : rowsB p q r (fs.take (j + 1)) = rowsB p q r (fs.take j) ++ (if 3 < f.1 then [halvesB p q r f] else []) := by
  unfold rowsB
  rw [take_more h, List.filter_append, List.map_append, List.filter_cons]
  by_cases c : 3 < f.1
  · rw [if_pos c, decide_eq_true c]
    rfl
  · rw [if_neg c, decide_eq_false c]
    rfl
theorem rowsB_len (p q r : Nat) (fs : List (Nat × Nat × Nat)) : (rowsB p q r fs).length ≤ fs.length := by
  unfold rowsB
  rw [List.length_map]
  exact List.length_filter_le _ _
section
variable {P : Program} {w : World} {K : PySem.W.Frag} {mg : Str → Option Value} {base : Heap} {C CR : Addr}
def spKindOf (CR : Addr) : Sp := fun vs H Q _ => ∃ (rp l : Addr) (p q r : Nat) (fs : List (Nat × Nat × Nat)), vs = [.ref rp, .ref l] ∧ RepAt CR H rp p q r ∧ Small p q r ∧ FirstsAt H l fs ∧ fs.length ≤ 8 ∧ (∀ f ∈ fs, f.1 < 8) ∧
  ∀ t H', Same H H' → H' t = some (.tup [.int (kindP p q r fs : Nat), .int (mirrorsB p q r fs : Nat)]) → Q (.ref t) H'
theorem scKindOf : FnScope ["repeat", "firsts", "has", "rows", "mirrors", "has_glides", "m", "a", "b", "first", "row"] ["repeat", "firsts"] (defScope sKindOf) := ⟨rfl, rfl, rfl, by decide +kernel, rfl, by decide +kernel, by decide +kernel⟩
theorem ok_kindOf {f : Addr} {fd : FuncData} (F : Fun K "kind_of" "kind_of" sKindOf f fd) (TC : TxC K mg C) (mAny : mg "any" = none) (DH : Def P w K mg base CX0 4 "halves" ["repeat", "first"] (spHalves CR))
    (D4 : Def P w K mg base CX0 1 "kind_of_four" ["mirrors", "has_glides"] spKind4) (DK : Def P w K mg base CX0 1 "kind_of_half" ["mirrors", "has_glides"] spKindH) : FnOk P w K mg base CX0 5 f fd ["repeat", "firsts"] (spKindOf CR) := by
  obtain ⟨fh, fdh, gh, kh, bh, GH⟩ := DH.ex
  obtain ⟨f4, fd4, g4, k4, b4, G4⟩ := D4.ex
  obtain ⟨fk, fdk, gk, kk, bk, GK⟩ := DK.ex
  refine F.ok scKindOf (fun vs H Q E h => ?_) (fun cdv A outer s H vs Q E hr h => ?_)
  · obtain ⟨rp, l, p, q, r, fs, rfl, _⟩ := h
    rfl
  · have hr1 : Room 1 _ := hr.mono (by decide)
    obtain ⟨rp, l, p, q, r, fs, rfl, hrp, sm, hfs, l8, f8, k⟩ := h
    refine ⟨_, pss_cons (ps_setLc (i := 2) (own := [("m", 6), ("a", 7), ("b", 8)]) (g := gTup K 3 (gCons (gName 6) (gCons (gName 7) (gCons (gName 8) gNil)))) (tt := tYes) rfl scKindOf.nd rfl rfl (sw_true rfl rfl rfl (by decide +kernel)) (pi_list (pv 1)) (blkOk_by (own := [("m", 6), ("a", 7), ("b", 8)]) (N := ["repeat", "firsts", "has", "rows", "mirrors", "has_glides", "m", "a", "b", "first", "row"]) (sc := defScope sKindOf) (by decide +kernel))
          (fun _ _ _ _ _ => pg_tup rfl (pgs_cons (pg_name (i := 6) scKindOf.nd rfl (.inl rfl)) (pgs_cons (pg_name (i := 7) scKindOf.nd rfl (.inl rfl)) (pgs_cons (pg_name (i := 8) scKindOf.nd rfl (.inl rfl)) pgs_nil)))) (fun _ _ _ _ _ => pts_nil) (fun _ _ _ _ _ => pv 6))
      (pss_cons (ps_setLc (i := 3) (own := [("first", 9)]) (g := gName 9) (tt := tTest (tOp (rI0 fun i j => .bl (decide (j < i))) (tOp (rIxT K) (tVar 9) (tC (.int 0))) (tC (.int 3)))) rfl scKindOf.nd rfl rfl (sw_true rfl rfl rfl (by decide +kernel)) (pi_list (pv 1)) (blkOk_by (own := [("first", 9)]) (N := ["repeat", "firsts", "has", "rows", "mirrors", "has_glides", "m", "a", "b", "first", "row"]) (sc := defScope sKindOf) (by decide +kernel))
          (fun _ _ _ _ _ => pg_name (i := 9) scKindOf.nd rfl (Or.inl rfl)) (fun _ _ _ _ _ => pts_one (pt_cmpR op_gt (pe_ix ix_tup (pv 9) pe_int (fun _ _ => rfl)) pe_int (nomark _))) (fun _ _ _ _ _ => pe_call GH hr rfl gh kh bh .nil pass0 (pa_cons (pv 0) (pa_cons (pv 9) pa_nil))))
      (pss_cons (ps_set (i := 4) scKindOf.nd rfl (Or.inl rfl) (pe_callB call_len_seq (by rfl) TC.mLen PySem.boot_len (pa_cons (pe_lc (own := [("row", 10)]) (g := gName 10) (tt := tB (tCB (rAny K) (tCons (tVar 10) tNil))) rfl scKindOf.nd (pi_list (pv 3)) (blkOk_by (own := [("row", 10)]) (N := ["repeat", "firsts", "has", "rows", "mirrors", "has_glides", "m", "a", "b", "first", "row"]) (sc := defScope sKindOf) (by decide +kernel))
          (fun _ _ _ _ _ => pg_name (i := 10) scKindOf.nd rfl (Or.inl rfl)) (fun _ _ _ _ _ => pts_one (pt_val (pe_callB (id := "any") (cr_any rfl) (by rfl) mAny (by decide +kernel) (pa_cons (pv 10) pa_nil)))) (fun _ _ _ _ _ => pv 10)) pa_nil)))
      (pss_cons (ps_set (i := 5) scKindOf.nd rfl (Or.inl rfl) (pe_not (pe_callB (cr_all rfl) (by rfl) TC.mAll (by decide +kernel) (pa_cons (pe_lc (own := [("row", 10)]) (g := gName 10) (tt := tYes) (te := tCB (rAll K) (tCons (tVar 10) tNil)) rfl scKindOf.nd (pi_list (pv 3)) (blkOk_by (own := [("row", 10)]) (N := ["repeat", "firsts", "has", "rows", "mirrors", "has_glides", "m", "a", "b", "first", "row"]) (sc := defScope sKindOf) (by decide +kernel))
          (fun _ _ _ _ _ => pg_name (i := 10) scKindOf.nd rfl (Or.inl rfl)) (fun _ _ _ _ _ => pts_nil) (fun _ _ _ _ _ => pe_callB (id := "all") (cr_all rfl) (by rfl) TC.mAll (by decide +kernel) (pa_cons (pv 10) pa_nil))) pa_nil))))
      (pss_cons (ps_if (PW.pt (pw_or (pt_cmpR op_in_seq pe_int (pv 2) (by rfl)) (pw_or1 (pt_cmpR op_in_seq pe_int (pv 2) (by rfl)))))
        (pss_cons (ps_if (pt_cmpR (op_eqD hr.units) (pv 3) (pe_lst pa_nil) (nomark _)) (pss_one (ps_ret (pe_tup (pa_cons pe_int (pa_cons (pv 4) pa_nil))))) pss_nil)
        (pss_cons (ps_if (pt_cmpR op_eq (pv 4) pe_int (nomark _)) (pss_one (ps_ret (pe_tup (pa_cons pe_int (pa_cons (pv 4) pa_nil))))) pss_nil)
        (pss_one (ps_ret (pe_tup (pa_cons pe_int (pa_cons (pv 4) pa_nil))))))) pss_nil)
      (pss_cons (ps_if (pt_cmpR op_in_seq pe_int (pv 2) (by rfl))
        (pss_cons (ps_if (pt_cmpR (op_eqD hr.units) (pv 3) (pe_lst pa_nil) (nomark _)) (pss_one (ps_ret (pe_tup (pa_cons pe_int (pa_cons (pv 4) pa_nil))))) pss_nil)
        (pss_one (ps_ret (pe_tup (pa_cons (pe_call GK hr1 rfl gk kk bk .nil pass0 (pa_cons (pv 4) (pa_cons (pv 5) pa_nil))) (pa_cons (pv 4) pa_nil)))))) pss_nil)
      (pss_cons (ps_if (pt_cmpR (op_eqD hr.units) (pv 3) (pe_lst pa_nil) (nomark _)) (pss_one (ps_ret (pe_tup (pa_cons pe_int (pa_cons (pv 4) pa_nil))))) pss_nil)
      (pss_one (ps_ret (pe_tup (pa_cons (pe_call G4 hr1 rfl g4 k4 b4 .nil pass0 (pa_cons (pv 4) (pa_cons (pv 5) pa_nil))) (pa_cons (pv 4) pa_nil))))))))))), ?_⟩
    obtain ⟨ts, hl, htl, hts⟩ := hfs
    -- has
    refine ⟨_, rfl, l, rfl, ⟨_, SqL.of hl⟩, fun D1 nD1 => ?_⟩
    refine lc_list (K := K) (a := l) (xs := ts.map V.ref) (fun j H' => Same H H' ∧ H' D1 = some (.lst (natV ((fs.take j).map fun f => f.1)))) ⟨same_upd nD1, upd_same⟩ (fun j H' _ h => h.1.seq (SqL.of hl)) (fun j x H' hx h => ?_) fun H1 h => ?_
    · obtain ⟨s1, h1⟩ := h
      obtain ⟨t, ht, rfl⟩ := map_get hx
      have hj : j < fs.length := by
        rw [← htl]
        exact (List.getElem?_eq_some_iff.mp ht).1
      have hf : fs[j]? = some fs[j] := List.getElem?_eq_getElem hj
      have htt := hts j t fs[j] ht hf
      refine ⟨t, _, rfl, SqT.of (s1 _ _ htt), rfl, _, _, rfl, _, _, rfl, _, _, rfl, rfl, rfl, ?_⟩
      unfold tYes
      dsimp only
      rw [if_pos rfl]
      refine ⟨_, rfl, _, h1, ?_, same_put s1 nD1, ?_⟩
      · unfold natV
        rw [List.length_map, List.length_map, List.length_map, List.length_take]
        exact lt_line (by omega)
      · rw [upd_same, take_more hf]
        unfold natV
        rw [List.map_append, List.map_append, List.map_append]
        rfl
    obtain ⟨s1, hHas⟩ := h
    rw [List.length_map, htl, List.take_length] at hHas
    -- rows
    refine ⟨_, rfl, l, rfl, ⟨_, SqL.of (s1 _ _ hl)⟩, fun D2 nD2 => ?_⟩
    refine lc_list (K := K) (a := l) (xs := ts.map V.ref) (fun j H' => Same H1 H' ∧ ∃ ads : List Addr, H' D2 = some (.lst (ads.map V.ref)) ∧ BlsAt H' ads (rowsB p q r (fs.take j)) ∧ ∀ ad ∈ ads, ad ≠ D2)
      ⟨same_upd nD2, [], upd_same, ⟨rfl, fun i ad r e _ => by simp at e⟩, fun ad m => by cases m⟩ (fun j H' _ h => h.1.seq (SqL.of (s1 _ _ hl))) (fun j x H' hx h => ?_) fun H2 h => ?_
    · obtain ⟨s2, ads, h2, hb, hne⟩ := h
      obtain ⟨t, ht, rfl⟩ := map_get hx
      have hj : j < fs.length := by
        rw [← htl]
        exact (List.getElem?_eq_some_iff.mp ht).1
      have hf : fs[j]? = some fs[j] := List.getElem?_eq_getElem hj
      have htt := s2 _ _ (s1 _ _ (hts j t fs[j] ht hf))
      refine ⟨wipe_back _ _ _, ?_⟩
      refine ⟨_, rfl, t, tup3 fs[j], 0, .int fs[j].1, rfl, rfl, SqT.of htt, at_of rfl rfl, _, _, rfl, rfl, _, rfl, if_two (fun e => ?_) fun e => ?_⟩
      · rw [decide_eq_true_eq] at e
        have e3 : 3 < fs[j].1 := by omega
        refine ⟨_, rfl, _, rfl, rp, t, p, q, r, fs[j], rfl, hrp.same (s1.trans s2), sm, htt, f8 _ (List.getElem_mem hj), fun d H4 s4 nd hd => ?_⟩
        have hdD : d ≠ D2 := fun z => by
          rw [z, h2] at nd
          cases nd
        have hblen := hb.1
        have hrl := rowsB_len p q r (fs.take j)
        rw [List.length_take] at hrl
        refine ⟨_, s4 _ _ h2, ?_, same_put (s2.trans s4) nD2, ads ++ [d], ?_, ⟨?_, ?_⟩, ?_⟩
        · rw [List.length_map]
          exact lt_line (by omega)
        · rw [upd_same, List.map_append]
          rfl
        · rw [rowsB_more hf, if_pos e3, List.length_append, List.length_append, hblen]
          rfl
        · intro i ad bs e1 e2
          rw [rowsB_more hf, if_pos e3] at e2
          by_cases hi : i < ads.length
          · rw [List.getElem?_append_left hi] at e1
            rw [List.getElem?_append_left (by rw [← hblen]; exact hi)] at e2
            rw [upd_ne (hne ad (List.mem_of_getElem? e1))]
            exact s4 _ _ (hb.2 i ad bs e1 e2)
          · have hi2 : i < (ads ++ [d]).length := (List.getElem?_eq_some_iff.mp e1).1
            rw [List.length_append, List.length_singleton] at hi2
            have ei : i = ads.length := by omega
            subst ei
            rw [List.getElem?_append_right (Nat.le_refl _), Nat.sub_self] at e1
            rw [hblen, List.getElem?_append_right (Nat.le_refl _), Nat.sub_self] at e2
            have e1' : d = ad := Option.some.inj e1
            have e2' : halvesB p q r fs[j] = bs := Option.some.inj e2
            subst e1' e2'
            rw [upd_ne hdD]
            exact hd
        · intro ad m
          rcases List.mem_append.mp m with m | m
          · exact hne ad m
          · rw [List.mem_singleton.mp m]
            exact hdD
      · rw [decide_eq_false_iff_not] at e
        have e3 : ¬ 3 < fs[j].1 := by omega
        refine ⟨s2, ads, h2, ?_, hne⟩
        rw [rowsB_more hf, if_neg e3, List.append_nil]
        exact hb
    obtain ⟨s2, ads, hRows, hb, _⟩ := h
    rw [List.length_map, htl, List.take_length] at hb
    have rl := rowsB_len p q r fs
    have hblen := hb.1
    -- mirrors
    refine ⟨_, rfl, D2, rfl, ⟨_, SqL.of hRows⟩, fun D3 nD3 => ?_⟩
    refine lc_list (K := K) (a := D2) (xs := ads.map V.ref) (fun j H' => Same H2 H' ∧ ∃ xs : List V, H' D3 = some (.lst xs) ∧ xs.length = (((rowsB p q r fs).take j).filter fun l => l.any id).length)
      ⟨same_upd nD3, [], upd_same, rfl⟩ (fun j H' _ h => h.1.seq (SqL.of hRows)) (fun j x H' hx h => ?_) fun H3 h => ?_
    · obtain ⟨s3, xs, h3, hx3⟩ := h
      obtain ⟨ad, had, rfl⟩ := map_get hx
      have hj : j < (rowsB p q r fs).length := by
        rw [← hblen]
        exact (List.getElem?_eq_some_iff.mp had).1
      have hf : (rowsB p q r fs)[j]? = some (rowsB p q r fs)[j] := List.getElem?_eq_getElem hj
      have hro := s3 _ _ (hb.2 j ad _ had hf)
      generalize (rowsB p q r fs)[j] = row at hf hro
      have more : (((rowsB p q r fs).take (j + 1)).filter fun l => l.any id).length = xs.length + (if row.any id = true then 1 else 0) := by
        rw [take_more hf, List.filter_append, List.length_append, hx3, List.filter_cons]
        split <;> rfl
      refine ⟨wipe_back _ _ _, ?_⟩
      refine ⟨_, rfl, ad, row, rfl, SqL.of hro, _, rfl, if_two (fun e => ?_) fun e => ?_⟩
      · rw [if_pos e] at more
        refine ⟨_, rfl, xs, h3, ?_, same_put s3 nD3, _, upd_same, ?_⟩
        · rw [hx3]
          have := List.length_filter_le (fun l : List Bool => l.any id) ((rowsB p q r fs).take j)
          rw [List.length_take] at this
          exact lt_line (by omega)
        · rw [more, List.length_append]
          rfl
      · rw [e, if_neg Bool.false_ne_true] at more
        exact ⟨s3, xs, h3, more.symm⟩
    obtain ⟨s3, xs, h3, hx3⟩ := h
    rw [List.length_map, hblen, List.take_length] at hx3
    refine ⟨D3, _, rfl, .inl (SqL.of h3), ?_⟩
    have eM : (xs.length : Int) = ((mirrorsB p q r fs : Nat) : Int) := by
      rw [hx3]
      rfl
    rw [eM]
    -- has_glides
    refine ⟨_, rfl, D2, rfl, ⟨_, SqL.of (s3 _ _ hRows)⟩, fun D4 nD4 => ?_⟩
    refine lc_map nD4 (SqL.of (s3 _ _ hRows)) (by rw [List.length_map]; omega) (((rowsB p q r fs).map fun l => l.all id).map V.bl) (by rw [List.length_map, List.length_map, List.length_map, hblen]) (fun j x y H' hx hy s4 Q' hQ => ?_) fun H4 s4 hD4 => ?_
    · obtain ⟨ad, had, rfl⟩ := map_get hx
      rw [List.map_map] at hy
      obtain ⟨row, hrow, rfl⟩ := map_get hy
      exact ⟨_, rfl, ad, row, rfl, SqL.of (s4 _ _ (s3 _ _ (hb.2 j ad row had hrow))), hQ H' (Same.refl _)⟩
    refine ⟨D4, _, rfl, SqL.of hD4, _, rfl, ?_⟩
    have s5 := (s3.trans s4)
    have s6 := (s1.trans s2).trans s5
    have hHas5 := s5 _ _ (s2 _ _ hHas)
    have hRows5 := s5 _ _ hRows
    have hb5 := hb.same s5
    have eIn : ∀ n : Nat, inV (V.int (n : Int)) (natV (fs.map fun f => f.1)) = hasB fs n := fun n => natV_in _ n
    have eG : (!((rowsB p q r fs).map fun l => l.all id).all id) = glidesB p q r fs := rfl
    rw [eG]
    have dpR : ∀ H6, Same H4 H6 → Dp K H6 (.ref D2) (.list ((rowsB p q r fs).map dBls)) := fun H6 s => .lst (SqL.of (s _ _ hRows5)) (hb5.same s).dp
    have shR : SeqAt.shaped (.list ((rowsB p q r fs).map dBls)) = true := shaped_list dBls _ (fun r _ => (dBls_lay r).1) (fun r _ => (dBls_lay r).2)
    have eE : PyData.eqv (.list ((rowsB p q r fs).map dBls)) (.list []) = decide (rowsB p q r fs = []) := by
      rw [eqv_empty]
      cases rowsB p q r fs <;> simp
    have two : (2 : Nat) ≤ sizeLine := by decide
    unfold kindP at k
    -- 1 in has or 3 in has
    dsimp only [gName, tSeq, tIfS]
    refine test_or (hasB fs 1) (hasB fs 3) (fun Qb hQ => ?_) (fun H5 s Qb hQ => ?_) fun H5 t5 => if_two (fun e1 => ?_) fun e1 => ?_
    · refine ⟨_, rfl, D1, _, rfl, .inl (SqL.of hHas5), rfl, natV_flat _, _, rfl, ?_⟩
      show Qb (inV (V.int ((1 : Nat) : Int)) (natV (fs.map fun f => f.1))) H4
      rw [eIn]
      exact hQ H4 (Same.refl _)
    · refine ⟨_, rfl, D1, _, rfl, .inl (SqL.of (s _ _ hHas5)), rfl, natV_flat _, _, rfl, ?_⟩
      show Qb (inV (V.int ((3 : Nat) : Int)) (natV (fs.map fun f => f.1))) H5
      rw [eIn]
      exact hQ H5 (Same.refl _)
    · rw [if_pos e1] at k
      refine ⟨_, rfl, Nat.zero_le _, fun e ne => ⟨_, .list [], dpR _ (t5.trans (same_upd ne)), dp_empty upd_same, shR, rfl, _, rfl, ?_⟩⟩
      rw [eE]
      have t6 := (s6.trans t5).trans (same_upd (o := .lst []) ne)
      generalize upd H5 e (.lst []) = H6 at t6
      refine if_two (fun e2 => ?_) fun e2 => ?_
      · rw [if_pos (of_decide_eq_true e2)] at k
        exact ⟨_, rfl, two, fun t nt => k t _ (t6.trans (same_upd nt)) upd_same⟩
      · rw [if_neg (of_decide_eq_false e2)] at k
        refine ⟨_, rfl, rfl, _, rfl, ?_⟩
        rw [decV]
        refine if_two (fun e3 => ?_) fun e3 => ?_
        · rw [decide_eq_true_eq] at e3
          rw [if_pos (by omega)] at k
          exact ⟨_, rfl, two, fun t nt => k t _ (t6.trans (same_upd nt)) upd_same⟩
        · rw [decide_eq_false_iff_not] at e3
          rw [if_neg (by omega)] at k
          exact ⟨_, rfl, two, fun t nt => k t _ (t6.trans (same_upd nt)) upd_same⟩
    · rw [if_neg (by rw [e1]; exact Bool.false_ne_true)] at k
      refine ⟨_, rfl, D1, _, rfl, .inl (SqL.of (t5 _ _ hHas5)), rfl, natV_flat _, _, rfl, ?_⟩
      show if inV (V.int ((2 : Nat) : Int)) (natV (fs.map fun f => f.1)) = true then _ else _
      rw [eIn]
      refine if_two (fun e2 => ?_) fun e2 => ?_
      · rw [if_pos e2] at k
        refine ⟨_, rfl, Nat.zero_le _, fun e ne => ⟨_, .list [], dpR _ (t5.trans (same_upd ne)), dp_empty upd_same, shR, rfl, _, rfl, ?_⟩⟩
        rw [eE]
        have t6 := (s6.trans t5).trans (same_upd (o := .lst []) ne)
        generalize upd H5 e (.lst []) = H6 at t6
        refine if_two (fun e3 => ?_) fun e3 => ?_
        · rw [if_pos (of_decide_eq_true e3)] at k
          exact ⟨_, rfl, two, fun t nt => k t _ (t6.trans (same_upd nt)) upd_same⟩
        · rw [if_neg (of_decide_eq_false e3)] at k
          exact ⟨_, rfl, _, rfl, _, _, rfl, _, rfl, two, fun t nt => k t _ (t6.trans (same_upd nt)) upd_same⟩
      · rw [if_neg (by rw [e2]; exact Bool.false_ne_true)] at k
        refine ⟨_, rfl, Nat.zero_le _, fun e ne => ⟨_, .list [], dpR _ (t5.trans (same_upd ne)), dp_empty upd_same, shR, rfl, _, rfl, ?_⟩⟩
        rw [eE]
        have t6 := (s6.trans t5).trans (same_upd (o := .lst []) ne)
        generalize upd H5 e (.lst []) = H6 at t6
        refine if_two (fun e3 => ?_) fun e3 => ?_
        · rw [if_pos (of_decide_eq_true e3)] at k
          exact ⟨_, rfl, two, fun t nt => k t _ (t6.trans (same_upd nt)) upd_same⟩
        · rw [if_neg (of_decide_eq_false e3)] at k
          exact ⟨_, rfl, _, rfl, _, _, rfl, _, rfl, two, fun t nt => k t _ (t6.trans (same_upd nt)) upd_same⟩
end
end Kn
set_option Elab.async false
set_option linter.all false
set_option maxRecDepth 100000
set_option maxHeartbeats 4000000
/-! ### the call: kind -/
namespace Kn
open PySem PySem.Spec PyProof.Rows L2
abbrev sFn : Stmt := topS 39
section
variable {P : Program} {w : World} {K : PySem.W.Frag} {mg : Str → Option Value} {base : Heap} {C CN CR : Addr}
def spFn (K : PySem.W.Frag) : Sp := fun vs H Q _ => ∃ (x : Addr) (t : List Int), vs = [.ref x] ∧ SqL K H x (t.map V.int) ∧ t.length ≤ 100000 ∧ (∀ z ∈ t, isByte z) ∧
  ∀ H' p, H' p = some (.lst ((kindM t).map V.int)) → Q (.ref p) H'
theorem scFn : FnScope ["t", "chart", "e", "repeat", "firsts", "own", "mirrors"] ["t"] (defScope sFn) := ⟨rfl, rfl, rfl, by decide +kernel, rfl, by decide +kernel, by decide +kernel⟩
theorem firsts_lt {rows : List (List Int)} {f : Nat × Nat × Nat} (h : f ∈ firstsM rows) : f.1 < 8 := by
  unfold firstsM pFirsts at h
  obtain ⟨m, hm, e⟩ := List.mem_filterMap.mp h
  rw [Option.map_eq_some_iff] at e
  obtain ⟨x, _, rfl⟩ := e
  exact List.mem_range.mp hm
theorem ok_fn {f : Addr} {fd : FuncData} (F : Fun K "kind" "kind" sFn f fd) (N : TxN K mg CN) (TC : TxC K mg C) (DR : Def P w K mg base (L2.CX P w) 3 "read_chart" ["text"] (spRead K C CN))
    (DO : Def P w K mg base CX0 5 "repeat_of" ["chart"] (spRepeatOf C CR)) (DF : Def P w K mg base CX0 6 "firsts_of" ["chart", "repeat"] (spFirstsOf C CR)) (DK : Def P w K mg base CX0 5 "kind_of" ["repeat", "firsts"] (spKindOf CR)) : FnOk P w K mg base CX0 7 f fd ["t"] (spFn K) := by
  obtain ⟨fr, fdr, gr, kr, br, GR⟩ := DR.ex
  obtain ⟨fo, fdo, go, ko, bo, GO⟩ := DO.ex
  obtain ⟨ff, fdf, gf, kf, bf, GF⟩ := DF.ex
  obtain ⟨fk, fdk, gk, kk, bk, GK⟩ := DK.ex
  refine F.ok scFn (fun vs H Q E h => ?_) (fun cdv A outer s H vs Q E hr h => ?_)
  · obtain ⟨x, t, rfl, _⟩ := h
    rfl
  · have hr3 : Room 3 _ := hr.mono (by decide)
    have hr5 : Room 5 _ := hr.mono (by decide)
    obtain ⟨x, t, rfl, hS, hl, hb, q⟩ := h
    refine ⟨_, pss_cons (ps_try_as (i := 2) (tb := fun W => tAsg (tCallS (spRead K C CN) (WE W) (tCons (tVar 0) tNil)) (gName 1)) (ts := fun a cls d => tRet (tLst (tCons (tXf a cls d CN "number" (tVar 2)) tNil))) (Wout := fun _ _ _ _ => False) rfl rfl scFn.nd rfl rfl ⟨rfl, by decide, Or.inl N.gN⟩ takes0
          (fun W pn xe tk _ => pss_one (ps_set (i := 1) scFn.nd rfl (Or.inl rfl) (by exact (pe_callS GR hr3 rfl gr kr br (fun σ => passAt tk σ) (by exact (pa_cons (pv 0) pa_nil))))))
          (fun a oe cls d pn hz hf => pss_one (ps_ret (pe_lst (pa_cons (pe_xf N.xf N.nN hz hf (pv 2)) pa_nil)))))
      (pss_cons (ps_set (i := 3) scFn.nd rfl (Or.inl rfl) (pe_call GO hr5 rfl go ko bo .nil pass0 (pa_cons (pv 1) pa_nil)))
      (pss_cons (ps_set (i := 4) scFn.nd rfl (Or.inl rfl) (pe_call GF hr rfl gf kf bf .nil pass0 (pa_cons (pv 1) (pa_cons (pv 3) pa_nil))))
      (pss_cons (ps_asg (pe_call GK hr5 rfl gk kk bk .nil pass0 (pa_cons (pv 3) (pa_cons (pv 4) pa_nil))) (pg_tup rfl (pgs_cons (pg_name (i := 5) scFn.nd rfl (.inl rfl)) (pgs_cons (pg_name (i := 6) scFn.nd rfl (.inl rfl)) pgs_nil))))
      (pss_one (ps_ret (pe_lst (pa_cons (pv 5) (pa_cons (pe_callB call_len_seq (by rfl) TC.mLen PySem.boot_len (pa_cons (pv 4) pa_nil)) (pa_cons (pv 6) pa_nil))))))))), ?_⟩
    refine ⟨_, rfl, x, t, rfl, hS, hl, fun n hn H1 d s1 hd => ?_, fun rows hrows H1 c s1 hc => ?_⟩
    · refine ⟨true, N.te, fun _ a0 na => ?_, fun q => Bool.noConfusion q⟩
      refine ⟨_, rfl, rfl, rfl, d, _, .int n, rfl, hd, lk_here, (by show 1 ≤ sizeLine; decide), fun p np => q _ p ?_⟩
      unfold kindM
      rw [hn]
      exact upd_same
    · obtain ⟨ok, hby⟩ := read_ok hb hrows
      have R := rep_is ok
      have w1 := ok.2.1
      have h1 := ok.2.2.1
      have qp := R.1.qp
      have l8 : (firstsM rows).length ≤ 8 := firstsTo_len rows _ _ 8
      refine ⟨_, rfl, c, rows, rfl, hc, ok, fun H2 a s2 ha => ?_⟩
      refine ⟨_, rfl, _, rfl, c, a, rows, _, _, _, rfl, hc.same s2, ok, ha, by omega, by omega, fun H3 l s3 hf => ?_⟩
      refine ⟨_, rfl, _, rfl, a, l, _, _, _, firstsM rows, rfl, ha.same s3, ⟨R.1.p0, by omega, by omega, R.1.r0, by omega⟩, hf, l8, fun f hf => firsts_lt hf, fun tt H4 s4 htt => ?_⟩
      refine ⟨tt, _, rfl, SqT.of htt, rfl, _, _, rfl, _, _, rfl, rfl, ?_⟩
      obtain ⟨ts, hts, hlen, _⟩ := hf
      refine ⟨_, rfl, _, rfl, l, _, rfl, .inl (SqL.of (s4 _ _ hts)), _, rfl, (by show 3 ≤ sizeLine; decide), fun p np => q _ p ?_⟩
      have e1 : ((ts.map V.ref).length : Int) = ((firstsM rows).length : Int) := by
        rw [List.length_map, hlen]
        rfl
      unfold kindM
      rw [hrows, upd_same, e1]
      rfl
end
end Kn
set_option Elab.async false
set_option linter.all false
set_option maxRecDepth 100000
set_option maxHeartbeats 4000000
/-! ### the end -/
namespace Kn
open PySem PySem.Spec PyProof.Rows L2
/-- an error of the class at S is what «except S» names -/
theorem exm_self {K : PySem.W.Frag} {S : Addr} (h1 : PySem.W.subIn K (.ref S) (.type "BaseException") = some true) (h2 : PySem.W.isClsIn K S = true) (h3 : PySem.W.typeIn K (.ref S) = some (.type "type")) (h4 : PySem.W.subIn K (.ref S) (.ref S) = some true) :
    PySem.W.exmOne K (.ref S) (.ref S) = some true := by
  have e1 : (PySem.W.subIn K (.ref S) (.type "BaseException") == some true) = true := by rw [h1] <;> rfl
  have e2 : ((PySem.W.clsIn K S).isSome && PySem.W.typeIn K (.ref S) == some (.type "type")) = true := by
    have h2' : (PySem.W.clsIn K S).isSome = true := h2
    rw [h2', h3] <;> rfl
  show (if (PySem.W.subIn K (.ref S) (.type "BaseException") == some true) = true then (if ((PySem.W.clsIn K S).isSome && PySem.W.typeIn K (.ref S) == some (.type "type")) = true then PySem.W.subIn K (.ref S) (.ref S) else none) else none) = some true
  rw [if_pos e1, if_pos e2]
  exact h4
theorem all_mk {P : Program} {w : World} {K : PySem.W.Frag} {h : Heap} {mg : Str → Option Value} {fa CN f_NI C f_Chart_init f_colour CR f_Repeat_init f_has_step aT aT0 aT1 aT2 aT3 aT4 aT5 aT6 aT7 f_is_colour f_rows_of f_is_right_row f_read_chart f_turned f_agrees f_is_step f_exchanges f_divisor f_side_of f_repeats_by_squares f_window f_least_wide f_aside f_repeat_of f_first_of f_firsts_of f_twice f_is_half_step f_halves f_kind_of_four f_kind_of_half f_kind_of f_fn : Addr} (X : K.In h) (G : h.Ns mainGlobals mg) (hfa : mg "kind" = some (.ref fa))
    {nm qq : Str} {NN : Addr} {bs : List Value} {sn : List Str} {sub : List Value} {ab : Bool} {col : Option Bool} {dd : Option Addr} {m0 m1 m2 m3 m5 : Option Value} {nT nT0 nT1 nT2 nT3 nT4 nT5 nT6 nT7 : Nat}
    {od_NI an_NI od_Chart_init an_Chart_init od_colour an_colour od_Repeat_init an_Repeat_init od_has_step an_has_step odT odT0 odT1 odT2 odT3 odT4 odT5 odT6 odT7 od_is_colour an_is_colour od_rows_of an_rows_of od_is_right_row an_is_right_row od_read_chart an_read_chart od_turned an_turned od_agrees an_agrees od_is_step an_is_step od_exchanges an_exchanges od_divisor an_divisor od_side_of an_side_of od_repeats_by_squares an_repeats_by_squares od_window an_window od_least_wide an_least_wide od_aside an_aside od_repeat_of an_repeat_of od_first_of an_first_of od_firsts_of an_firsts_of od_twice an_twice od_is_half_step an_is_half_step od_halves an_halves od_kind_of_four an_kind_of_four od_kind_of_half an_kind_of_half od_kind_of an_kind_of od_fn an_fn : Option Addr} {sl_NI sl_Chart_init sl_colour sl_Repeat_init sl_has_step slT slT0 slT1 slT2 slT3 slT4 slT5 slT6 slT7 sl_is_colour sl_rows_of sl_is_right_row sl_read_chart sl_turned sl_agrees sl_is_step sl_exchanges sl_divisor sl_side_of sl_repeats_by_squares sl_window sl_least_wide sl_aside sl_repeat_of sl_first_of sl_firsts_of sl_twice sl_is_half_step sl_halves sl_kind_of_four sl_kind_of_half sl_kind_of sl_fn : Array (Option Value)} {tk_MOST_BYTES tk_MOST_WIDE tk_MOST_HIGH tk_MOST_KNOTS tk_ROW_END tk_TOO_LONG tk_NO_CHART u00 u01 u02 u03 u10 u11 u12 u13 u20 u21 u22 u23 u30 u31 u32 u33 u40 u41 u42 u43 u50 u51 u52 u53 u60 u61 u62 u63 u70 u71 u72 u73 : Tok}
    {oc_NI kV_NI dc_NI pm_NI cd_NI ct_NI oc_Chart_init kV_Chart_init dc_Chart_init pm_Chart_init cd_Chart_init ct_Chart_init oc_colour kV_colour dc_colour pm_colour cd_colour ct_colour oc_Repeat_init kV_Repeat_init dc_Repeat_init pm_Repeat_init cd_Repeat_init ct_Repeat_init oc_has_step kV_has_step dc_has_step pm_has_step cd_has_step ct_has_step oc_is_colour kV_is_colour dc_is_colour pm_is_colour cd_is_colour ct_is_colour oc_rows_of kV_rows_of dc_rows_of pm_rows_of cd_rows_of ct_rows_of oc_is_right_row kV_is_right_row dc_is_right_row pm_is_right_row cd_is_right_row ct_is_right_row oc_read_chart kV_read_chart dc_read_chart pm_read_chart cd_read_chart ct_read_chart oc_turned kV_turned dc_turned pm_turned cd_turned ct_turned oc_agrees kV_agrees dc_agrees pm_agrees cd_agrees ct_agrees oc_is_step kV_is_step dc_is_step pm_is_step cd_is_step ct_is_step oc_exchanges kV_exchanges dc_exchanges pm_exchanges cd_exchanges ct_exchanges oc_divisor kV_divisor dc_divisor pm_divisor cd_divisor ct_divisor oc_side_of kV_side_of dc_side_of pm_side_of cd_side_of ct_side_of oc_repeats_by_squares kV_repeats_by_squares dc_repeats_by_squares pm_repeats_by_squares cd_repeats_by_squares ct_repeats_by_squares oc_window kV_window dc_window pm_window cd_window ct_window oc_least_wide kV_least_wide dc_least_wide pm_least_wide cd_least_wide ct_least_wide oc_aside kV_aside dc_aside pm_aside cd_aside ct_aside oc_repeat_of kV_repeat_of dc_repeat_of pm_repeat_of cd_repeat_of ct_repeat_of oc_first_of kV_first_of dc_first_of pm_first_of cd_first_of ct_first_of oc_firsts_of kV_firsts_of dc_firsts_of pm_firsts_of cd_firsts_of ct_firsts_of oc_twice kV_twice dc_twice pm_twice cd_twice ct_twice oc_is_half_step kV_is_half_step dc_is_half_step pm_is_half_step cd_is_half_step ct_is_half_step oc_halves kV_halves dc_halves pm_halves cd_halves ct_halves oc_kind_of_four kV_kind_of_four dc_kind_of_four pm_kind_of_four cd_kind_of_four ct_kind_of_four oc_kind_of_half kV_kind_of_half dc_kind_of_half pm_kind_of_half cd_kind_of_half ct_kind_of_half oc_kind_of kV_kind_of dc_kind_of pm_kind_of cd_kind_of ct_kind_of oc_fn kV_fn dc_fn pm_fn cd_fn ct_fn : Value}
    (aN : PySem.W.nsIn K mainGlobals "NoChart" = some (some (.ref CN)))
    (xL : K.lookup CN = some (excClassObj nm qq CN NN bs [.type "ValueError", .type "Exception", .type "BaseException", .type "object"] true sn sub ab col dd m0 m1 m2 m3 m5 "ValueError.__new__"))
    (saN : PySem.W.findIn K (.ref CN) "__setattr__" = some (some (.builtin "object.__setattr__")))
    (gaN : PySem.W.findIn K (.ref CN) "__getattribute__" = some (some (.builtin "BaseException.__getattribute__")))
    (ggN : PySem.W.findIn K (.ref CN) "__getattr__" = some none)
    (nbN : PySem.W.findIn K (.ref CN) "number" = some none)
    (kN : PySem.W.keepIn K (.ref CN) = true)
    (eN : PySem.W.subIn K (.ref CN) (.type "BaseException") = some true)
    (tN : PySem.W.typeIn K (.ref CN) = some (.type "type"))
    (hN : PySem.W.hasDictIn K CN = true)
    (iN : PySem.W.isClsIn K CN = true)
    (sN : PySem.W.subIn K (.ref CN) (.ref CN) = some true)
    (vV : PySem.W.findCls K (.type "ValueError") (.type "type") "__init__" = some (.val (.builtin "ValueError.__init__")))
    (a_NI : PySem.W.findIn K (.ref CN) "__init__" = some (some (.ref f_NI)))
    (l_NI : K.lookup f_NI = some ⟨oc_NI, od_NI, .func (PySem.W.fnOf "__init__" "NoChart.__init__" (defArgs sNoInit) (defBody sNoInit) (defScope sNoInit) .none kV_NI dc_NI pm_NI an_NI cd_NI ct_NI), sl_NI⟩)
    (c_NI : PySem.W.codeIn K cd_NI "NoChart.__init__" = true)
    (t_NI : PySem.W.typeIn K (.ref f_NI) = some (.type "function"))
    (k_NI : PySem.W.keepIn K (.ref f_NI) = true)
    (aChart : PySem.W.nsIn K mainGlobals "Chart" = some (some (.ref C)))
    (pgChart : PySem.W.plainGet K C Str.empty = true)
    (hdChart : PySem.W.hasDictIn K C = true)
    (poChart : PySem.W.plainOver K C = true)
    (saChart : PySem.W.findIn K (.ref C) "__setattr__" = some (some (.builtin "object.__setattr__")))
    (mkChart : PySem.W.makesIn K C = true)
    (kcChart : PySem.W.keepIn K (.ref C) = true)
    (nChart_rows : PySem.W.findIn K (.ref C) "rows" = some none)
    (nChart_wide : PySem.W.findIn K (.ref C) "wide" = some none)
    (nChart_high : PySem.W.findIn K (.ref C) "high" = some none)
    (a_Chart_init : PySem.W.findIn K (.ref C) "__init__" = some (some (.ref f_Chart_init)))
    (l_Chart_init : K.lookup f_Chart_init = some ⟨oc_Chart_init, od_Chart_init, .func (PySem.W.fnOf "__init__" "Chart.__init__" (defArgs sChInit) (defBody sChInit) (defScope sChInit) .none kV_Chart_init dc_Chart_init pm_Chart_init an_Chart_init cd_Chart_init ct_Chart_init), sl_Chart_init⟩)
    (c_Chart_init : PySem.W.codeIn K cd_Chart_init "Chart.__init__" = true)
    (i_Chart_init : PySem.W.isFn K (.ref f_Chart_init) = true)
    (k_Chart_init : PySem.W.keepIn K (.ref f_Chart_init) = true)
    (a_colour : PySem.W.findIn K (.ref C) "colour" = some (some (.ref f_colour)))
    (l_colour : K.lookup f_colour = some ⟨oc_colour, od_colour, .func (PySem.W.fnOf "colour" "Chart.colour" (defArgs sColour) (defBody sColour) (defScope sColour) .none kV_colour dc_colour pm_colour an_colour cd_colour ct_colour), sl_colour⟩)
    (c_colour : PySem.W.codeIn K cd_colour "Chart.colour" = true)
    (i_colour : PySem.W.isFn K (.ref f_colour) = true)
    (k_colour : PySem.W.keepIn K (.ref f_colour) = true)
    (aRepeat : PySem.W.nsIn K mainGlobals "Repeat" = some (some (.ref CR)))
    (pgRepeat : PySem.W.plainGet K CR Str.empty = true)
    (hdRepeat : PySem.W.hasDictIn K CR = true)
    (poRepeat : PySem.W.plainOver K CR = true)
    (saRepeat : PySem.W.findIn K (.ref CR) "__setattr__" = some (some (.builtin "object.__setattr__")))
    (mkRepeat : PySem.W.makesIn K CR = true)
    (kcRepeat : PySem.W.keepIn K (.ref CR) = true)
    (nRepeat_p : PySem.W.findIn K (.ref CR) "p" = some none)
    (nRepeat_q : PySem.W.findIn K (.ref CR) "q" = some none)
    (nRepeat_r : PySem.W.findIn K (.ref CR) "r" = some none)
    (a_Repeat_init : PySem.W.findIn K (.ref CR) "__init__" = some (some (.ref f_Repeat_init)))
    (l_Repeat_init : K.lookup f_Repeat_init = some ⟨oc_Repeat_init, od_Repeat_init, .func (PySem.W.fnOf "__init__" "Repeat.__init__" (defArgs sRpInit) (defBody sRpInit) (defScope sRpInit) .none kV_Repeat_init dc_Repeat_init pm_Repeat_init an_Repeat_init cd_Repeat_init ct_Repeat_init), sl_Repeat_init⟩)
    (c_Repeat_init : PySem.W.codeIn K cd_Repeat_init "Repeat.__init__" = true)
    (i_Repeat_init : PySem.W.isFn K (.ref f_Repeat_init) = true)
    (k_Repeat_init : PySem.W.keepIn K (.ref f_Repeat_init) = true)
    (a_has_step : PySem.W.findIn K (.ref CR) "has_step" = some (some (.ref f_has_step)))
    (l_has_step : K.lookup f_has_step = some ⟨oc_has_step, od_has_step, .func (PySem.W.fnOf "has_step" "Repeat.has_step" (defArgs sHasStep) (defBody sHasStep) (defScope sHasStep) .none kV_has_step dc_has_step pm_has_step an_has_step cd_has_step ct_has_step), sl_has_step⟩)
    (c_has_step : PySem.W.codeIn K cd_has_step "Repeat.has_step" = true)
    (i_has_step : PySem.W.isFn K (.ref f_has_step) = true)
    (k_has_step : PySem.W.keepIn K (.ref f_has_step) = true)
    (z_MOST_BYTES : PySem.W.nsIn K mainGlobals "MOST_BYTES" = some (some (.int (66048) tk_MOST_BYTES)))
    (z_MOST_WIDE : PySem.W.nsIn K mainGlobals "MOST_WIDE" = some (some (.int (512) tk_MOST_WIDE)))
    (z_MOST_HIGH : PySem.W.nsIn K mainGlobals "MOST_HIGH" = some (some (.int (512) tk_MOST_HIGH)))
    (z_MOST_KNOTS : PySem.W.nsIn K mainGlobals "MOST_KNOTS" = some (some (.int (65536) tk_MOST_KNOTS)))
    (z_ROW_END : PySem.W.nsIn K mainGlobals "ROW_END" = some (some (.int (10) tk_ROW_END)))
    (z_TOO_LONG : PySem.W.nsIn K mainGlobals "TOO_LONG" = some (some (.int (-2) tk_TOO_LONG)))
    (z_NO_CHART : PySem.W.nsIn K mainGlobals "NO_CHART" = some (some (.int (-6) tk_NO_CHART)))
    (z_len : PySem.W.nsIn K mainGlobals "len" = some none)
    (z_all : PySem.W.nsIn K mainGlobals "all" = some none)
    (z_list : PySem.W.nsIn K mainGlobals "list" = some none)
    (z_ValueError : PySem.W.nsIn K mainGlobals "ValueError" = some none)
    (z_range : PySem.W.nsIn K mainGlobals "range" = some none)
    (z_any : PySem.W.nsIn K mainGlobals "any" = some none)
    (zT : PySem.W.nsIn K mainGlobals "TURNS" = some (some (.ref aT)))
    (lT : K.lookup aT = some ⟨.type "tuple", odT, .seq #[.ref aT0, .ref aT1, .ref aT2, .ref aT3, .ref aT4, .ref aT5, .ref aT6, .ref aT7] nT, slT⟩)
    (lT0 : K.lookup aT0 = some ⟨.type "tuple", odT0, .seq #[.int (1) u00, .int (0) u01, .int (0) u02, .int (1) u03] nT0, slT0⟩)
    (lT1 : K.lookup aT1 = some ⟨.type "tuple", odT1, .seq #[.int (0) u10, .int (-1) u11, .int (1) u12, .int (0) u13] nT1, slT1⟩)
    (lT2 : K.lookup aT2 = some ⟨.type "tuple", odT2, .seq #[.int (-1) u20, .int (0) u21, .int (0) u22, .int (-1) u23] nT2, slT2⟩)
    (lT3 : K.lookup aT3 = some ⟨.type "tuple", odT3, .seq #[.int (0) u30, .int (1) u31, .int (-1) u32, .int (0) u33] nT3, slT3⟩)
    (lT4 : K.lookup aT4 = some ⟨.type "tuple", odT4, .seq #[.int (-1) u40, .int (0) u41, .int (0) u42, .int (1) u43] nT4, slT4⟩)
    (lT5 : K.lookup aT5 = some ⟨.type "tuple", odT5, .seq #[.int (0) u50, .int (-1) u51, .int (-1) u52, .int (0) u53] nT5, slT5⟩)
    (lT6 : K.lookup aT6 = some ⟨.type "tuple", odT6, .seq #[.int (1) u60, .int (0) u61, .int (0) u62, .int (-1) u63] nT6, slT6⟩)
    (lT7 : K.lookup aT7 = some ⟨.type "tuple", odT7, .seq #[.int (0) u70, .int (1) u71, .int (1) u72, .int (0) u73] nT7, slT7⟩)
    (a_is_colour : PySem.W.nsIn K mainGlobals "is_colour" = some (some (.ref f_is_colour)))
    (l_is_colour : K.lookup f_is_colour = some ⟨oc_is_colour, od_is_colour, .func (PySem.W.fnOf "is_colour" "is_colour" (defArgs sIsCol) (defBody sIsCol) (defScope sIsCol) .none kV_is_colour dc_is_colour pm_is_colour an_is_colour cd_is_colour ct_is_colour), sl_is_colour⟩)
    (c_is_colour : PySem.W.codeIn K cd_is_colour "is_colour" = true)
    (k_is_colour : PySem.W.keepIn K (.ref f_is_colour) = true)
    (a_rows_of : PySem.W.nsIn K mainGlobals "rows_of" = some (some (.ref f_rows_of)))
    (l_rows_of : K.lookup f_rows_of = some ⟨oc_rows_of, od_rows_of, .func (PySem.W.fnOf "rows_of" "rows_of" (defArgs sRowsOf) (defBody sRowsOf) (defScope sRowsOf) .none kV_rows_of dc_rows_of pm_rows_of an_rows_of cd_rows_of ct_rows_of), sl_rows_of⟩)
    (c_rows_of : PySem.W.codeIn K cd_rows_of "rows_of" = true)
    (k_rows_of : PySem.W.keepIn K (.ref f_rows_of) = true)
    (a_is_right_row : PySem.W.nsIn K mainGlobals "is_right_row" = some (some (.ref f_is_right_row)))
    (l_is_right_row : K.lookup f_is_right_row = some ⟨oc_is_right_row, od_is_right_row, .func (PySem.W.fnOf "is_right_row" "is_right_row" (defArgs sRight) (defBody sRight) (defScope sRight) .none kV_is_right_row dc_is_right_row pm_is_right_row an_is_right_row cd_is_right_row ct_is_right_row), sl_is_right_row⟩)
    (c_is_right_row : PySem.W.codeIn K cd_is_right_row "is_right_row" = true)
    (k_is_right_row : PySem.W.keepIn K (.ref f_is_right_row) = true)
    (a_read_chart : PySem.W.nsIn K mainGlobals "read_chart" = some (some (.ref f_read_chart)))
    (l_read_chart : K.lookup f_read_chart = some ⟨oc_read_chart, od_read_chart, .func (PySem.W.fnOf "read_chart" "read_chart" (defArgs sRead) (defBody sRead) (defScope sRead) .none kV_read_chart dc_read_chart pm_read_chart an_read_chart cd_read_chart ct_read_chart), sl_read_chart⟩)
    (c_read_chart : PySem.W.codeIn K cd_read_chart "read_chart" = true)
    (k_read_chart : PySem.W.keepIn K (.ref f_read_chart) = true)
    (a_turned : PySem.W.nsIn K mainGlobals "turned" = some (some (.ref f_turned)))
    (l_turned : K.lookup f_turned = some ⟨oc_turned, od_turned, .func (PySem.W.fnOf "turned" "turned" (defArgs sTurned) (defBody sTurned) (defScope sTurned) .none kV_turned dc_turned pm_turned an_turned cd_turned ct_turned), sl_turned⟩)
    (c_turned : PySem.W.codeIn K cd_turned "turned" = true)
    (k_turned : PySem.W.keepIn K (.ref f_turned) = true)
    (a_agrees : PySem.W.nsIn K mainGlobals "agrees" = some (some (.ref f_agrees)))
    (l_agrees : K.lookup f_agrees = some ⟨oc_agrees, od_agrees, .func (PySem.W.fnOf "agrees" "agrees" (defArgs sAgrees) (defBody sAgrees) (defScope sAgrees) .none kV_agrees dc_agrees pm_agrees an_agrees cd_agrees ct_agrees), sl_agrees⟩)
    (c_agrees : PySem.W.codeIn K cd_agrees "agrees" = true)
    (k_agrees : PySem.W.keepIn K (.ref f_agrees) = true)
    (a_is_step : PySem.W.nsIn K mainGlobals "is_step" = some (some (.ref f_is_step)))
    (l_is_step : K.lookup f_is_step = some ⟨oc_is_step, od_is_step, .func (PySem.W.fnOf "is_step" "is_step" (defArgs sStep) (defBody sStep) (defScope sStep) .none kV_is_step dc_is_step pm_is_step an_is_step cd_is_step ct_is_step), sl_is_step⟩)
    (c_is_step : PySem.W.codeIn K cd_is_step "is_step" = true)
    (k_is_step : PySem.W.keepIn K (.ref f_is_step) = true)
    (a_exchanges : PySem.W.nsIn K mainGlobals "exchanges" = some (some (.ref f_exchanges)))
    (l_exchanges : K.lookup f_exchanges = some ⟨oc_exchanges, od_exchanges, .func (PySem.W.fnOf "exchanges" "exchanges" (defArgs sExch) (defBody sExch) (defScope sExch) .none kV_exchanges dc_exchanges pm_exchanges an_exchanges cd_exchanges ct_exchanges), sl_exchanges⟩)
    (c_exchanges : PySem.W.codeIn K cd_exchanges "exchanges" = true)
    (k_exchanges : PySem.W.keepIn K (.ref f_exchanges) = true)
    (a_divisor : PySem.W.nsIn K mainGlobals "divisor" = some (some (.ref f_divisor)))
    (l_divisor : K.lookup f_divisor = some ⟨oc_divisor, od_divisor, .func (PySem.W.fnOf "divisor" "divisor" (defArgs sDiv) (defBody sDiv) (defScope sDiv) .none kV_divisor dc_divisor pm_divisor an_divisor cd_divisor ct_divisor), sl_divisor⟩)
    (c_divisor : PySem.W.codeIn K cd_divisor "divisor" = true)
    (k_divisor : PySem.W.keepIn K (.ref f_divisor) = true)
    (a_side_of : PySem.W.nsIn K mainGlobals "side_of" = some (some (.ref f_side_of)))
    (l_side_of : K.lookup f_side_of = some ⟨oc_side_of, od_side_of, .func (PySem.W.fnOf "side_of" "side_of" (defArgs sSide) (defBody sSide) (defScope sSide) .none kV_side_of dc_side_of pm_side_of an_side_of cd_side_of ct_side_of), sl_side_of⟩)
    (c_side_of : PySem.W.codeIn K cd_side_of "side_of" = true)
    (k_side_of : PySem.W.keepIn K (.ref f_side_of) = true)
    (a_repeats_by_squares : PySem.W.nsIn K mainGlobals "repeats_by_squares" = some (some (.ref f_repeats_by_squares)))
    (l_repeats_by_squares : K.lookup f_repeats_by_squares = some ⟨oc_repeats_by_squares, od_repeats_by_squares, .func (PySem.W.fnOf "repeats_by_squares" "repeats_by_squares" (defArgs sSquares) (defBody sSquares) (defScope sSquares) .none kV_repeats_by_squares dc_repeats_by_squares pm_repeats_by_squares an_repeats_by_squares cd_repeats_by_squares ct_repeats_by_squares), sl_repeats_by_squares⟩)
    (c_repeats_by_squares : PySem.W.codeIn K cd_repeats_by_squares "repeats_by_squares" = true)
    (k_repeats_by_squares : PySem.W.keepIn K (.ref f_repeats_by_squares) = true)
    (a_window : PySem.W.nsIn K mainGlobals "window" = some (some (.ref f_window)))
    (l_window : K.lookup f_window = some ⟨oc_window, od_window, .func (PySem.W.fnOf "window" "window" (defArgs sWindow) (defBody sWindow) (defScope sWindow) .none kV_window dc_window pm_window an_window cd_window ct_window), sl_window⟩)
    (c_window : PySem.W.codeIn K cd_window "window" = true)
    (k_window : PySem.W.keepIn K (.ref f_window) = true)
    (a_least_wide : PySem.W.nsIn K mainGlobals "least_wide" = some (some (.ref f_least_wide)))
    (l_least_wide : K.lookup f_least_wide = some ⟨oc_least_wide, od_least_wide, .func (PySem.W.fnOf "least_wide" "least_wide" (defArgs sLeastWide) (defBody sLeastWide) (defScope sLeastWide) .none kV_least_wide dc_least_wide pm_least_wide an_least_wide cd_least_wide ct_least_wide), sl_least_wide⟩)
    (c_least_wide : PySem.W.codeIn K cd_least_wide "least_wide" = true)
    (k_least_wide : PySem.W.keepIn K (.ref f_least_wide) = true)
    (a_aside : PySem.W.nsIn K mainGlobals "aside" = some (some (.ref f_aside)))
    (l_aside : K.lookup f_aside = some ⟨oc_aside, od_aside, .func (PySem.W.fnOf "aside" "aside" (defArgs sAside) (defBody sAside) (defScope sAside) .none kV_aside dc_aside pm_aside an_aside cd_aside ct_aside), sl_aside⟩)
    (c_aside : PySem.W.codeIn K cd_aside "aside" = true)
    (k_aside : PySem.W.keepIn K (.ref f_aside) = true)
    (a_repeat_of : PySem.W.nsIn K mainGlobals "repeat_of" = some (some (.ref f_repeat_of)))
    (l_repeat_of : K.lookup f_repeat_of = some ⟨oc_repeat_of, od_repeat_of, .func (PySem.W.fnOf "repeat_of" "repeat_of" (defArgs sRepeatOf) (defBody sRepeatOf) (defScope sRepeatOf) .none kV_repeat_of dc_repeat_of pm_repeat_of an_repeat_of cd_repeat_of ct_repeat_of), sl_repeat_of⟩)
    (c_repeat_of : PySem.W.codeIn K cd_repeat_of "repeat_of" = true)
    (k_repeat_of : PySem.W.keepIn K (.ref f_repeat_of) = true)
    (a_first_of : PySem.W.nsIn K mainGlobals "first_of" = some (some (.ref f_first_of)))
    (l_first_of : K.lookup f_first_of = some ⟨oc_first_of, od_first_of, .func (PySem.W.fnOf "first_of" "first_of" (defArgs sFirstOf) (defBody sFirstOf) (defScope sFirstOf) .none kV_first_of dc_first_of pm_first_of an_first_of cd_first_of ct_first_of), sl_first_of⟩)
    (c_first_of : PySem.W.codeIn K cd_first_of "first_of" = true)
    (k_first_of : PySem.W.keepIn K (.ref f_first_of) = true)
    (a_firsts_of : PySem.W.nsIn K mainGlobals "firsts_of" = some (some (.ref f_firsts_of)))
    (l_firsts_of : K.lookup f_firsts_of = some ⟨oc_firsts_of, od_firsts_of, .func (PySem.W.fnOf "firsts_of" "firsts_of" (defArgs sFirstsOf) (defBody sFirstsOf) (defScope sFirstsOf) .none kV_firsts_of dc_firsts_of pm_firsts_of an_firsts_of cd_firsts_of ct_firsts_of), sl_firsts_of⟩)
    (c_firsts_of : PySem.W.codeIn K cd_firsts_of "firsts_of" = true)
    (k_firsts_of : PySem.W.keepIn K (.ref f_firsts_of) = true)
    (a_twice : PySem.W.nsIn K mainGlobals "twice" = some (some (.ref f_twice)))
    (l_twice : K.lookup f_twice = some ⟨oc_twice, od_twice, .func (PySem.W.fnOf "twice" "twice" (defArgs sTwice) (defBody sTwice) (defScope sTwice) .none kV_twice dc_twice pm_twice an_twice cd_twice ct_twice), sl_twice⟩)
    (c_twice : PySem.W.codeIn K cd_twice "twice" = true)
    (k_twice : PySem.W.keepIn K (.ref f_twice) = true)
    (a_is_half_step : PySem.W.nsIn K mainGlobals "is_half_step" = some (some (.ref f_is_half_step)))
    (l_is_half_step : K.lookup f_is_half_step = some ⟨oc_is_half_step, od_is_half_step, .func (PySem.W.fnOf "is_half_step" "is_half_step" (defArgs sHalf) (defBody sHalf) (defScope sHalf) .none kV_is_half_step dc_is_half_step pm_is_half_step an_is_half_step cd_is_half_step ct_is_half_step), sl_is_half_step⟩)
    (c_is_half_step : PySem.W.codeIn K cd_is_half_step "is_half_step" = true)
    (k_is_half_step : PySem.W.keepIn K (.ref f_is_half_step) = true)
    (a_halves : PySem.W.nsIn K mainGlobals "halves" = some (some (.ref f_halves)))
    (l_halves : K.lookup f_halves = some ⟨oc_halves, od_halves, .func (PySem.W.fnOf "halves" "halves" (defArgs sHalves) (defBody sHalves) (defScope sHalves) .none kV_halves dc_halves pm_halves an_halves cd_halves ct_halves), sl_halves⟩)
    (c_halves : PySem.W.codeIn K cd_halves "halves" = true)
    (k_halves : PySem.W.keepIn K (.ref f_halves) = true)
    (a_kind_of_four : PySem.W.nsIn K mainGlobals "kind_of_four" = some (some (.ref f_kind_of_four)))
    (l_kind_of_four : K.lookup f_kind_of_four = some ⟨oc_kind_of_four, od_kind_of_four, .func (PySem.W.fnOf "kind_of_four" "kind_of_four" (defArgs sKind4) (defBody sKind4) (defScope sKind4) .none kV_kind_of_four dc_kind_of_four pm_kind_of_four an_kind_of_four cd_kind_of_four ct_kind_of_four), sl_kind_of_four⟩)
    (c_kind_of_four : PySem.W.codeIn K cd_kind_of_four "kind_of_four" = true)
    (k_kind_of_four : PySem.W.keepIn K (.ref f_kind_of_four) = true)
    (a_kind_of_half : PySem.W.nsIn K mainGlobals "kind_of_half" = some (some (.ref f_kind_of_half)))
    (l_kind_of_half : K.lookup f_kind_of_half = some ⟨oc_kind_of_half, od_kind_of_half, .func (PySem.W.fnOf "kind_of_half" "kind_of_half" (defArgs sKindH) (defBody sKindH) (defScope sKindH) .none kV_kind_of_half dc_kind_of_half pm_kind_of_half an_kind_of_half cd_kind_of_half ct_kind_of_half), sl_kind_of_half⟩)
    (c_kind_of_half : PySem.W.codeIn K cd_kind_of_half "kind_of_half" = true)
    (k_kind_of_half : PySem.W.keepIn K (.ref f_kind_of_half) = true)
    (a_kind_of : PySem.W.nsIn K mainGlobals "kind_of" = some (some (.ref f_kind_of)))
    (l_kind_of : K.lookup f_kind_of = some ⟨oc_kind_of, od_kind_of, .func (PySem.W.fnOf "kind_of" "kind_of" (defArgs sKindOf) (defBody sKindOf) (defScope sKindOf) .none kV_kind_of dc_kind_of pm_kind_of an_kind_of cd_kind_of ct_kind_of), sl_kind_of⟩)
    (c_kind_of : PySem.W.codeIn K cd_kind_of "kind_of" = true)
    (k_kind_of : PySem.W.keepIn K (.ref f_kind_of) = true)
    (a_fn : PySem.W.nsIn K mainGlobals "kind" = some (some (.ref f_fn)))
    (l_fn : K.lookup f_fn = some ⟨oc_fn, od_fn, .func (PySem.W.fnOf "kind" "kind" (defArgs sFn) (defBody sFn) (defScope sFn) .none kV_fn dc_fn pm_fn an_fn cd_fn ct_fn), sl_fn⟩)
    (c_fn : PySem.W.codeIn K cd_fn "kind" = true)
    (k_fn : PySem.W.keepIn K (.ref f_fn) = true)
    : ∃ fd : FuncData, (∀ (s : Shared) (us : List Value), us.length = (["t"] : List Str).length → BindsTo s fd ⟨us, []⟩ ((["t"] : List Str).zip us)) ∧ ∀ base : Heap, K.In base → base.Ns mainGlobals mg → FnOk P w K mg base CX0 7 fa fd ["t"] (spFn K) := by
  have e := hfa.symm.trans (PySem.W.mg_of X G a_fn)
  cases e
  have TC : TxC K mg C := ⟨⟨pgChart, hdChart, poChart, saChart⟩, nChart_rows, nChart_wide, nChart_high, PySem.W.mg_none_of X G z_len, PySem.W.mg_none_of X G z_all, PySem.W.mg_none_of X G z_list⟩
  have N : TxN K mg CN := { ex := ⟨⟨nm, qq, NN, bs, _, sn, sub, ab, col, dd, m0, m1, m2, m3, m5, xL, by decide +kernel⟩, saN, eN, tN, kN⟩, xf := ⟨gaN, ggN, eN, hN⟩, gN := PySem.W.mg_of X G aN, nN := nbN, te := exm_self eN iN tN sN, mVE := PySem.W.mg_none_of X G z_ValueError, vV := vV }
  have Z : TxK mg := ⟨⟨_, PySem.W.mg_of X G z_MOST_BYTES⟩, ⟨_, PySem.W.mg_of X G z_MOST_WIDE⟩, ⟨_, PySem.W.mg_of X G z_MOST_HIGH⟩, ⟨_, PySem.W.mg_of X G z_MOST_KNOTS⟩, ⟨_, PySem.W.mg_of X G z_TOO_LONG⟩, ⟨_, PySem.W.mg_of X G z_NO_CHART⟩⟩
  have TR : TxR K CR := ⟨⟨pgRepeat, hdRepeat, poRepeat, saRepeat⟩, nRepeat_p, nRepeat_q, nRepeat_r⟩
  have T : TxT K mg := by
    refine ⟨⟨aT, [aT0, aT1, aT2, aT3, aT4, aT5, aT6, aT7], PySem.W.mg_of X G zT, rfl, fun H => .inr ⟨_, _, _, lT, rfl, rfl, (by show 8 ≤ sizeLine; decide), (.cons rfl (.cons rfl (.cons rfl (.cons rfl (.cons rfl (.cons rfl (.cons rfl (.cons rfl .nil))))))))⟩, fun m hm => ?_⟩, PySem.W.mg_none_of X G z_range⟩
    rcases m8 hm with rfl | rfl | rfl | rfl | rfl | rfl | rfl | rfl
    · exact ⟨aT0, rfl, fun H => .inr ⟨_, _, _, lT0, rfl, rfl, (by show 4 ≤ sizeLine; decide), (.cons ⟨_, rfl⟩ (.cons ⟨_, rfl⟩ (.cons ⟨_, rfl⟩ (.cons ⟨_, rfl⟩ .nil))))⟩⟩
    · exact ⟨aT1, rfl, fun H => .inr ⟨_, _, _, lT1, rfl, rfl, (by show 4 ≤ sizeLine; decide), (.cons ⟨_, rfl⟩ (.cons ⟨_, rfl⟩ (.cons ⟨_, rfl⟩ (.cons ⟨_, rfl⟩ .nil))))⟩⟩
    · exact ⟨aT2, rfl, fun H => .inr ⟨_, _, _, lT2, rfl, rfl, (by show 4 ≤ sizeLine; decide), (.cons ⟨_, rfl⟩ (.cons ⟨_, rfl⟩ (.cons ⟨_, rfl⟩ (.cons ⟨_, rfl⟩ .nil))))⟩⟩
    · exact ⟨aT3, rfl, fun H => .inr ⟨_, _, _, lT3, rfl, rfl, (by show 4 ≤ sizeLine; decide), (.cons ⟨_, rfl⟩ (.cons ⟨_, rfl⟩ (.cons ⟨_, rfl⟩ (.cons ⟨_, rfl⟩ .nil))))⟩⟩
    · exact ⟨aT4, rfl, fun H => .inr ⟨_, _, _, lT4, rfl, rfl, (by show 4 ≤ sizeLine; decide), (.cons ⟨_, rfl⟩ (.cons ⟨_, rfl⟩ (.cons ⟨_, rfl⟩ (.cons ⟨_, rfl⟩ .nil))))⟩⟩
    · exact ⟨aT5, rfl, fun H => .inr ⟨_, _, _, lT5, rfl, rfl, (by show 4 ≤ sizeLine; decide), (.cons ⟨_, rfl⟩ (.cons ⟨_, rfl⟩ (.cons ⟨_, rfl⟩ (.cons ⟨_, rfl⟩ .nil))))⟩⟩
    · exact ⟨aT6, rfl, fun H => .inr ⟨_, _, _, lT6, rfl, rfl, (by show 4 ≤ sizeLine; decide), (.cons ⟨_, rfl⟩ (.cons ⟨_, rfl⟩ (.cons ⟨_, rfl⟩ (.cons ⟨_, rfl⟩ .nil))))⟩⟩
    · exact ⟨aT7, rfl, fun H => .inr ⟨_, _, _, lT7, rfl, rfl, (by show 4 ≤ sizeLine; decide), (.cons ⟨_, rfl⟩ (.cons ⟨_, rfl⟩ (.cons ⟨_, rfl⟩ (.cons ⟨_, rfl⟩ .nil))))⟩⟩
  have F_NI := fun_mk (st := sNoInit) l_NI c_NI k_NI
  have b_NI := F_NI.binds (ps := ["self", "number"]) fun _ _ _ _ _ _ us hl => match us, hl with | [_, _], _ => rfl
  have F_Chart_init := fun_mk (st := sChInit) l_Chart_init c_Chart_init k_Chart_init
  have b_Chart_init := F_Chart_init.binds (ps := ["self", "rows"]) fun _ _ _ _ _ _ us hl => match us, hl with | [_, _], _ => rfl
  have F_colour := fun_mk (st := sColour) l_colour c_colour k_colour
  have b_colour := F_colour.binds (ps := ["self", "x", "y"]) fun _ _ _ _ _ _ us hl => match us, hl with | [_, _, _], _ => rfl
  have F_Repeat_init := fun_mk (st := sRpInit) l_Repeat_init c_Repeat_init k_Repeat_init
  have b_Repeat_init := F_Repeat_init.binds (ps := ["self", "p", "q", "r"]) fun _ _ _ _ _ _ us hl => match us, hl with | [_, _, _, _], _ => rfl
  have F_has_step := fun_mk (st := sHasStep) l_has_step c_has_step k_has_step
  have b_has_step := F_has_step.binds (ps := ["self", "a", "b"]) fun _ _ _ _ _ _ us hl => match us, hl with | [_, _, _], _ => rfl
  have F_is_colour := fun_mk (st := sIsCol) l_is_colour c_is_colour k_is_colour
  have b_is_colour := F_is_colour.binds (ps := ["byte"]) fun _ _ _ _ _ _ us hl => match us, hl with | [_], _ => rfl
  have F_rows_of := fun_mk (st := sRowsOf) l_rows_of c_rows_of k_rows_of
  have b_rows_of := F_rows_of.binds (ps := ["text"]) fun _ _ _ _ _ _ us hl => match us, hl with | [_], _ => rfl
  have F_is_right_row := fun_mk (st := sRight) l_is_right_row c_is_right_row k_is_right_row
  have b_is_right_row := F_is_right_row.binds (ps := ["row", "wide"]) fun _ _ _ _ _ _ us hl => match us, hl with | [_, _], _ => rfl
  have F_read_chart := fun_mk (st := sRead) l_read_chart c_read_chart k_read_chart
  have b_read_chart := F_read_chart.binds (ps := ["text"]) fun _ _ _ _ _ _ us hl => match us, hl with | [_], _ => rfl
  have F_turned := fun_mk (st := sTurned) l_turned c_turned k_turned
  have b_turned := F_turned.binds (ps := ["m", "x", "y"]) fun _ _ _ _ _ _ us hl => match us, hl with | [_, _, _], _ => rfl
  have F_agrees := fun_mk (st := sAgrees) l_agrees c_agrees k_agrees
  have b_agrees := F_agrees.binds (ps := ["chart", "m", "a", "b", "wide", "high"]) fun _ _ _ _ _ _ us hl => match us, hl with | [_, _, _, _, _, _], _ => rfl
  have F_is_step := fun_mk (st := sStep) l_is_step c_is_step k_is_step
  have b_is_step := F_is_step.binds (ps := ["chart", "a", "b"]) fun _ _ _ _ _ _ us hl => match us, hl with | [_, _, _], _ => rfl
  have F_exchanges := fun_mk (st := sExch) l_exchanges c_exchanges k_exchanges
  have b_exchanges := F_exchanges.binds (ps := ["m"]) fun _ _ _ _ _ _ us hl => match us, hl with | [_], _ => rfl
  have F_divisor := fun_mk (st := sDiv) l_divisor c_divisor k_divisor
  have b_divisor := F_divisor.binds (ps := ["one", "other"]) fun _ _ _ _ _ _ us hl => match us, hl with | [_, _], _ => rfl
  have F_side_of := fun_mk (st := sSide) l_side_of c_side_of k_side_of
  have b_side_of := F_side_of.binds (ps := ["chart"]) fun _ _ _ _ _ _ us hl => match us, hl with | [_], _ => rfl
  have F_repeats_by_squares := fun_mk (st := sSquares) l_repeats_by_squares c_repeats_by_squares k_repeats_by_squares
  have b_repeats_by_squares := F_repeats_by_squares.binds (ps := ["chart"]) fun _ _ _ _ _ _ us hl => match us, hl with | [_], _ => rfl
  have F_window := fun_mk (st := sWindow) l_window c_window k_window
  have b_window := F_window.binds (ps := ["chart", "m"]) fun _ _ _ _ _ _ us hl => match us, hl with | [_, _], _ => rfl
  have F_least_wide := fun_mk (st := sLeastWide) l_least_wide c_least_wide k_least_wide
  have b_least_wide := F_least_wide.binds (ps := ["chart"]) fun _ _ _ _ _ _ us hl => match us, hl with | [_], _ => rfl
  have F_aside := fun_mk (st := sAside) l_aside c_aside k_aside
  have b_aside := F_aside.binds (ps := ["chart", "p", "r"]) fun _ _ _ _ _ _ us hl => match us, hl with | [_, _, _], _ => rfl
  have F_repeat_of := fun_mk (st := sRepeatOf) l_repeat_of c_repeat_of k_repeat_of
  have b_repeat_of := F_repeat_of.binds (ps := ["chart"]) fun _ _ _ _ _ _ us hl => match us, hl with | [_], _ => rfl
  have F_first_of := fun_mk (st := sFirstOf) l_first_of c_first_of k_first_of
  have b_first_of := F_first_of.binds (ps := ["chart", "repeat", "m"]) fun _ _ _ _ _ _ us hl => match us, hl with | [_, _, _], _ => rfl
  have F_firsts_of := fun_mk (st := sFirstsOf) l_firsts_of c_firsts_of k_firsts_of
  have b_firsts_of := F_firsts_of.binds (ps := ["chart", "repeat"]) fun _ _ _ _ _ _ us hl => match us, hl with | [_, _], _ => rfl
  have F_twice := fun_mk (st := sTwice) l_twice c_twice k_twice
  have b_twice := F_twice.binds (ps := ["m", "a", "b"]) fun _ _ _ _ _ _ us hl => match us, hl with | [_, _, _], _ => rfl
  have F_is_half_step := fun_mk (st := sHalf) l_is_half_step c_is_half_step k_is_half_step
  have b_is_half_step := F_is_half_step.binds (ps := ["repeat", "m", "a", "b"]) fun _ _ _ _ _ _ us hl => match us, hl with | [_, _, _, _], _ => rfl
  have F_halves := fun_mk (st := sHalves) l_halves c_halves k_halves
  have b_halves := F_halves.binds (ps := ["repeat", "first"]) fun _ _ _ _ _ _ us hl => match us, hl with | [_, _], _ => rfl
  have F_kind_of_four := fun_mk (st := sKind4) l_kind_of_four c_kind_of_four k_kind_of_four
  have b_kind_of_four := F_kind_of_four.binds (ps := ["mirrors", "has_glides"]) fun _ _ _ _ _ _ us hl => match us, hl with | [_, _], _ => rfl
  have F_kind_of_half := fun_mk (st := sKindH) l_kind_of_half c_kind_of_half k_kind_of_half
  have b_kind_of_half := F_kind_of_half.binds (ps := ["mirrors", "has_glides"]) fun _ _ _ _ _ _ us hl => match us, hl with | [_, _], _ => rfl
  have F_kind_of := fun_mk (st := sKindOf) l_kind_of c_kind_of k_kind_of
  have b_kind_of := F_kind_of.binds (ps := ["repeat", "firsts"]) fun _ _ _ _ _ _ us hl => match us, hl with | [_, _], _ => rfl
  have F_fn := fun_mk (st := sFn) l_fn c_fn k_fn
  refine ⟨PySem.W.fnOf "kind" "kind" (defArgs sFn) (defBody sFn) (defScope sFn) .none kV_fn dc_fn pm_fn an_fn cd_fn ct_fn, fun s us hu => match us, hu with | [_], _ => .of_eq rfl, fun base _ _ => ?_⟩
  have DN : DefN P w K mg base 1 CN (spNoInit CN) := ⟨_, _, a_NI, t_NI, b_NI, ok_noInit F_NI N⟩
  have DC_Chart : DefC P w K mg base CX0 1 C "Chart" ["self", "rows"] (spChInit C) := ⟨_, _, PySem.W.mg_of X G aChart, ⟨mkChart, a_Chart_init, i_Chart_init, kcChart⟩, b_Chart_init, ok_chInit F_Chart_init TC⟩
  have DM_colour : DefM P w K mg base CX0 1 C "colour" ["self", "x", "y"] (spColour C) := ⟨_, _, ⟨a_colour, i_colour, k_colour⟩, b_colour, ok_colour F_colour TC⟩
  have DC_Repeat : DefC P w K mg base CX0 1 CR "Repeat" ["self", "p", "q", "r"] (spRpInit CR) := ⟨_, _, PySem.W.mg_of X G aRepeat, ⟨mkRepeat, a_Repeat_init, i_Repeat_init, kcRepeat⟩, b_Repeat_init, ok_rpInit F_Repeat_init TR⟩
  have DM_has_step : DefM P w K mg base CX0 1 CR "has_step" ["self", "a", "b"] (spHasStep CR) := ⟨_, _, ⟨a_has_step, i_has_step, k_has_step⟩, b_has_step, ok_hasStep F_has_step TR⟩
  have D_is_colour : Def P w K mg base CX0 1 "is_colour" ["byte"] spIsCol := ⟨_, _, PySem.W.mg_of X G a_is_colour, k_is_colour, b_is_colour, ok_isCol F_is_colour⟩
  have D_rows_of : Def P w K mg base CX0 1 "rows_of" ["text"] (spRowsOf K) := ⟨_, _, PySem.W.mg_of X G a_rows_of, k_rows_of, b_rows_of, ok_rowsOf F_rows_of (PySem.W.mg_of X G z_ROW_END)⟩
  have D_is_right_row : Def P w K mg base CX0 2 "is_right_row" ["row", "wide"] (spRight K) := ⟨_, _, PySem.W.mg_of X G a_is_right_row, k_is_right_row, b_is_right_row, ok_right F_is_right_row TC D_is_colour⟩
  have D_read_chart : Def P w K mg base (L2.CX P w) 3 "read_chart" ["text"] (spRead K C CN) := ⟨_, _, PySem.W.mg_of X G a_read_chart, k_read_chart, b_read_chart, ok_read F_read_chart TC N Z DN D_rows_of D_is_right_row DC_Chart⟩
  have D_turned : Def P w K mg base CX0 1 "turned" ["m", "x", "y"] spTurned := ⟨_, _, PySem.W.mg_of X G a_turned, k_turned, b_turned, ok_turned F_turned T⟩
  have D_agrees : Def P w K mg base CX0 2 "agrees" ["chart", "m", "a", "b", "wide", "high"] (spAgrees C) := ⟨_, _, PySem.W.mg_of X G a_agrees, k_agrees, b_agrees, ok_agrees F_agrees T TC D_turned DM_colour⟩
  have D_is_step : Def P w K mg base CX0 3 "is_step" ["chart", "a", "b"] (spStep C) := ⟨_, _, PySem.W.mg_of X G a_is_step, k_is_step, b_is_step, ok_step F_is_step TC D_agrees⟩
  have D_exchanges : Def P w K mg base CX0 1 "exchanges" ["m"] spExch := ⟨_, _, PySem.W.mg_of X G a_exchanges, k_exchanges, b_exchanges, ok_exch F_exchanges T⟩
  have D_divisor : Def P w K mg base CX0 1 "divisor" ["one", "other"] spDiv := ⟨_, _, PySem.W.mg_of X G a_divisor, k_divisor, b_divisor, ok_div F_divisor⟩
  have D_side_of : Def P w K mg base CX0 2 "side_of" ["chart"] (spSide C) := ⟨_, _, PySem.W.mg_of X G a_side_of, k_side_of, b_side_of, ok_side F_side_of TC D_divisor⟩
  have D_repeats_by_squares : Def P w K mg base CX0 4 "repeats_by_squares" ["chart"] (spSquares C) := ⟨_, _, PySem.W.mg_of X G a_repeats_by_squares, k_repeats_by_squares, b_repeats_by_squares, ok_squares F_repeats_by_squares D_side_of D_is_step⟩
  have D_window : Def P w K mg base CX0 3 "window" ["chart", "m"] (spWindow C) := ⟨_, _, PySem.W.mg_of X G a_window, k_window, b_window, ok_window F_window TC D_side_of D_exchanges⟩
  have D_least_wide : Def P w K mg base CX0 4 "least_wide" ["chart"] (spLeastWide C) := ⟨_, _, PySem.W.mg_of X G a_least_wide, k_least_wide, b_least_wide, ok_leastWide F_least_wide T TC D_is_step⟩
  have D_aside : Def P w K mg base CX0 4 "aside" ["chart", "p", "r"] (spAside C) := ⟨_, _, PySem.W.mg_of X G a_aside, k_aside, b_aside, ok_aside F_aside T D_is_step⟩
  have D_repeat_of : Def P w K mg base CX0 5 "repeat_of" ["chart"] (spRepeatOf C CR) := ⟨_, _, PySem.W.mg_of X G a_repeat_of, k_repeat_of, b_repeat_of, ok_repeatOf F_repeat_of T TC D_least_wide D_aside DC_Repeat⟩
  have D_first_of : Def P w K mg base CX0 5 "first_of" ["chart", "repeat", "m"] (spFirstOf C CR) := ⟨_, _, PySem.W.mg_of X G a_first_of, k_first_of, b_first_of, ok_firstOf F_first_of T TR D_exchanges D_repeats_by_squares D_window D_agrees⟩
  have D_firsts_of : Def P w K mg base CX0 6 "firsts_of" ["chart", "repeat"] (spFirstsOf C CR) := ⟨_, _, PySem.W.mg_of X G a_firsts_of, k_firsts_of, b_firsts_of, ok_firstsOf F_firsts_of T TC D_first_of⟩
  have D_twice : Def P w K mg base CX0 2 "twice" ["m", "a", "b"] spTwice := ⟨_, _, PySem.W.mg_of X G a_twice, k_twice, b_twice, ok_twice F_twice D_turned⟩
  have D_is_half_step : Def P w K mg base CX0 3 "is_half_step" ["repeat", "m", "a", "b"] (spHalf CR) := ⟨_, _, PySem.W.mg_of X G a_is_half_step, k_is_half_step, b_is_half_step, ok_half F_is_half_step TR D_twice DM_has_step⟩
  have D_halves : Def P w K mg base CX0 4 "halves" ["repeat", "first"] (spHalves CR) := ⟨_, _, PySem.W.mg_of X G a_halves, k_halves, b_halves, ok_halves F_halves T TR D_is_half_step⟩
  have D_kind_of_four : Def P w K mg base CX0 1 "kind_of_four" ["mirrors", "has_glides"] spKind4 := ⟨_, _, PySem.W.mg_of X G a_kind_of_four, k_kind_of_four, b_kind_of_four, ok_kind4 F_kind_of_four⟩
  have D_kind_of_half : Def P w K mg base CX0 1 "kind_of_half" ["mirrors", "has_glides"] spKindH := ⟨_, _, PySem.W.mg_of X G a_kind_of_half, k_kind_of_half, b_kind_of_half, ok_kindH F_kind_of_half⟩
  have D_kind_of : Def P w K mg base CX0 5 "kind_of" ["repeat", "firsts"] (spKindOf CR) := ⟨_, _, PySem.W.mg_of X G a_kind_of, k_kind_of, b_kind_of, ok_kindOf F_kind_of TC (PySem.W.mg_none_of X G z_any) D_halves D_kind_of_four D_kind_of_half⟩
  exact ok_fn F_fn N TC D_read_chart D_repeat_of D_firsts_of D_kind_of
end Kn
open PySem PySem.W PyProof.Rows
set_option maxRecDepth 100000 in
set_option maxHeartbeats 8000000 in
theorem PySem.Challenge.cw_knotcharts_s06_kind_holds : PySem.Challenge.rw_knotcharts_s06_kind.Holds := by
  w_on; k_headS; (case hw => exact ⟨[.list []], by decide +kernel, by decide +kernel⟩)
  k_fillS
  refine L2.walk_specK (r := PySem.Challenge.rw_knotcharts_s06_kind) (k := 7) (CX := L2.CX0) (ps := ["t"]) (sp := Kn.spFn) (by decide +kernel) rfl rfl ⟨rfl, by decide, by decide⟩ (fun w h Y => PySem.W.kIn_of Y) ?F ?S (fun _ _ _ _ z => z)
  case F =>
    intro w mg fa h Y KX G hmg
    refine' Kn.all_mk KX G hmg ?aN ?xL ?saN ?gaN ?ggN ?nbN ?kN ?eN ?tN ?hN ?iN ?sN ?vV ?a_NI ?l_NI ?c_NI ?t_NI ?k_NI ?aChart ?pgChart ?hdChart ?poChart ?saChart ?mkChart ?kcChart ?nChart_rows ?nChart_wide ?nChart_high ?a_Chart_init ?l_Chart_init ?c_Chart_init ?i_Chart_init ?k_Chart_init ?a_colour ?l_colour ?c_colour ?i_colour ?k_colour ?aRepeat ?pgRepeat ?hdRepeat ?poRepeat ?saRepeat ?mkRepeat ?kcRepeat ?nRepeat_p ?nRepeat_q ?nRepeat_r ?a_Repeat_init ?l_Repeat_init ?c_Repeat_init ?i_Repeat_init ?k_Repeat_init ?a_has_step ?l_has_step ?c_has_step ?i_has_step ?k_has_step ?z_MOST_BYTES ?z_MOST_WIDE ?z_MOST_HIGH ?z_MOST_KNOTS ?z_ROW_END ?z_TOO_LONG ?z_NO_CHART ?z_len ?z_all ?z_list ?z_ValueError ?z_range ?z_any ?zT ?lT ?lT0 ?lT1 ?lT2 ?lT3 ?lT4 ?lT5 ?lT6 ?lT7 ?a_is_colour ?l_is_colour ?c_is_colour ?k_is_colour ?a_rows_of ?l_rows_of ?c_rows_of ?k_rows_of ?a_is_right_row ?l_is_right_row ?c_is_right_row ?k_is_right_row ?a_read_chart ?l_read_chart ?c_read_chart ?k_read_chart ?a_turned ?l_turned ?c_turned ?k_turned ?a_agrees ?l_agrees ?c_agrees ?k_agrees ?a_is_step ?l_is_step ?c_is_step ?k_is_step ?a_exchanges ?l_exchanges ?c_exchanges ?k_exchanges ?a_divisor ?l_divisor ?c_divisor ?k_divisor ?a_side_of ?l_side_of ?c_side_of ?k_side_of ?a_repeats_by_squares ?l_repeats_by_squares ?c_repeats_by_squares ?k_repeats_by_squares ?a_window ?l_window ?c_window ?k_window ?a_least_wide ?l_least_wide ?c_least_wide ?k_least_wide ?a_aside ?l_aside ?c_aside ?k_aside ?a_repeat_of ?l_repeat_of ?c_repeat_of ?k_repeat_of ?a_first_of ?l_first_of ?c_first_of ?k_first_of ?a_firsts_of ?l_firsts_of ?c_firsts_of ?k_firsts_of ?a_twice ?l_twice ?c_twice ?k_twice ?a_is_half_step ?l_is_half_step ?c_is_half_step ?k_is_half_step ?a_halves ?l_halves ?c_halves ?k_halves ?a_kind_of_four ?l_kind_of_four ?c_kind_of_four ?k_kind_of_four ?a_kind_of_half ?l_kind_of_half ?c_kind_of_half ?k_kind_of_half ?a_kind_of ?l_kind_of ?c_kind_of ?k_kind_of ?a_fn ?l_fn ?c_fn ?k_fn
    (case aN => k_is)
    (case xL => k_is)
    (case saN => k_is)
    (case gaN => k_is)
    (case ggN => k_is)
    (case nbN => k_is)
    (case kN => k_is)
    (case eN => k_is)
    (case tN => k_is)
    (case hN => k_is)
    (case iN => k_is)
    (case sN => first | rfl | k_is)
    (case vV => k_is)
    (case a_NI => k_is)
    (case l_NI => k_is)
    (case c_NI => k_is)
    (case t_NI => k_is)
    (case k_NI => k_is)
    (case aChart => k_is)
    (case pgChart => k_is)
    (case hdChart => k_is)
    (case poChart => k_is)
    (case saChart => k_is)
    (case mkChart => k_is)
    (case kcChart => k_is)
    (case nChart_rows => k_is)
    (case nChart_wide => k_is)
    (case nChart_high => k_is)
    (case a_Chart_init => k_is)
    (case l_Chart_init => k_is)
    (case c_Chart_init => k_is)
    (case i_Chart_init => k_is)
    (case k_Chart_init => k_is)
    (case a_colour => k_is)
    (case l_colour => k_is)
    (case c_colour => k_is)
    (case i_colour => k_is)
    (case k_colour => k_is)
    (case aRepeat => k_is)
    (case pgRepeat => k_is)
    (case hdRepeat => k_is)
    (case poRepeat => k_is)
    (case saRepeat => k_is)
    (case mkRepeat => k_is)
    (case kcRepeat => k_is)
    (case nRepeat_p => k_is)
    (case nRepeat_q => k_is)
    (case nRepeat_r => k_is)
    (case a_Repeat_init => k_is)
    (case l_Repeat_init => k_is)
    (case c_Repeat_init => k_is)
    (case i_Repeat_init => k_is)
    (case k_Repeat_init => k_is)
    (case a_has_step => k_is)
    (case l_has_step => k_is)
    (case c_has_step => k_is)
    (case i_has_step => k_is)
    (case k_has_step => k_is)
    (case z_MOST_BYTES => k_is)
    (case z_MOST_WIDE => k_is)
    (case z_MOST_HIGH => k_is)
    (case z_MOST_KNOTS => k_is)
    (case z_ROW_END => k_is)
    (case z_TOO_LONG => k_is)
    (case z_NO_CHART => k_is)
    (case z_len => k_is)
    (case z_all => k_is)
    (case z_list => k_is)
    (case z_ValueError => k_is)
    (case z_range => k_is)
    (case z_any => k_is)
    (case zT => k_is)
    (case lT => k_is)
    (case lT0 => k_is)
    (case lT1 => k_is)
    (case lT2 => k_is)
    (case lT3 => k_is)
    (case lT4 => k_is)
    (case lT5 => k_is)
    (case lT6 => k_is)
    (case lT7 => k_is)
    (case a_is_colour => k_is)
    (case l_is_colour => k_is)
    (case c_is_colour => k_is)
    (case k_is_colour => k_is)
    (case a_rows_of => k_is)
    (case l_rows_of => k_is)
    (case c_rows_of => k_is)
    (case k_rows_of => k_is)
    (case a_is_right_row => k_is)
    (case l_is_right_row => k_is)
    (case c_is_right_row => k_is)
    (case k_is_right_row => k_is)
    (case a_read_chart => k_is)
    (case l_read_chart => k_is)
    (case c_read_chart => k_is)
    (case k_read_chart => k_is)
    (case a_turned => k_is)
    (case l_turned => k_is)
    (case c_turned => k_is)
    (case k_turned => k_is)
    (case a_agrees => k_is)
    (case l_agrees => k_is)
    (case c_agrees => k_is)
    (case k_agrees => k_is)
    (case a_is_step => k_is)
    (case l_is_step => k_is)
    (case c_is_step => k_is)
    (case k_is_step => k_is)
    (case a_exchanges => k_is)
    (case l_exchanges => k_is)
    (case c_exchanges => k_is)
    (case k_exchanges => k_is)
    (case a_divisor => k_is)
    (case l_divisor => k_is)
    (case c_divisor => k_is)
    (case k_divisor => k_is)
    (case a_side_of => k_is)
    (case l_side_of => k_is)
    (case c_side_of => k_is)
    (case k_side_of => k_is)
    (case a_repeats_by_squares => k_is)
    (case l_repeats_by_squares => k_is)
    (case c_repeats_by_squares => k_is)
    (case k_repeats_by_squares => k_is)
    (case a_window => k_is)
    (case l_window => k_is)
    (case c_window => k_is)
    (case k_window => k_is)
    (case a_least_wide => k_is)
    (case l_least_wide => k_is)
    (case c_least_wide => k_is)
    (case k_least_wide => k_is)
    (case a_aside => k_is)
    (case l_aside => k_is)
    (case c_aside => k_is)
    (case k_aside => k_is)
    (case a_repeat_of => k_is)
    (case l_repeat_of => k_is)
    (case c_repeat_of => k_is)
    (case k_repeat_of => k_is)
    (case a_first_of => k_is)
    (case l_first_of => k_is)
    (case c_first_of => k_is)
    (case k_first_of => k_is)
    (case a_firsts_of => k_is)
    (case l_firsts_of => k_is)
    (case c_firsts_of => k_is)
    (case k_firsts_of => k_is)
    (case a_twice => k_is)
    (case l_twice => k_is)
    (case c_twice => k_is)
    (case k_twice => k_is)
    (case a_is_half_step => k_is)
    (case l_is_half_step => k_is)
    (case c_is_half_step => k_is)
    (case k_is_half_step => k_is)
    (case a_halves => k_is)
    (case l_halves => k_is)
    (case c_halves => k_is)
    (case k_halves => k_is)
    (case a_kind_of_four => k_is)
    (case l_kind_of_four => k_is)
    (case c_kind_of_four => k_is)
    (case k_kind_of_four => k_is)
    (case a_kind_of_half => k_is)
    (case l_kind_of_half => k_is)
    (case c_kind_of_half => k_is)
    (case k_kind_of_half => k_is)
    (case a_kind_of => k_is)
    (case l_kind_of => k_is)
    (case c_kind_of => k_is)
    (case k_kind_of => k_is)
    (case a_fn => k_is)
    (case l_fn => k_is)
    (case c_fn => k_is)
    (case k_fn => k_is)
  case S =>
    intro K H xs a hO hwi hask hx
    cases hx with
    | cons g0 r0 =>
      cases r0
      cases g0 with
      | lst hs ha =>
        have e := L2.ints_dw a.1 _ ha
        subst e
        have q : ((Codec.inLen 0 66100 a.1 && a.1.all (Codec.inInt 0 255)) && true) = true := hwi
        simp only [Bool.and_eq_true, List.all_eq_true, Codec.inInt_iff] at q
        obtain ⟨⟨ql, qb⟩, _⟩ := q
        have hl : a.1.length ≤ 100000 := Nat.le_trans (Codec.inNat_iff.mp ql).2 (by decide)
        have hb : ∀ z ∈ a.1, Kn.isByte z := fun z hz => qb z hz
        have e := Kn.kind_is (t := a.1) hb
        refine ⟨_, a.1, rfl, hs, hl, hb, fun H' p hp => ?_⟩
        show L2.Dw K H' (.ref p) (.list ((PyWqbbcf.kind a.1).map WData.int))
        rw [e]
        exact .lst (L2.SqL.of hp) (L2.dw_ints _)
#print axioms PySem.Challenge.cw_knotcharts_s06_kind_holds
