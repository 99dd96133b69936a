import PyProof.Rows.All
import Wide.All
import OpenK.AllK
import Wide.FinOn
import HandS.ForMost
import HandS.Exc
import HandS.TryOnly
import HandS.ExcOwn
import HandS.Wide
import HandS.Gcd
import HandS.TupAny
import HandS.Deep
import HandS.Zip
import HandS.More
import KE.SortData
import KE.KDictCopyH
import HandS.DictComp
import HandS.Iter
import HandS.Style
import KE.GoesEnum
import PyProof.SumWalkG
import PySem.Challenge.RW_termmaps_k18_regions_of_planes
set_option Elab.async false
set_option linter.all false
set_option maxRecDepth 100000
set_option maxHeartbeats 4000000
/-! GA: plane geometry with whole numbers (k18, k44, k17): points and planes as triples, convex rows of points -/
namespace Geo
/-- a point (q, x, y), or a plane (c, u, v) -/
structure T3 where
  q : Int
  x : Int
  y : Int
  deriving DecidableEq
def det (a b c : T3) : Int := a.q * (b.x * c.y - c.x * b.y) - a.x * (b.q * c.y - c.q * b.y) + a.y * (b.q * c.x - c.q * b.x)
def val (p a : T3) : Int := p.q * a.q + p.x * a.x + p.y * a.y
theorem det_rot (a b c : T3) : det b c a = det a b c := by unfold det; grind
theorem det_swap (a b c : T3) : det a c b = - det a b c := by unfold det; grind
theorem det_same (a b : T3) : det a b b = 0 := by unfold det; grind
theorem det_same1 (a b : T3) : det a a b = 0 := by unfold det; grind
theorem det_same2 (a b : T3) : det a b a = 0 := by unfold det; grind
/-- four points in the plane: Cramer's rule, read by any plane -/
theorem cramer (p u v w z : T3) : det v w z * val p u - det u w z * val p v + det u v z * val p w - det u v w * val p z = 0 := by unfold det val; grind
theorem cramer4 (a b u v w z : T3) : det v w z * det a b u - det u w z * det a b v + det u v z * det a b w - det u v w * det a b z = 0 := by unfold det; grind
/-- a row of points, each three of which turn left -/
def Conv : List T3 → Prop
  | [] => True
  | a :: l => l.Pairwise (fun b c => 0 < det a b c) ∧ Conv l
theorem pairwise_uniq {α : Type} [BEq α] [LawfulBEq α] {R : α → α → Prop} (as : ∀ a b, R a b → ¬ R b a) : ∀ {l m : List α}, l.Pairwise R → m.Pairwise R → (∀ x, x ∈ l ↔ x ∈ m) → l = m
  | [], [], _, _, _ => rfl
  | [], b :: m, _, _, h => by have := (h b).mpr List.mem_cons_self; simp at this
  | a :: l, [], _, _, h => by have := (h a).mp List.mem_cons_self; simp at this
  | a :: l, b :: m, hl, hm, h => by
    have hl1 := List.pairwise_cons.mp hl
    have hm1 := List.pairwise_cons.mp hm
    have ir : ∀ x, ¬ R x x := fun x z => as x x z z
    have e : a = b := by
      rcases List.mem_cons.mp ((h a).mp List.mem_cons_self) with e | ha
      · exact e
      · rcases List.mem_cons.mp ((h b).mpr List.mem_cons_self) with e | hb
        · exact e.symm
        · exact absurd (hl1.1 b hb) (as _ _ (hm1.1 a ha))
    subst e
    have hal : a ∉ l := fun z => ir a (hl1.1 a z)
    have ham : a ∉ m := fun z => ir a (hm1.1 a z)
    rw [pairwise_uniq as hl1.2 hm1.2 fun x => ⟨fun hx => ?_, fun hx => ?_⟩]
    · rcases List.mem_cons.mp ((h x).mp (List.mem_cons_of_mem _ hx)) with e | g
      · exact absurd (e ▸ hx) hal
      · exact g
    · rcases List.mem_cons.mp ((h x).mpr (List.mem_cons_of_mem _ hx)) with e | g
      · exact absurd (e ▸ hx) ham
      · exact g
theorem det_asym (a b c : T3) (h : 0 < det a b c) : ¬ 0 < det a c b := by rw [det_swap]; omega
/-- a convex row with a told head is told by its points -/
theorem conv_uniq {a : T3} {l m : List T3} (hl : Conv (a :: l)) (hm : Conv (a :: m)) (h : ∀ x, x ∈ l ↔ x ∈ m) : l = m :=
  pairwise_uniq (R := fun b c => 0 < det a b c) (fun b c => det_asym a b c) hl.1 hm.1 h
/-- the fan: a point left of the first and the last side seen from a lies in one of the triangles -/
theorem fan {a X : T3} : ∀ {b : T3} {l : List T3}, 0 ≤ det a b X → (∀ z, (b :: l).getLast? = some z → det a z X ≤ 0) → l ≠ [] → ∃ l1 c d l2, b :: l = l1 ++ c :: d :: l2 ∧ 0 ≤ det a c X ∧ det a d X ≤ 0
  | b, [], _, _, h => absurd rfl h
  | b, c :: l, h1, h2, _ => by
    by_cases hc : det a c X ≤ 0
    · exact ⟨[], b, c, l, rfl, h1, hc⟩
    · have hn : l ≠ [] := fun e => by
        subst e
        exact hc (h2 c rfl)
      obtain ⟨l1, c', d, l2, e, g1, g2⟩ := fan (b := c) (l := l) (by omega) (fun z hz => h2 z (by rw [List.getLast?_cons_cons]; exact hz)) hn
      exact ⟨b :: l1, c', d, l2, by rw [e]; rfl, g1, g2⟩
end Geo
/-! GB: the order of the corners of a convex row -/
namespace Geo
/-- one lies ahead of the other: by x, then by y -/
def lt (a b : T3) : Prop := a.x * b.q < b.x * a.q ∨ (a.x * b.q = b.x * a.q ∧ a.y * b.q < b.y * a.q)
theorem lt_asym {a b : T3} (h : lt a b) : ¬ lt b a := by unfold lt at *; omega
theorem lt_irr {a : T3} : ¬ lt a a := fun h => lt_asym h h
theorem signs {α β δ u v z : Int} (ha : 0 < α) (hb : 0 < β) (hd : 0 < δ) (hu : u ≤ 0) (hv : 0 ≤ v) (hz : 0 ≤ z) (e : α * u = β * v + δ * z) : u = 0 ∧ v = 0 ∧ z = 0 := by
  have h1 : α * u ≤ 0 := Int.mul_nonpos_of_nonneg_of_nonpos (by omega) hu
  have h2 : 0 ≤ β * v := Int.mul_nonneg (by omega) hv
  have h3 : 0 ≤ δ * z := Int.mul_nonneg (by omega) hz
  have e1 : α * u = 0 := by omega
  have e2 : β * v = 0 := by omega
  have e3 : δ * z = 0 := by omega
  refine ⟨?_, ?_, ?_⟩
  · rcases Int.mul_eq_zero.mp e1 with h | h
    · omega
    · exact h
  · rcases Int.mul_eq_zero.mp e2 with h | h
    · omega
    · exact h
  · rcases Int.mul_eq_zero.mp e3 with h | h
    · omega
    · exact h
/-- of a row that turns left from the first to the last point, the points between ascend -/
theorem four {u v w z : T3} (h1 : 0 < det v w z) (h2 : 0 < det u w z) (h3 : 0 < det u v w) (hu : lt u w) (hz : lt w z) : lt v w := by
  have eg := cramer ⟨-w.x, w.q, 0⟩ u v w z
  have eh := cramer ⟨-w.y, 0, w.q⟩ u v w z
  unfold val at eg eh
  dsimp only at eg eh
  unfold lt at *
  have a1 : det v w z * (u.x * w.q - w.x * u.q) = det u w z * (v.x * w.q - w.x * v.q) + det u v w * (z.x * w.q - w.x * z.q) := by grind
  have a2 : det v w z * (u.y * w.q - w.y * u.q) = det u w z * (v.y * w.q - w.y * v.q) + det u v w * (z.y * w.q - w.y * z.q) := by grind
  refine Classical.byContradiction fun hn => ?_
  obtain ⟨g1, g2, g3⟩ := signs h1 h2 h3 (by omega) (by omega) (by omega) a1
  obtain ⟨k1, k2, k3⟩ := signs h1 h2 h3 (by omega) (by omega) (by omega) a2
  omega
/-- .. and those behind the last one descend -/
theorem four' {u v w z : T3} (h1 : 0 < det v w z) (h2 : 0 < det u w z) (h3 : 0 < det u v w) (hu : lt w u) (hz : lt z w) : lt w v := by
  have eg := cramer ⟨w.x, -w.q, 0⟩ u v w z
  have eh := cramer ⟨w.y, 0, -w.q⟩ u v w z
  unfold val at eg eh
  dsimp only at eg eh
  unfold lt at *
  have a1 : det v w z * (w.x * u.q - u.x * w.q) = det u w z * (w.x * v.q - v.x * w.q) + det u v w * (w.x * z.q - z.x * w.q) := by grind
  have a2 : det v w z * (w.y * u.q - u.y * w.q) = det u w z * (w.y * v.q - v.y * w.q) + det u v w * (w.y * z.q - z.y * w.q) := by grind
  refine Classical.byContradiction fun hn => ?_
  obtain ⟨g1, g2, g3⟩ := signs h1 h2 h3 (by omega) (by omega) (by omega) a1
  obtain ⟨k1, k2, k3⟩ := signs h1 h2 h3 (by omega) (by omega) (by omega) a2
  omega
theorem conv_tail {A B : List T3} (h : Conv (A ++ B)) : Conv B := by
  induction A with
  | nil => exact h
  | cons a A ih => exact ih h.2
theorem conv_last {z : T3} {B : List T3} : ∀ {A : List T3}, Conv (A ++ z :: B) → A.Pairwise fun v w => 0 < det v w z
  | [], _ => .nil
  | a :: A, h => by
    have p := List.pairwise_append.mp h.1
    exact .cons (fun w hw => p.2.2 w hw z List.mem_cons_self) (conv_last h.2)
/-- the points between the first and the last one ascend -/
theorem asc {u z : T3} {A B : List T3} (h : Conv (u :: (A ++ z :: B))) (hu : ∀ w ∈ A, lt u w) (hz : ∀ w ∈ A, lt w z) : A.Pairwise lt := by
  have p := List.pairwise_append.mp h.1
  refine List.Pairwise.imp_of_mem (fun {v w} hv hw g => ?_) (p.1.and (conv_last h.2))
  exact four g.2 (p.2.2 w hw z List.mem_cons_self) g.1 (hu w hw) (hz w hw)
/-- those behind the last one descend -/
theorem desc {u z : T3} {A B : List T3} (h : Conv (u :: (A ++ z :: B))) (hu : ∀ w ∈ B, lt u w) (hz : ∀ w ∈ B, lt w z) : B.Pairwise fun v w => lt w v := by
  have p := List.pairwise_append.mp h.1
  have q := List.pairwise_cons.mp p.2.1
  have c := conv_tail (A := A) h.2
  refine List.Pairwise.imp_of_mem (fun {v w} hv hw g => ?_) (q.2.and c.1)
  -- the four points z, v, w, u turn left
  refine four' (u := z) (v := v) (w := w) (z := u) ?_ ?_ g.2 (hz w hw) (hu w hw)
  · rw [det_rot]; exact g.1
  · rw [det_rot]; exact q.1 w hw
/-- what stands under the line from the first to the last one, and beyond it -/
theorem under_of {u z : T3} {A B : List T3} (h : Conv (u :: (A ++ z :: B))) : (∀ w ∈ A, det u z w < 0) ∧ ∀ w ∈ B, 0 < det u z w := by
  have p := List.pairwise_append.mp h.1
  have q := List.pairwise_cons.mp p.2.1
  refine ⟨fun w hw => ?_, fun w hw => q.1 w hw⟩
  have := p.2.2 w hw z List.mem_cons_self
  rw [det_swap] at this
  omega
/-- the corners in the law's own order -/
def ordered (u z : T3) (M : List T3) : List T3 := u :: (M.filter (fun w => det u z w < 0) ++ z :: (M.filter fun w => 0 < det u z w).reverse)
theorem ordered_is {u z : T3} {A B M : List T3} (h : Conv (u :: (A ++ z :: B))) (hM : M.Pairwise lt) (hm : ∀ w, w ∈ M ↔ w ∈ A ∨ w ∈ B) (hu : ∀ w ∈ M, lt u w) (hz : ∀ w ∈ M, lt w z) : ordered u z M = u :: (A ++ z :: B) := by
  obtain ⟨k1, k2⟩ := under_of h
  have a1 : M.filter (fun w => det u z w < 0) = A := by
    refine pairwise_uniq (fun a b => lt_asym) (hM.filter _) (asc h (fun w hw => hu w ((hm w).mpr (.inl hw))) fun w hw => hz w ((hm w).mpr (.inl hw))) fun w => ?_
    rw [List.mem_filter, hm]
    constructor
    · rintro ⟨g | g, t⟩
      · exact g
      · have := k2 w g
        have := of_decide_eq_true t
        omega
    · exact fun g => ⟨.inl g, decide_eq_true (k1 w g)⟩
  have a2 : M.filter (fun w => 0 < det u z w) = B.reverse := by
    refine pairwise_uniq (fun a b => lt_asym) (hM.filter _) (List.pairwise_reverse.mpr (desc h (fun w hw => hu w ((hm w).mpr (.inr hw))) fun w hw => hz w ((hm w).mpr (.inr hw)))) fun w => ?_
    rw [List.mem_filter, List.mem_reverse, hm]
    constructor
    · rintro ⟨g | g, t⟩
      · have := k1 w g
        have := of_decide_eq_true t
        omega
      · exact g
    · exact fun g => ⟨.inr g, decide_eq_true (k2 w g)⟩
  unfold ordered
  rw [a1, a2, List.reverse_reverse]
end Geo
/-! GC: what planes leave, corners, mixtures -/
namespace Geo
def Sat (S : List T3) (X : T3) : Prop := ∀ s ∈ S, val s X ≤ 0
def cross (s t : T3) : Int := s.x * t.y - s.y * t.x
/-- a corner of what the planes leave -/
structure Vert (S : List T3) (X : T3) : Prop where
  pos : 0 < X.q
  sat : Sat S X
  two : ∃ s ∈ S, ∃ t ∈ S, val s X = 0 ∧ val t X = 0 ∧ cross s t ≠ 0
/-- the same point of the plane -/
def Same (a b : T3) : Prop := a.q * b.x = b.q * a.x ∧ a.q * b.y = b.q * a.y
/-- a mixture of three corners -/
def Hull (L : List T3) (X : T3) : Prop := ∃ A ∈ L, ∃ B ∈ L, ∃ C ∈ L, ∃ a b c D : Int, 0 ≤ a ∧ 0 ≤ b ∧ 0 ≤ c ∧ 0 < D ∧ ∀ p, D * val p X = a * val p A + b * val p B + c * val p C
theorem same_of_two {s t a b : T3} (h : cross s t ≠ 0) (s1 : val s a = 0) (t1 : val t a = 0) (s2 : val s b = 0) (t2 : val t b = 0) : Same a b := by
  unfold val cross at *
  constructor
  · have : (s.x * t.y - s.y * t.x) * (a.q * b.x - b.q * a.x) = 0 := by grind
    rcases Int.mul_eq_zero.mp this with g | g
    · exact absurd g h
    · omega
  · have : (s.x * t.y - s.y * t.x) * (a.q * b.y - b.q * a.y) = 0 := by grind
    rcases Int.mul_eq_zero.mp this with g | g
    · exact absurd g h
    · omega
theorem zero_of {a u : Int} (ha : 0 < a) (h : a * u = 0) : u = 0 := by
  rcases Int.mul_eq_zero.mp h with g | g
  · omega
  · exact g
theorem nonpos3 {a b c u v w : Int} (ha : 0 ≤ a) (hb : 0 ≤ b) (hc : 0 ≤ c) (hu : u ≤ 0) (hv : v ≤ 0) (hw : w ≤ 0) (e : a * u + b * v + c * w = 0) : a * u = 0 ∧ b * v = 0 ∧ c * w = 0 := by
  have h1 : a * u ≤ 0 := Int.mul_nonpos_of_nonneg_of_nonpos ha hu
  have h2 : b * v ≤ 0 := Int.mul_nonpos_of_nonneg_of_nonpos hb hv
  have h3 : c * w ≤ 0 := Int.mul_nonpos_of_nonneg_of_nonpos hc hw
  omega
/-- each corner of what the planes leave stands in a row whose mixtures are all that they leave -/
theorem vert_mem {S L : List T3} {X : T3} (v : Vert S X) (hs : ∀ c ∈ L, Sat S c) (h : Hull L X) : ∃ A ∈ L, Same A X := by
  obtain ⟨s, hsS, t, htS, s0, t0, hx⟩ := v.two
  obtain ⟨A, hA, B, hB, C, hC, a, b, c, D, ha, hb, hc, hD, e⟩ := h
  have es := e s
  have et := e t
  rw [s0, Int.mul_zero] at es
  rw [t0, Int.mul_zero] at et
  obtain ⟨s1, s2, s3⟩ := nonpos3 ha hb hc (hs A hA s hsS) (hs B hB s hsS) (hs C hC s hsS) es.symm
  obtain ⟨t1, t2, t3⟩ := nonpos3 ha hb hc (hs A hA t htS) (hs B hB t htS) (hs C hC t htS) et.symm
  by_cases g1 : 0 < a
  · exact ⟨A, hA, same_of_two hx (zero_of g1 s1) (zero_of g1 t1) s0 t0⟩
  by_cases g2 : 0 < b
  · exact ⟨B, hB, same_of_two hx (zero_of g2 s2) (zero_of g2 t2) s0 t0⟩
  by_cases g3 : 0 < c
  · exact ⟨C, hC, same_of_two hx (zero_of g3 s3) (zero_of g3 t3) s0 t0⟩
  have z := e ⟨1, 0, 0⟩
  have a0 : a = 0 := by omega
  have b0 : b = 0 := by omega
  have c0 : c = 0 := by omega
  rw [a0, b0, c0] at z
  unfold val at z
  have hp := Int.mul_pos hD v.pos
  simp at z
  have := v.pos
  omega
/-- a plane with a normal does not pass through three points that turn -/
theorem off_line {s c d e : T3} (h : 0 < det c d e) (hn : s.x ≠ 0 ∨ s.y ≠ 0) (h1 : val s c = 0) (h2 : val s d = 0) : val s e ≠ 0 := by
  intro h3
  have k1 : det c d e * s.x = 0 := by unfold det val at *; grind
  have k2 : det c d e * s.y = 0 := by unfold det val at *; grind
  have := zero_of h k1
  have := zero_of h k2
  omega
/-- what the plane of a side leaves lies to the left of the side -/
theorem left_of {s c d e X : T3} (h : 0 < det c d e) (hn : s.x ≠ 0 ∨ s.y ≠ 0) (h1 : val s c = 0) (h2 : val s d = 0) (h3 : val s e ≤ 0) (hX : val s X ≤ 0) : 0 ≤ det c d X := by
  have k := off_line h hn h1 h2
  have e4 := cramer s c d e X
  rw [h1, h2, Int.mul_zero, Int.mul_zero] at e4
  refine Classical.byContradiction fun g => ?_
  have q1 : 0 < det c d X * val s e := Int.mul_pos_of_neg_of_neg (by omega) (by omega)
  have q2 : det c d e * val s X ≤ 0 := Int.mul_nonpos_of_nonneg_of_nonpos (by omega) hX
  omega
/-- a point within a triangle is a mixture of its corners -/
theorem hull_tri {L : List T3} {a c d X : T3} (ha : a ∈ L) (hc : c ∈ L) (hd : d ∈ L) (h : 0 < det a c d) (h1 : 0 ≤ det c d X) (h2 : det a d X ≤ 0) (h3 : 0 ≤ det a c X) : Hull L X :=
  ⟨a, ha, c, hc, d, hd, det c d X, -det a d X, det a c X, det a c d, h1, by omega, h3, h, fun p => by have := cramer p a c d X; grind⟩
end Geo
/-! GD: a convex row whose sides are told by planes holds all that the planes leave -/
namespace Geo
/-- both stand on a plane that has a normal -/
def Link (S : List T3) (c d : T3) : Prop := ∃ s ∈ S, val s c = 0 ∧ val s d = 0 ∧ (s.x ≠ 0 ∨ s.y ≠ 0)
def Chn (S : List T3) : T3 → List T3 → Prop
  | _, [] => True
  | a, b :: l => Link S a b ∧ Chn S b l
def Ring (S : List T3) : List T3 → Prop
  | [] => True
  | a :: l => Chn S a (l ++ [a])
theorem Link.symm {S : List T3} {c d : T3} (h : Link S c d) : Link S d c := by
  obtain ⟨s, a, b, c, d⟩ := h
  exact ⟨s, a, c, b, d⟩
theorem Link.mono {S S' : List T3} {c d : T3} (h : Link S c d) (m : ∀ s ∈ S, s ∈ S') : Link S' c d := by
  obtain ⟨s, a, b, c, d⟩ := h
  exact ⟨s, m s a, b, c, d⟩
theorem Chn.mono {S S' : List T3} (m : ∀ s ∈ S, s ∈ S') : ∀ {a : T3} {l : List T3}, Chn S a l → Chn S' a l
  | _, [], _ => trivial
  | _, _ :: _, h => ⟨h.1.mono m, h.2.mono m⟩
theorem Chn.mid {S : List T3} {c d : T3} {l2 : List T3} : ∀ {a : T3} {l1 : List T3}, Chn S a (l1 ++ c :: d :: l2) → Link S c d
  | _, [], h => h.2.1
  | _, _ :: l1, h => Chn.mid (l1 := l1) h.2
theorem Chn.app {S : List T3} {c : T3} {l2 : List T3} : ∀ {a : T3} {l1 : List T3}, Chn S a (l1 ++ c :: l2) ↔ Chn S a (l1 ++ [c]) ∧ Chn S c l2
  | _, [] => by simp [Chn]
  | _, b :: l1 => by
    have := Chn.app (S := S) (c := c) (l2 := l2) (a := b) (l1 := l1)
    simp only [List.cons_append, Chn, this, and_assoc]
theorem Chn.last {S : List T3} {z y : T3} : ∀ {a : T3} {l : List T3}, l.getLast? = some z → Chn S a (l ++ [y]) → Link S z y
  | _, [], e, _ => by cases e
  | _, [b], e, h => by
    cases e
    exact h.2.1
  | _, b :: c :: l, e, h => Chn.last (a := b) (l := c :: l) (by rw [List.getLast?_cons_cons] at e; exact e) h.2
theorem left_link {S : List T3} {c d e X : T3} (h : 0 < det c d e) (k : Link S c d) (he : Sat S e) (hX : Sat S X) : 0 ≤ det c d X := by
  obtain ⟨s, hs, h1, h2, hn⟩ := k
  exact left_of h hn h1 h2 (he s hs) (hX s hs)
theorem mem_of_last {l : List T3} {z : T3} (h : l.getLast? = some z) : z ∈ l := List.mem_of_getLast? h
theorem conv_hull {S : List T3} {a b : T3} {l : List T3} (hl : l ≠ []) (hc : Conv (a :: b :: l)) (hr : Ring S (a :: b :: l)) (hs : ∀ c ∈ a :: b :: l, Sat S c) {X : T3} (hX : Sat S X) : Hull (a :: b :: l) X := by
  obtain ⟨p1, p2⟩ := hc
  have q := List.pairwise_cons.mp p1
  have hr' : Chn S a ((b :: l) ++ [a]) := hr
  have ab : 0 ≤ det a b X := by
    obtain ⟨e, he⟩ := List.exists_mem_of_ne_nil l hl
    exact left_link (q.1 e he) hr'.1 (hs e (by simp [he])) hX
  have za : ∀ z, (b :: l).getLast? = some z → det a z X ≤ 0 := by
    intro z hz
    have lk := hr'.last hz
    have zl : l.getLast? = some z := by
      cases l with
      | nil => exact absurd rfl hl
      | cons x y => rw [List.getLast?_cons_cons] at hz; exact hz
    have := q.1 z (mem_of_last zl)
    have g : 0 < det z a b := by rw [← det_rot z a b]; exact this
    have k := left_link g lk (hs b (by simp)) hX
    have e : det z a X = - det a z X := by unfold det; grind
    omega
  obtain ⟨l1, c, d, l2, e, g1, g2⟩ := fan ab za hl
  have hcm : c ∈ b :: l := by rw [e]; simp
  have hdm : d ∈ b :: l := by rw [e]; simp
  have hcd : 0 < det a c d := by
    rw [e] at p1
    have := List.pairwise_append.mp p1
    exact (List.pairwise_cons.mp this.2.1).1 d List.mem_cons_self
  have lk : Link S c d := by
    rw [e, List.append_assoc] at hr'
    exact Chn.mid (l1 := l1) (l2 := l2 ++ [a]) hr'
  have k := left_link (e := a) (by rw [det_rot]; exact hcd) lk (hs a (by simp)) hX
  exact hull_tri (by simp) (List.mem_cons_of_mem _ hcm) (List.mem_cons_of_mem _ hdm) hcd k g2 g1
end Geo
/-! GE: rows turned; the signs of a plane along a row -/
namespace Geo
theorem conv_snoc {a : T3} : ∀ {l : List T3}, Conv l → l.Pairwise (fun b c => 0 < det b c a) → Conv (l ++ [a])
  | [], _, _ => ⟨.nil, trivial⟩
  | b :: l, h, p => by
    have q := List.pairwise_cons.mp p
    refine ⟨List.pairwise_append.mpr ⟨h.1, .cons (fun _ h => by simp at h) .nil, fun c hc d hd => ?_⟩, conv_snoc h.2 q.2⟩
    have e : d = a := by simpa using hd
    subst e
    exact q.1 c hc
theorem conv_rot1 {a : T3} {l : List T3} (h : Conv (a :: l)) : Conv (l ++ [a]) :=
  conv_snoc h.2 (h.1.imp fun {b c} g => by rw [det_rot]; exact g)
theorem conv_rot : ∀ {A B : List T3}, Conv (A ++ B) → Conv (B ++ A)
  | [], B, h => by rw [List.append_nil]; exact h
  | a :: A, B, h => by
    have h1 : Conv (A ++ (B ++ [a])) := by rw [← List.append_assoc]; exact conv_rot1 h
    have h2 := conv_rot (A := A) h1
    rw [List.append_assoc] at h2
    exact h2
theorem ring_rot1 {S : List T3} {a : T3} : ∀ {l : List T3}, Ring S (a :: l) → Ring S (l ++ [a])
  | [], h => h
  | b :: m, h => by
    have h' : Link S a b ∧ Chn S b (m ++ [a]) := h
    show Chn S b ((m ++ [a]) ++ [b])
    rw [List.append_assoc]
    exact Chn.app.mpr ⟨h'.2, h'.1, trivial⟩
theorem ring_rot {S : List T3} : ∀ {A B : List T3}, Ring S (A ++ B) → Ring S (B ++ A)
  | [], B, h => by rw [List.append_nil]; exact h
  | a :: A, B, h => by
    have h1 : Ring S (A ++ (B ++ [a])) := by rw [← List.append_assoc]; exact ring_rot1 h
    have h2 := ring_rot (A := A) h1
    rw [List.append_assoc] at h2
    exact h2
theorem conv_sub {l m : List T3} (s : l.Sublist m) : Conv m → Conv l := by
  induction s with
  | slnil => exact id
  | cons a s ih => exact fun h => ih h.2
  | cons_cons a s ih => exact fun h => ⟨h.1.sublist s, ih h.2⟩
theorem alt1 {p u v w z : T3} (h : Conv [u, v, w, z]) (hu : val p u ≤ 0) (hv : 0 < val p v) (hw : val p w ≤ 0) (hz : 0 < val p z) : False := by
  obtain ⟨h1, h2, _⟩ := h
  have a1 := (List.pairwise_cons.mp h1)
  have a2 := (List.pairwise_cons.mp a1.2)
  have a3 := (List.pairwise_cons.mp h2)
  have d1 : 0 < det u v w := a1.1 w (by simp)
  have d3 : 0 < det u w z := a2.1 z (by simp)
  have d4 : 0 < det v w z := a3.1 z (by simp)
  have d2 : 0 < det u v z := a1.1 z (by simp)
  have e := cramer p u v w z
  have k1 : det v w z * val p u ≤ 0 := Int.mul_nonpos_of_nonneg_of_nonpos (by omega) hu
  have k2 : det u v z * val p w ≤ 0 := Int.mul_nonpos_of_nonneg_of_nonpos (by omega) hw
  have k3 := Int.mul_pos d3 hv
  have k4 := Int.mul_pos d1 hz
  omega
theorem alt2 {p u v w z : T3} (h : Conv [u, v, w, z]) (hu : 0 < val p u) (hv : val p v ≤ 0) (hw : 0 < val p w) (hz : val p z ≤ 0) : False := by
  have c := conv_rot (A := [u]) (B := [v, w, z]) h
  exact alt1 (u := v) (v := w) (w := z) (z := u) c hv hw hz hu
theorem spl {α : Type} (f : α → Bool) : ∀ l : List α, ∃ A B, l = A ++ B ∧ (∀ c ∈ A, f c = true) ∧ (B = [] ∨ ∃ r R, B = r :: R ∧ f r = false)
  | [] => ⟨[], [], rfl, by simp, .inl rfl⟩
  | a :: l => by
    by_cases h : f a = true
    · obtain ⟨A, B, e, h1, h2⟩ := spl f l
      refine ⟨a :: A, B, by rw [e]; rfl, fun c hc => ?_, h2⟩
      rcases List.mem_cons.mp hc with g | g
      · exact g ▸ h
      · exact h1 c g
    · exact ⟨[], a :: l, rfl, by simp, .inr ⟨a, l, rfl, by simpa using h⟩⟩
/-- turned, a convex row has first the points that a plane leaves, then the others -/
theorem signs_rot (p : T3) {L : List T3} (h : Conv L) : ∃ A B N P, L = A ++ B ∧ B ++ A = N ++ P ∧ (∀ c ∈ N, val p c ≤ 0) ∧ ∀ c ∈ P, 0 < val p c := by
  obtain ⟨A1, R1, e1, h1, g1⟩ := spl (fun c => decide (val p c ≤ 0)) L
  have h1' : ∀ c ∈ A1, val p c ≤ 0 := fun c hc => of_decide_eq_true (h1 c hc)
  rcases g1 with rfl | ⟨r, R, rfl, hr⟩
  · exact ⟨[], L, L, [], rfl, by simp, fun c hc => h1' c (by rw [e1] at hc; simpa using hc), by simp⟩
  have hr' : 0 < val p r := by have := of_decide_eq_false hr; omega
  obtain ⟨A2, R2, e2, h2, g2⟩ := spl (fun c => decide (0 < val p c)) (r :: R)
  have h2' : ∀ c ∈ A2, 0 < val p c := fun c hc => of_decide_eq_true (h2 c hc)
  rcases g2 with rfl | ⟨t, T, rfl, ht⟩
  · refine ⟨[], L, A1, A2, rfl, ?_, h1', h2'⟩
    rw [List.append_nil, e1, e2, List.append_nil]
  have ht' : val p t ≤ 0 := by have := of_decide_eq_false ht; omega
  have hA2 : A2 ≠ [] := fun e => by
    subst e
    rw [List.nil_append] at e2
    cases e2
    omega
  by_cases hA1 : A1 = []
  · -- it begins with others
    subst hA1
    rw [List.nil_append] at e1
    obtain ⟨A3, R3, e3, h3, g3⟩ := spl (fun c => decide (val p c ≤ 0)) (t :: T)
    have h3' : ∀ c ∈ A3, val p c ≤ 0 := fun c hc => of_decide_eq_true (h3 c hc)
    refine ⟨A2, t :: T, A3, R3 ++ A2, by rw [e1, e2], ?_, h3', fun c hc => ?_⟩
    · rw [e3, List.append_assoc]
    · rcases List.mem_append.mp hc with hc | hc
      · refine Classical.byContradiction fun hn => ?_
        rcases g3 with rfl | ⟨y, Y, rfl, hy⟩
        · simp at hc
        have hy' : 0 < val p y := by have := of_decide_eq_false hy; omega
        have hcY : c ∈ Y := by
          rcases List.mem_cons.mp hc with g | g
          · subst g; omega
          · exact g
        obtain ⟨f, hf⟩ := List.exists_mem_of_ne_nil A2 hA2
        have hA3 : A3 ≠ [] := fun e => by
          subst e
          rw [List.nil_append] at e3
          cases e3
          omega
        obtain ⟨k, hk⟩ := List.exists_mem_of_ne_nil A3 hA3
        have sb : [f, k, y, c].Sublist L := by
          rw [e1, e2, e3]
          exact (List.singleton_sublist.mpr hf).append ((List.singleton_sublist.mpr hk).append ((List.singleton_sublist.mpr hcY).cons_cons y))
        exact alt2 (conv_sub sb h) (h2' f hf) (h3' k hk) hy' (by omega)
      · exact h2' c hc
  · refine ⟨A1 ++ A2, t :: T, t :: T ++ A1, A2, by rw [e1, e2, List.append_assoc], by rw [List.append_assoc], fun c hc => ?_, h2'⟩
    rcases List.mem_append.mp hc with hc | hc
    · rcases List.mem_cons.mp hc with g | g
      · subst g; exact ht'
      · refine Classical.byContradiction fun hn => ?_
        obtain ⟨f, hf⟩ := List.exists_mem_of_ne_nil A1 hA1
        obtain ⟨k, hk⟩ := List.exists_mem_of_ne_nil A2 hA2
        have sb : [f, k, t, c].Sublist L := by
          rw [e1, e2]
          exact (List.singleton_sublist.mpr hf).append ((List.singleton_sublist.mpr hk).append ((List.singleton_sublist.mpr g).cons_cons t))
        exact alt1 (conv_sub sb h) (h1' f hf) (h2' k hk) ht' (by omega)
    · exact h1' c hc
end Geo
/-! GF: points on sides; the row that a plane leaves turns left again -/
namespace Geo
/-- X lies strictly between c and d -/
def Mix (X c d : T3) : Prop := ∃ a b k : Int, 0 < a ∧ 0 < b ∧ 0 < k ∧ ∀ p, k * val p X = a * val p c + b * val p d
/-- the plane through two points -/
def pl (u w : T3) : T3 := ⟨u.x * w.y - w.x * u.y, w.q * u.y - u.q * w.y, u.q * w.x - w.q * u.x⟩
theorem det_pl (u w X : T3) : det u w X = val (pl u w) X := by unfold det val pl; grind
theorem Mix.symm {X c d : T3} (m : Mix X c d) : Mix X d c := by
  obtain ⟨a, b, k, ha, hb, hk, e⟩ := m
  exact ⟨b, a, k, hb, ha, hk, fun p => by rw [e p]; omega⟩
theorem pos_of_mul {k t : Int} (hk : 0 < k) (h : 0 < k * t) : 0 < t := by
  refine Classical.byContradiction fun hn => ?_
  have := Int.mul_nonpos_of_nonneg_of_nonpos (Int.le_of_lt hk) (by omega : t ≤ 0)
  omega
theorem nonneg_of_mul {k t : Int} (hk : 0 < k) (h : 0 ≤ k * t) : 0 ≤ t := by
  refine Classical.byContradiction fun hn => ?_
  have := Int.mul_neg_of_pos_of_neg hk (by omega : t < 0)
  omega
theorem Mix.ge {X c d : T3} (m : Mix X c d) {p : T3} (h1 : 0 ≤ val p c) (h2 : 0 ≤ val p d) : 0 ≤ val p X := by
  obtain ⟨a, b, k, ha, hb, hk, e⟩ := m
  refine nonneg_of_mul hk ?_
  have := Int.mul_nonneg (Int.le_of_lt ha) h1
  have := Int.mul_nonneg (Int.le_of_lt hb) h2
  rw [e]; omega
theorem Mix.gt {X c d : T3} (m : Mix X c d) {p : T3} (h1 : 0 < val p c) (h2 : 0 ≤ val p d) : 0 < val p X := by
  obtain ⟨a, b, k, ha, hb, hk, e⟩ := m
  refine pos_of_mul hk ?_
  have := Int.mul_pos ha h1
  have := Int.mul_nonneg (Int.le_of_lt hb) h2
  rw [e]; omega
theorem Mix.zero {X c d : T3} (m : Mix X c d) {p : T3} (h1 : val p c = 0) (h2 : val p d = 0) : val p X = 0 := by
  obtain ⟨a, b, k, ha, hb, hk, e⟩ := m
  refine zero_of hk ?_
  rw [e, h1, h2, Int.mul_zero, Int.mul_zero]; rfl
theorem Mix.le {X c d : T3} (m : Mix X c d) {p : T3} (h1 : val p c ≤ 0) (h2 : val p d ≤ 0) : val p X ≤ 0 := by
  obtain ⟨a, b, k, ha, hb, hk, e⟩ := m
  have := Int.mul_nonpos_of_nonneg_of_nonpos (Int.le_of_lt ha) h1
  have := Int.mul_nonpos_of_nonneg_of_nonpos (Int.le_of_lt hb) h2
  have := nonneg_of_mul (t := - val p X) hk (by have := e p; rw [Int.mul_neg]; omega)
  omega
theorem Mix.pos {X c d : T3} (m : Mix X c d) (h1 : 0 < c.q) (h2 : 0 < d.q) : 0 < X.q := by
  have := m.gt (p := ⟨1, 0, 0⟩) (by unfold val; simpa using h1) (by unfold val; simp; omega)
  unfold val at this
  simpa using this
theorem Mix.det_ge {X c d u w : T3} (m : Mix X c d) (h1 : 0 ≤ det u w c) (h2 : 0 ≤ det u w d) : 0 ≤ det u w X := by
  rw [det_pl] at *; exact m.ge h1 h2
theorem Mix.det_gt {X c d u w : T3} (m : Mix X c d) (h1 : 0 < det u w c) (h2 : 0 ≤ det u w d) : 0 < det u w X := by
  rw [det_pl] at *; exact m.gt h1 h2
theorem Mix.det_gt' {X c d u w : T3} (m : Mix X c d) (h1 : 0 ≤ det u w c) (h2 : 0 < det u w d) : 0 < det u w X := m.symm.det_gt h2 h1
/-- where the plane p meets the side from c to d -/
def meet (p c d : T3) : T3 := ⟨val p d * c.q - val p c * d.q, val p d * c.x - val p c * d.x, val p d * c.y - val p c * d.y⟩
theorem meet_mix {p c d : T3} (h1 : val p c < 0) (h2 : 0 < val p d) : Mix (meet p c d) c d :=
  ⟨val p d, - val p c, 1, h2, by omega, by decide, fun t => by unfold meet val; grind⟩
theorem meet_val (p c d : T3) : val p (meet p c d) = 0 := by unfold meet val; grind
theorem conv_mem {A B : List T3} {z : T3} (h : Conv (A ++ B)) (hz : z ∈ B) : A.Pairwise fun v w => 0 < det v w z := by
  have s : (A ++ [z]).Sublist (A ++ B) := (List.singleton_sublist.mpr hz).append_left A
  exact conv_last (B := []) (conv_sub s h)
end Geo
/-! GG: the row that a plane leaves turns left again -/
namespace Geo
theorem pairs_last {A B : List T3} {n p X : T3} (h : Conv (A ++ n :: p :: B)) (m : Mix X n p) : (A ++ [n]).Pairwise fun b c => 0 < det b c X := by
  have h1 : A.Pairwise fun b c => 0 < det b c n := conv_last h
  have h2 : A.Pairwise fun b c => 0 < det b c p := conv_mem h (by simp)
  refine List.pairwise_append.mpr ⟨(h1.and h2).imp fun g => m.det_gt g.1 (by omega), .cons (fun _ h => by simp at h) .nil, fun b hb c hc => ?_⟩
  have e : c = n := by simpa using hc
  subst e
  have h3 : (A ++ [c]).Pairwise fun b d => 0 < det b d p := conv_mem (B := p :: B) (by rw [List.append_assoc]; exact h) (by simp)
  have g := (List.pairwise_append.mp h3).2.2 b hb c (by simp)
  exact m.det_gt' (by rw [det_same]; decide) g
theorem pairs_first {A B : List T3} {n p Y : T3} (h : Conv (n :: (A ++ B))) (hp : p ∈ B) (m : Mix Y p n) : (n :: A).Pairwise fun b c => 0 < det b c Y := by
  have h3 : (n :: A).Pairwise fun b d => 0 < det b d p := conv_mem (B := B) h hp
  have h1 := (List.pairwise_append.mp h.1).1
  have q := List.pairwise_cons.mp h3
  refine .cons (fun c hc => m.det_gt (q.1 c hc) (by rw [det_same2]; decide)) ((q.2.and h1).imp fun {b c} g => m.det_gt g.1 (by rw [← det_rot n b c] at g; omega))
theorem clip_x {A B : List T3} {n p X : T3} (h : Conv (A ++ n :: p :: B)) (m : Mix X n p) : Conv ((A ++ [n]) ++ [X]) :=
  conv_snoc (conv_sub (show (A ++ [n]).Sublist (A ++ n :: p :: B) by rw [show A ++ n :: p :: B = (A ++ [n]) ++ (p :: B) by simp]; exact List.sublist_append_left _ _) h) (pairs_last h m)
theorem clip_y {A B : List T3} {n p Y : T3} (h : Conv (n :: (A ++ B))) (hp : p ∈ B) (m : Mix Y p n) : Conv ((n :: A) ++ [Y]) :=
  conv_snoc (conv_sub (show (n :: A).Sublist ((n :: A) ++ B) from List.sublist_append_left _ _) h) (pairs_first h hp m)
/-- a point on the side that comes in and one on the side that goes out -/
theorem clip_xy {A A' B B' N P : List T3} {n1 nk p1 pm X Y : T3} (hN1 : N = n1 :: A) (hNk : N = A' ++ [nk]) (hP1 : P = p1 :: B) (hPm : P = B' ++ [pm]) (h : Conv (N ++ P)) (h3 : A ≠ [] ∨ B ≠ []) (mx : Mix X nk p1) (my : Mix Y pm n1) : Conv ((N ++ [X]) ++ [Y]) := by
  have hx : Conv (N ++ [X]) := by
    have := clip_x (A := A') (B := B) (n := nk) (p := p1) (by rw [List.append_cons, ← hNk, ← hP1]; exact h) mx
    rw [hNk]; exact this
  have pmm : pm ∈ P := by rw [hPm]; simp
  have p1m : p1 ∈ P := by rw [hP1]; simp
  have py : N.Pairwise fun b c => 0 < det b c Y := by
    have := pairs_first (A := A) (B := P) (n := n1) (p := pm) (by rw [hN1] at h; exact h) pmm my
    rw [hN1]; exact this
  refine conv_snoc hx (List.pairwise_append.mpr ⟨py, .cons (fun _ h => by simp at h) .nil, fun b hb c hc => ?_⟩)
  have e : c = X := by simpa using hc
  subst e
  have hnk : A ≠ [] → ∃ A2, A = A2 ++ [nk] := by
    intro hA
    have e := hN1.symm.trans hNk
    cases A' with
    | nil =>
      rw [List.nil_append] at e
      exact absurd (List.cons.inj e).2 hA
    | cons x y => exact ⟨y, (List.cons.inj e).2⟩
  have hpm : B ≠ [] → pm ∈ B := by
    intro hB
    have e := hP1.symm.trans hPm
    cases B' with
    | nil =>
      rw [List.nil_append] at e
      exact absurd (List.cons.inj e).2 hB
    | cons x y => rw [(List.cons.inj e).2]; simp
  -- what is known of b, a point of N
  have f1 : n1 = b ∨ 0 < det n1 b p1 := by
    rw [hN1] at hb
    rcases List.mem_cons.mp hb with g | g
    · exact .inl g.symm
    · have := conv_mem h p1m
      rw [hN1] at this
      exact .inr ((List.pairwise_cons.mp this).1 b g)
  have f2 : b = nk ∨ 0 < det b nk pm := by
    rw [hNk] at hb
    rcases List.mem_append.mp hb with g | g
    · have := conv_mem h pmm
      rw [hNk] at this
      exact .inr ((List.pairwise_append.mp this).2.2 b g nk (by simp))
    · exact .inl (by simpa using g)
  have f3 : p1 = pm ∨ 0 < det b p1 pm := by
    by_cases hB : B = []
    · subst hB
      rw [hP1] at pmm
      exact .inl (List.mem_singleton.mp pmm).symm
    · have s : ([b] ++ [p1, pm]).Sublist (N ++ P) := by
        refine (List.singleton_sublist.mpr hb).append ?_
        have : pm ∈ B := hpm hB
        rw [hP1]
        exact (List.singleton_sublist.mpr this).cons_cons p1
      have c := conv_sub s h
      exact .inr ((List.pairwise_cons.mp c.1).1 pm (by simp))
  have f4 : b = nk ∨ n1 = b ∨ 0 < det n1 b nk := by
    rcases f2 with g | _
    · exact .inl g
    · rcases f1 with g | _
      · exact .inr (.inl g)
      · have hb1 : b ∈ N := hb
        by_cases e1 : b = nk
        · exact .inl e1
        · by_cases e2 : n1 = b
          · exact .inr (.inl e2)
          · refine .inr (.inr ?_)
            have hA : b ∈ A := by
              rw [hN1] at hb
              rcases List.mem_cons.mp hb with g | g
              · exact absurd g.symm e2
              · exact g
            obtain ⟨A2, hA'⟩ := hnk fun z => by rw [z] at hA; simp at hA
            have c : (n1 :: A).Sublist (N ++ P) := by rw [← hN1]; exact List.sublist_append_left _ _
            have c1 := (conv_sub c h).1
            rw [hA'] at c1 hA
            rcases List.mem_append.mp hA with g | g
            · exact (List.pairwise_append.mp c1).2.2 b g nk (by simp)
            · exact absurd (by simpa using g) e1
  have sw : ∀ x, det x Y b = det b x Y := fun x => det_rot b x Y
  have t1 : 0 ≤ det b nk Y := my.det_ge (by rcases f2 with g | g; (· rw [g, det_same1]; decide); (· omega)) (by
    rcases f4 with g | g | g
    · rw [g, det_same1]; decide
    · rw [g, det_same2]; decide
    · rw [det_rot n1 b nk]; omega)
  have t2 : 0 ≤ det b p1 Y := my.det_ge (by rcases f3 with g | g; (· rw [g, det_same]; decide); (· omega)) (by
    rcases f1 with g | g
    · rw [g, det_same2]; decide
    · rw [det_rot n1 b p1]; omega)
  have key : 0 < det b nk Y ∨ 0 < det b p1 Y := by
    rcases f1 with g1 | g1
    · rcases f2 with g2 | g2
      · -- N is one point
        refine .inr (my.det_gt ?_ ?_)
        · rcases f3 with g3 | g3
          · exfalso
            rcases h3 with h3 | h3
            · obtain ⟨A2, eA⟩ := hnk h3
              have s : [n1, nk, p1].Sublist (N ++ P) := by
                rw [hN1, eA]
                exact ((List.singleton_sublist.mpr (by simp)).append (List.singleton_sublist.mpr p1m) : ([nk] ++ [p1]).Sublist ((A2 ++ [nk]) ++ P)).cons_cons n1
              have c := (List.pairwise_cons.mp (conv_sub s h).1).1 p1 (by simp)
              rw [g1, ← g2, det_same1] at c
              omega
            · have s : ([b] ++ [p1, pm]).Sublist (N ++ P) := by
                refine (List.singleton_sublist.mpr hb).append ?_
                rw [hP1]
                exact (List.singleton_sublist.mpr (hpm h3)).cons_cons p1
              have c := (List.pairwise_cons.mp (conv_sub s h).1).1 pm (by simp)
              rw [g3, det_same] at c
              omega
          · exact g3
        · rw [g1, det_same2]; decide
      · refine .inl (my.det_gt g2 ?_)
        rw [g1, det_same2]; decide
    · refine .inr (my.det_gt' ?_ ?_)
      · rcases f3 with g | g
        · rw [g, det_same]; decide
        · omega
      · rw [det_rot n1 b p1]; exact g1
  have e : det b c Y = det Y b c := (det_rot Y b c).symm ▸ rfl
  rw [e]
  have e1 : det Y b nk = det b nk Y := det_rot Y b nk ▸ rfl
  have e2 : det Y b p1 = det b p1 Y := det_rot Y b p1 ▸ rfl
  rcases key with k | k
  · exact mx.det_gt (by rw [e1]; exact k) (by rw [e2]; exact t2)
  · exact mx.det_gt' (by rw [e1]; exact t1) (by rw [e2]; exact k)
end Geo
/-! GH: the ring of planes of the row that a plane leaves -/
namespace Geo
theorem link_mix {S : List T3} {c d X : T3} (h : Link S c d) (m : Mix X c d) : Link S c X ∧ Link S X d := by
  obtain ⟨s, hs, h1, h2, hn⟩ := h
  exact ⟨⟨s, hs, h1, m.zero h1 h2, hn⟩, s, hs, m.zero h1 h2, h2, hn⟩
theorem chn_snoc {S : List T3} {y z : T3} : ∀ {a : T3} {l : List T3}, Chn S a l → (a :: l).getLast? = some z → Link S z y → Chn S a (l ++ [y])
  | _, [], _, e, h => by
    cases e
    exact ⟨h, trivial⟩
  | _, b :: l, c, e, h => ⟨c.1, chn_snoc c.2 (by rw [List.getLast?_cons_cons] at e; exact e) h⟩
theorem chn_left {S : List T3} {m : List T3} : ∀ {a : T3} {l : List T3}, Chn S a (l ++ m) → Chn S a l
  | _, [], _ => trivial
  | _, _ :: _, h => ⟨h.1, chn_left h.2⟩
/-- a plane with points on both sides has a normal -/
theorem normal_of {p a b : T3} (ha : 0 < a.q) (hb : 0 < b.q) (h1 : val p a ≤ 0) (h2 : 0 < val p b) : p.x ≠ 0 ∨ p.y ≠ 0 := by
  refine Classical.byContradiction fun hn => ?_
  have e1 : p.x = 0 := Classical.byContradiction fun z => hn (.inl z)
  have e2 : p.y = 0 := Classical.byContradiction fun z => hn (.inr z)
  unfold val at h1 h2
  rw [e1, e2, Int.zero_mul, Int.zero_mul] at h1 h2
  have k1 : 0 < p.q := by
    refine Classical.byContradiction fun z => ?_
    have := Int.mul_nonpos_of_nonpos_of_nonneg (by omega : p.q ≤ 0) (Int.le_of_lt hb)
    omega
  have := Int.mul_pos k1 ha
  omega
theorem last_cons_app {a x : T3} {l : List T3} : (a :: (l ++ [x])).getLast? = some x := by
  show ((a :: l) ++ [x]).getLast? = some x
  exact List.getLast?_concat ..
/-- the ring of N, X, Y -/
theorem ring_xy {S : List T3} {n1 nk X Y : T3} {A : List T3} (h : Chn S n1 A) (e : (n1 :: A).getLast? = some nk) (k1 : Link S nk X) (k2 : Link S X Y) (k3 : Link S Y n1) : Ring S (((n1 :: A) ++ [X]) ++ [Y]) := by
  show Chn S n1 (((A ++ [X]) ++ [Y]) ++ [n1])
  exact chn_snoc (chn_snoc (chn_snoc h e k1) last_cons_app k2) last_cons_app k3
theorem ring_x {S : List T3} {n1 nk X : T3} {A : List T3} (h : Chn S n1 A) (e : (n1 :: A).getLast? = some nk) (k1 : Link S nk X) (k2 : Link S X n1) : Ring S ((n1 :: A) ++ [X]) := by
  show Chn S n1 ((A ++ [X]) ++ [n1])
  exact chn_snoc (chn_snoc h e k1) last_cons_app k2
theorem ring_0 {S : List T3} {n1 nk : T3} {A : List T3} (h : Chn S n1 A) (e : (n1 :: A).getLast? = some nk) (k1 : Link S nk n1) : Ring S (n1 :: A) := chn_snoc h e k1
/-- of the ring of N and P: the sides within N, and the two between -/
theorem ring_parts {S : List T3} {n1 nk p1 pm : T3} {A A' B B' N P : List T3} (hN1 : N = n1 :: A) (hNk : N = A' ++ [nk]) (hP1 : P = p1 :: B) (hPm : P = B' ++ [pm]) (h : Ring S (N ++ P)) : Chn S n1 A ∧ (n1 :: A).getLast? = some nk ∧ Link S nk p1 ∧ Link S pm n1 := by
  have eL : (n1 :: A).getLast? = some nk := by rw [← hN1, hNk]; simp
  have h1 : Chn S n1 ((A ++ P) ++ [n1]) := by rw [hN1] at h; exact h
  refine ⟨chn_left (chn_left h1), eL, ?_, ?_⟩
  · cases A' with
    | nil =>
      have e := hN1.symm.trans hNk
      rw [List.nil_append] at e
      have e1 := (List.cons.inj e).1
      have e2 := (List.cons.inj e).2
      rw [e2, hP1] at h1
      rw [← e1]
      exact h1.1
    | cons x y =>
      have e := hN1.symm.trans hNk
      have e2 : A = y ++ [nk] := (List.cons.inj e).2
      rw [e2, hP1] at h1
      have e3 : ((y ++ [nk]) ++ p1 :: B) ++ [n1] = y ++ nk :: p1 :: (B ++ [n1]) := by simp
      rw [e3] at h1
      exact Chn.mid h1
  · refine Chn.last (a := n1) (l := A ++ P) ?_ h1
    rw [hPm, ← List.append_assoc]; simp
end Geo
/-! GI: each point of a convex row with a ring of planes is a corner -/
namespace Geo
/-- two sides that turn have planes that are not parallel -/
theorem vert_of_links {S : List T3} {c d e : T3} (h : 0 < det c d e) (k1 : Link S c d) (k2 : Link S d e) (hp : 0 < d.q) (hs : Sat S d) : Vert S d := by
  obtain ⟨s, hsS, s1, s2, sn⟩ := k1
  obtain ⟨t, htS, t1, t2, tn⟩ := k2
  refine ⟨hp, hs, s, hsS, t, htS, s2, t1, fun z => ?_⟩
  -- were they parallel, s would be nought on c, d and e
  have g := off_line h sn s1 s2
  have k : t.x * (s.x * e.x + s.y * e.y) = s.x * (t.x * e.x + t.y * e.y) ∧ t.y * (s.x * e.x + s.y * e.y) = s.y * (t.x * e.x + t.y * e.y) := by
    unfold cross at z
    constructor <;> grind
  have k' : t.x * (s.x * d.x + s.y * d.y) = s.x * (t.x * d.x + t.y * d.y) ∧ t.y * (s.x * d.x + s.y * d.y) = s.y * (t.x * d.x + t.y * d.y) := by
    unfold cross at z
    constructor <;> grind
  have a1 : t.x * (d.q * val s e) = 0 := by unfold val at *; grind
  have a2 : t.y * (d.q * val s e) = 0 := by unfold val at *; grind
  have b : d.q * val s e ≠ 0 := Int.mul_ne_zero (by omega) g
  rcases tn with tn | tn
  · exact Int.mul_ne_zero tn b a1
  · exact Int.mul_ne_zero tn b a2
theorem vert_head {S : List T3} {c x y : T3} {R : List T3} (h : Conv (c :: x :: y :: R)) (hr : Ring S (c :: x :: y :: R)) (hp : 0 < c.q) (hs : Sat S c) : Vert S c := by
  have r : Chn S c ((x :: y :: R) ++ [c]) := hr
  obtain ⟨z, hz⟩ : ∃ z, (y :: R).getLast? = some z := ⟨_, List.getLast?_eq_some_getLast (by simp)⟩
  have lk : Link S z c := r.last (by rw [List.getLast?_cons_cons]; exact hz)
  have d : 0 < det c x z := (List.pairwise_cons.mp h.1).1 z (mem_of_last hz)
  exact vert_of_links (c := z) (d := c) (e := x) (by rw [← det_rot z c x]; exact d) lk r.1 hp hs
/-- each point of a convex row of three or more, with a ring of planes, is a corner -/
theorem conv_vert {S L : List T3} (h : Conv L) (hr : Ring S L) (h3 : 3 ≤ L.length) (hp : ∀ c ∈ L, 0 < c.q) (hs : ∀ c ∈ L, Sat S c) : ∀ c ∈ L, Vert S c := by
  intro c hc
  obtain ⟨A, B, e⟩ := List.append_of_mem hc
  have k1 : Conv (c :: (B ++ A)) := by
    have := conv_rot (A := A) (B := c :: B) (by rw [← e]; exact h)
    exact this
  have k2 : Ring S (c :: (B ++ A)) := by
    have := ring_rot (S := S) (A := A) (B := c :: B) (by rw [← e]; exact hr)
    exact this
  have hl : (B ++ A).length + 1 = L.length := by rw [e]; simp; omega
  match hBA : B ++ A with
  | [] => rw [hBA] at hl; simp at hl; omega
  | [x] => rw [hBA] at hl; simp at hl; omega
  | x :: y :: R =>
    rw [hBA] at k1 k2
    exact vert_head k1 k2 (hp c hc) (hs c hc)
end Geo
/-! GJ: points in lowest terms -/
namespace Geo
structure Low (a : T3) : Prop where
  pos : 0 < a.q
  low : Nat.gcd (Nat.gcd a.q.natAbs a.x.natAbs) a.y.natAbs = 1
theorem dvd_of_low {a : T3} (h : Low a) {n : Nat} {m : Nat} (h1 : n ∣ m * a.q.natAbs) (h2 : n ∣ m * a.x.natAbs) (h3 : n ∣ m * a.y.natAbs) : n ∣ m := by
  have k := Nat.dvd_gcd (Nat.dvd_gcd h1 h2) h3
  rw [Nat.gcd_mul_left, Nat.gcd_mul_left, h.low, Nat.mul_one] at k
  exact k
theorem low_dvd {a b : T3} (ha : Low a) (h : Same a b) : a.q.natAbs ∣ b.q.natAbs := by
  refine dvd_of_low ha (Nat.dvd_mul_left ..) ?_ ?_
  · rw [← Int.natAbs_mul, ← h.1, Int.natAbs_mul]; exact Nat.dvd_mul_right ..
  · rw [← Int.natAbs_mul, ← h.2, Int.natAbs_mul]; exact Nat.dvd_mul_right ..
theorem Same.symm {a b : T3} (h : Same a b) : Same b a := ⟨h.1.symm, h.2.symm⟩
/-- a point has one form in lowest terms -/
theorem low_eq {a b : T3} (ha : Low a) (hb : Low b) (h : Same a b) : a = b := by
  have e := Nat.dvd_antisymm (low_dvd ha h) (low_dvd hb h.symm)
  have p1 := ha.pos
  have p2 := hb.pos
  have eq : a.q = b.q := by omega
  have ex : a.x = b.x := by
    have := h.1
    rw [eq] at this
    exact (Int.eq_of_mul_eq_mul_left (by omega) this).symm
  have ey : a.y = b.y := by
    have := h.2
    rw [eq] at this
    exact (Int.eq_of_mul_eq_mul_left (by omega) this).symm
  cases a; cases b
  simp_all
end Geo
/-! GK: the row that a cut finds, turned -/
namespace Geo
/-- what the cut writes down of one corner and the next; m is the point where a side meets the plane -/
def st (m : T3 → T3 → T3 → T3) (p c d : T3) : List T3 := (if val p c ≤ 0 then [c] else []) ++ if val p c * val p d < 0 then [m p c d] else []
def wk (m : T3 → T3 → T3 → T3) (p : T3) : T3 → List T3 → List T3
  | _, [] => []
  | c, d :: l => st m p c d ++ wk m p d l
def found (m : T3 → T3 → T3 → T3) (p : T3) : List T3 → List T3
  | [] => []
  | a :: l => wk m p a (l ++ [a])
section
variable {m : T3 → T3 → T3 → T3} {p : T3}
theorem wk_app {c : T3} {l2 : List T3} : ∀ {a : T3} {l1 : List T3}, wk m p a (l1 ++ c :: l2) = wk m p a (l1 ++ [c]) ++ wk m p c l2
  | _, [] => by simp [wk]
  | _, b :: l1 => by
    have := wk_app (c := c) (l2 := l2) (a := b) (l1 := l1)
    simp only [List.cons_append, wk, this, List.append_assoc]
/-- what is found of a turned row is what is found, turned -/
theorem found_rot : ∀ (A B : List T3), ∃ X Y, found m p (A ++ B) = X ++ Y ∧ found m p (B ++ A) = Y ++ X
  | [], B => ⟨[], found m p B, by simp, by simp⟩
  | a :: A, [] => ⟨found m p (a :: A), [], by simp, by simp⟩
  | a :: A, b :: B => by
    refine ⟨wk m p a (A ++ [b]), wk m p b (B ++ [a]), ?_, ?_⟩
    · show wk m p a ((A ++ b :: B) ++ [a]) = _
      rw [List.append_assoc, List.cons_append, wk_app]
    · show wk m p b ((B ++ a :: A) ++ [b]) = _
      rw [List.append_assoc, List.cons_append, wk_app]
/-- where all points stay -/
theorem wk_stay : ∀ {a : T3} {l : List T3}, val p a ≤ 0 → (∀ c ∈ l, val p c ≤ 0) → wk m p a l = (a :: l).dropLast
  | _, [], _, _ => rfl
  | a, b :: l, ha, hl => by
    have hb := hl b (by simp)
    have h0 : 0 ≤ val p a * val p b := Int.mul_nonneg_of_nonpos_of_nonpos ha hb
    rw [wk, wk_stay hb fun c hc => hl c (by simp [hc])]
    unfold st
    rw [if_pos ha, if_neg (by omega)]
    rfl
/-- .. and where none does -/
theorem wk_go : ∀ {a : T3} {l : List T3}, 0 < val p a → (∀ c ∈ l, 0 < val p c) → wk m p a l = []
  | _, [], _, _ => rfl
  | a, b :: l, ha, hl => by
    have hb := hl b (by simp)
    have h0 := Int.mul_pos ha hb
    rw [wk, wk_go hb fun c hc => hl c (by simp [hc])]
    unfold st
    rw [if_neg (by omega), if_neg (by omega)]
    rfl
end
end Geo
/-! GL: what a cut finds of a row that has first the points that stay -/
namespace Geo
section
variable {m : T3 → T3 → T3 → T3} {p : T3}
theorem st_out {c d : T3} (hc : val p c ≤ 0) (hd : 0 < val p d) : st m p c d = c :: if val p c < 0 then [m p c d] else [] := by
  unfold st
  rw [if_pos hc]
  by_cases h : val p c < 0
  · rw [if_pos h, if_pos (Int.mul_neg_of_neg_of_pos h hd)]; rfl
  · have e : val p c = 0 := by omega
    rw [if_neg h, if_neg (by rw [e, Int.zero_mul]; decide)]; rfl
theorem st_in {c d : T3} (hc : 0 < val p c) (hd : val p d ≤ 0) : st m p c d = if val p d < 0 then [m p c d] else [] := by
  unfold st
  rw [if_neg (by omega), List.nil_append]
  by_cases h : val p d < 0
  · rw [if_pos h, if_pos (Int.mul_neg_of_pos_of_neg hc h)]
  · have e : val p d = 0 := by omega
    rw [if_neg h, if_neg (by rw [e, Int.mul_zero]; decide)]
theorem wk_out {q n : T3} (hq : 0 < val p q) : ∀ {a : T3} {A : List T3}, (∀ c ∈ a :: A, val p c ≤ 0) → (a :: A).getLast? = some n → wk m p a (A ++ [q]) = (a :: A) ++ if val p n < 0 then [m p n q] else []
  | a, [], h, e => by
    cases e
    show st m p a q ++ [] = _
    rw [List.append_nil, st_out (h a (by simp)) hq]; rfl
  | a, b :: A, h, e => by
    rw [List.getLast?_cons_cons] at e
    have ih := wk_out hq (a := b) (A := A) (fun c hc => h c (List.mem_cons_of_mem _ hc)) e
    have ha := h a (by simp)
    have hb := h b (by simp)
    have h0 : 0 ≤ val p a * val p b := Int.mul_nonneg_of_nonpos_of_nonpos ha hb
    show st m p a b ++ wk m p b (A ++ [q]) = _
    rw [ih]
    unfold st
    rw [if_pos ha, if_neg (by omega)]
    rfl
theorem wk_in {q n : T3} (hn : val p n ≤ 0) : ∀ {b : T3} {B : List T3}, (∀ c ∈ b :: B, 0 < val p c) → (b :: B).getLast? = some q → wk m p b (B ++ [n]) = if val p n < 0 then [m p q n] else []
  | b, [], h, e => by
    cases e
    show st m p b n ++ [] = _
    rw [List.append_nil, st_in (h b (by simp)) hn]; rfl
  | a, b :: B, h, e => by
    rw [List.getLast?_cons_cons] at e
    have ih := wk_in hn (b := b) (B := B) (fun c hc => h c (List.mem_cons_of_mem _ hc)) e
    have h0 := Int.mul_pos (h a (by simp)) (h b (by simp))
    have ha := h a (by simp)
    show st m p a b ++ wk m p b (B ++ [n]) = _
    rw [ih]
    unfold st
    rw [if_neg (by omega), if_neg (by omega)]
    rfl
theorem found_np {n1 nk p1 pm : T3} {A B : List T3} (hN : ∀ c ∈ n1 :: A, val p c ≤ 0) (hP : ∀ c ∈ p1 :: B, 0 < val p c) (eN : (n1 :: A).getLast? = some nk) (eP : (p1 :: B).getLast? = some pm) :
    found m p ((n1 :: A) ++ (p1 :: B)) = ((n1 :: A) ++ if val p nk < 0 then [m p nk p1] else []) ++ if val p n1 < 0 then [m p pm n1] else [] := by
  show wk m p n1 ((A ++ p1 :: B) ++ [n1]) = _
  rw [List.append_assoc, List.cons_append, wk_app, wk_out (hP p1 (by simp)) hN eN, wk_in (hN n1 (by simp)) hP eP]
end
end Geo
/-! GM: a row cut by a plane that leaves some points and takes others -/
namespace Geo
/-- what the meeting point of a side and a plane is -/
def MeetOk (m : T3 → T3 → T3 → T3) : Prop := ∀ p c d : T3, Low c → Low d → val p c * val p d < 0 → Low (m p c d) ∧ Mix (m p c d) c d ∧ val p (m p c d) = 0
structure Poly (S L : List T3) : Prop where
  len : 3 ≤ L.length
  conv : Conv L
  ring : Ring S L
  low : ∀ c ∈ L, Low c
  sat : ∀ c ∈ L, Sat S c
theorem sat_app {S : List T3} {p X : T3} (h : Sat S X) (k : val p X ≤ 0) : Sat (S ++ [p]) X := fun s hs => by
  rcases List.mem_append.mp hs with g | g
  · exact h s g
  · have : s = p := by simpa using g
    subst this; exact k
theorem sat_mix {S : List T3} {X c d : T3} (m : Mix X c d) (h : Sat S c) (k : Sat S d) : Sat S X := fun s hs => m.le (h s hs) (k s hs)
section
variable {m : T3 → T3 → T3 → T3} {p : T3} {S : List T3} {n1 nk p1 pm : T3} {A B : List T3}
theorem cut_poly (hm : MeetOk m) (hL : Poly S ((n1 :: A) ++ (p1 :: B))) (hN : ∀ c ∈ n1 :: A, val p c ≤ 0) (hP : ∀ c ∈ p1 :: B, 0 < val p c) (eN : (n1 :: A).getLast? = some nk) (eP : (p1 :: B).getLast? = some pm)
    (h3 : 3 ≤ (found m p ((n1 :: A) ++ (p1 :: B))).length) : Poly (S ++ [p]) (found m p ((n1 :: A) ++ (p1 :: B))) := by
  obtain ⟨A', hNk⟩ : ∃ A', n1 :: A = A' ++ [nk] := by
    obtain ⟨ys, e⟩ := List.getLast?_eq_some_iff.mp eN
    exact ⟨ys, e⟩
  obtain ⟨B', hPm⟩ : ∃ B', p1 :: B = B' ++ [pm] := by
    obtain ⟨ys, e⟩ := List.getLast?_eq_some_iff.mp eP
    exact ⟨ys, e⟩
  obtain ⟨r1, r2, r3, r4⟩ := ring_parts (N := n1 :: A) (P := p1 :: B) rfl hNk rfl hPm hL.ring
  have mono : ∀ s ∈ S, s ∈ S ++ [p] := fun s hs => by simp [hs]
  have n1m : n1 ∈ (n1 :: A) ++ (p1 :: B) := by simp
  have nkm : nk ∈ (n1 :: A) ++ (p1 :: B) := List.mem_append_left _ (mem_of_last eN)
  have p1m : p1 ∈ (n1 :: A) ++ (p1 :: B) := by simp
  have pmm : pm ∈ (n1 :: A) ++ (p1 :: B) := List.mem_append_right _ (mem_of_last eP)
  have vn1 := hN n1 (by simp)
  have vnk := hN nk (mem_of_last eN)
  have vp1 := hP p1 (by simp)
  have vpm := hP pm (mem_of_last eP)
  have nrm := normal_of (hL.low n1 n1m).pos (hL.low p1 p1m).pos vn1 vp1
  have pl : ∀ c d, val p c = 0 → val p d = 0 → Link (S ++ [p]) c d := fun c d h1 h2 => ⟨p, by simp, h1, h2, nrm⟩
  have lowN : ∀ c ∈ n1 :: A, Low c := fun c hc => hL.low c (List.mem_append_left _ hc)
  have satN : ∀ c ∈ n1 :: A, Sat (S ++ [p]) c := fun c hc => sat_app (hL.sat c (List.mem_append_left _ hc)) (hN c hc)
  have hx : val p nk < 0 → Low (m p nk p1) ∧ Mix (m p nk p1) nk p1 ∧ val p (m p nk p1) = 0 := fun h => hm p nk p1 (hL.low nk nkm) (hL.low p1 p1m) (Int.mul_neg_of_neg_of_pos h vp1)
  have hy : val p n1 < 0 → Low (m p pm n1) ∧ Mix (m p pm n1) pm n1 ∧ val p (m p pm n1) = 0 := fun h => hm p pm n1 (hL.low pm pmm) (hL.low n1 n1m) (Int.mul_neg_of_pos_of_neg vpm h)
  have lens : A ≠ [] ∨ B ≠ [] := by
    have := hL.len
    cases A with
    | cons => exact .inl (by simp)
    | nil => cases B with
      | cons => exact .inr (by simp)
      | nil => simp at this
  have e := found_np (m := m) hN hP eN eP
  rw [e] at h3 ⊢
  by_cases k1 : val p nk < 0
  · obtain ⟨x1, x2, x3⟩ := hx k1
    have lx := link_mix (r3.mono mono) x2
    have sx := sat_app (sat_mix x2 (hL.sat nk nkm) (hL.sat p1 p1m)) (Int.le_of_eq x3)
    rw [if_pos k1] at h3 ⊢
    by_cases k2 : val p n1 < 0
    · obtain ⟨y1, y2, y3⟩ := hy k2
      have ly := link_mix (r4.mono mono) y2
      have sy := sat_app (sat_mix y2 (hL.sat pm pmm) (hL.sat n1 n1m)) (Int.le_of_eq y3)
      rw [if_pos k2] at h3 ⊢
      refine ⟨h3, clip_xy rfl hNk rfl hPm hL.conv lens x2 y2, ring_xy (r1.mono mono) r2 lx.1 (pl _ _ x3 y3) ly.2, fun c hc => ?_, fun c hc => ?_⟩
      · rcases List.mem_append.mp hc with hc | hc
        · rcases List.mem_append.mp hc with hc | hc
          · exact lowN c hc
          · rw [List.mem_singleton.mp hc]; exact x1
        · rw [List.mem_singleton.mp hc]; exact y1
      · rcases List.mem_append.mp hc with hc | hc
        · rcases List.mem_append.mp hc with hc | hc
          · exact satN c hc
          · rw [List.mem_singleton.mp hc]; exact sx
        · rw [List.mem_singleton.mp hc]; exact sy
    · rw [if_neg k2, List.append_nil] at h3 ⊢
      have z : val p n1 = 0 := by omega
      refine ⟨h3, ?_, ring_x (r1.mono mono) r2 lx.1 (pl _ _ x3 z), fun c hc => ?_, fun c hc => ?_⟩
      · have := clip_x (A := A') (B := B) (n := nk) (p := p1) (by rw [List.append_cons, ← hNk]; exact hL.conv) x2
        rw [hNk]; exact this
      · rcases List.mem_append.mp hc with hc | hc
        · exact lowN c hc
        · rw [List.mem_singleton.mp hc]; exact x1
      · rcases List.mem_append.mp hc with hc | hc
        · exact satN c hc
        · rw [List.mem_singleton.mp hc]; exact sx
  · have z1 : val p nk = 0 := by omega
    rw [if_neg k1, List.append_nil] at h3 ⊢
    by_cases k2 : val p n1 < 0
    · obtain ⟨y1, y2, y3⟩ := hy k2
      have ly := link_mix (r4.mono mono) y2
      have sy := sat_app (sat_mix y2 (hL.sat pm pmm) (hL.sat n1 n1m)) (Int.le_of_eq y3)
      rw [if_pos k2] at h3 ⊢
      refine ⟨h3, clip_y hL.conv (mem_of_last eP) y2, ring_x (r1.mono mono) r2 (pl _ _ z1 y3) ly.2, fun c hc => ?_, fun c hc => ?_⟩
      · rcases List.mem_append.mp hc with hc | hc
        · exact lowN c hc
        · rw [List.mem_singleton.mp hc]; exact y1
      · rcases List.mem_append.mp hc with hc | hc
        · exact satN c hc
        · rw [List.mem_singleton.mp hc]; exact sy
    · rw [if_neg k2, List.append_nil] at h3 ⊢
      have z : val p n1 = 0 := by omega
      exact ⟨h3, conv_sub (List.sublist_append_left _ _) hL.conv, ring_0 (r1.mono mono) r2 (pl _ _ z1 z), lowN, satN⟩
end
end Geo
/-! GN: what polygons hold; what is left of one that a plane touches -/
namespace Geo
theorem Poly.hull {S L : List T3} (h : Poly S L) {X : T3} (hX : Sat S X) : Hull L X := by
  match L, h with
  | [], h => have := h.len; simp at this
  | [a], h => have := h.len; simp at this
  | [a, b], h => have := h.len; simp at this
  | a :: b :: c :: l, h => exact conv_hull (by simp) h.conv h.ring h.sat hX
theorem Poly.vert {S L : List T3} (h : Poly S L) : ∀ c ∈ L, Vert S c := conv_vert h.conv h.ring h.len (fun c hc => (h.low c hc).pos) h.sat
theorem Vert.cut {S : List T3} {X p : T3} (v : Vert S X) (h : val p X ≤ 0) : Vert (S ++ [p]) X := by
  obtain ⟨s, hs, t, ht, r⟩ := v.two
  exact ⟨v.pos, sat_app v.sat h, s, by simp [hs], t, by simp [ht], r⟩
theorem Hull.mono {L M : List T3} {X : T3} (h : Hull L X) (m : ∀ c ∈ L, c ∈ M) : Hull M X := by
  obtain ⟨A, hA, B, hB, C, hC, r⟩ := h
  exact ⟨A, m A hA, B, m B hB, C, m C hC, r⟩
theorem coef {a u : Int} (ha : 0 ≤ a) (h : a * u = 0) : a = 0 ∨ u = 0 := Int.mul_eq_zero.mp h
/-- a mixture of points that a plane has on its far side, or on it, is one of those on it, if the plane leaves it -/
theorem hull_zero {L M : List T3} {X p d : T3} (h : Hull L X) (hp : ∀ c ∈ L, 0 ≤ val p c) (hX : val p X ≤ 0) (hM : ∀ c ∈ L, val p c = 0 → c ∈ M) (hd : d ∈ M) : Hull M X := by
  obtain ⟨A, hA, B, hB, C, hC, a, b, c, D, ha, hb, hc, hD, e⟩ := h
  have ep := e p
  have k1 := Int.mul_nonneg ha (hp A hA)
  have k2 := Int.mul_nonneg hb (hp B hB)
  have k3 := Int.mul_nonneg hc (hp C hC)
  have k4 : D * val p X ≤ 0 := Int.mul_nonpos_of_nonneg_of_nonpos (Int.le_of_lt hD) hX
  have pick : ∀ {a : Int} {A : T3}, 0 ≤ a → A ∈ L → a * val p A = 0 → ∃ A' ∈ M, ∀ q, a * val q A' = a * val q A := by
    intro a A ha hA h0
    rcases Int.mul_eq_zero.mp h0 with g | g
    · exact ⟨d, hd, fun q => by rw [g, Int.zero_mul, Int.zero_mul]⟩
    · exact ⟨A, hM A hA g, fun q => rfl⟩
  obtain ⟨A', hA', eA⟩ := pick ha hA (by omega)
  obtain ⟨B', hB', eB⟩ := pick hb hB (by omega)
  obtain ⟨C', hC', eC⟩ := pick hc hC (by omega)
  exact ⟨A', hA', B', hB', C', hC', a, b, c, D, ha, hb, hc, hD, fun q => by rw [e q, eA q, eB q, eC q]⟩
/-- a mixture of points that a plane does not leave is not left -/
theorem hull_none {L : List T3} {X p : T3} (h : Hull L X) (hq : 0 < X.q) (hp : ∀ c ∈ L, 0 < val p c) : 0 < val p X := by
  obtain ⟨A, hA, B, hB, C, hC, a, b, c, D, ha, hb, hc, hD, e⟩ := h
  have ep := e p
  have k1 := Int.mul_nonneg ha (Int.le_of_lt (hp A hA))
  have k2 := Int.mul_nonneg hb (Int.le_of_lt (hp B hB))
  have k3 := Int.mul_nonneg hc (Int.le_of_lt (hp C hC))
  refine pos_of_mul hD ?_
  rw [ep]
  refine Classical.byContradiction fun hn => ?_
  have z : ∀ {a : Int} {A : T3}, 0 ≤ a → A ∈ L → a * val p A = 0 → a = 0 := by
    intro a A ha hA h0
    rcases Int.mul_eq_zero.mp h0 with g | g
    · exact g
    · have := hp A hA; omega
  have a0 := z ha hA (by omega)
  have b0 := z hb hB (by omega)
  have c0 := z hc hC (by omega)
  have e1 := e ⟨1, 0, 0⟩
  rw [a0, b0, c0] at e1
  have := Int.mul_pos hD hq
  unfold val at e1
  simp at e1
  omega
/-- a stretch -/
structure Seg (S : List T3) (a b : T3) : Prop where
  ne : a ≠ b
  la : Low a
  lb : Low b
  va : Vert S a
  vb : Vert S b
  link : Link S a b
  hull : ∀ X, 0 < X.q → Sat S X → Hull [a, b] X
/-- a point -/
structure Pnt (S : List T3) (a : T3) : Prop where
  la : Low a
  va : Vert S a
  hull : ∀ X, 0 < X.q → Sat S X → Hull [a] X
def Emp (S : List T3) : Prop := ∀ X : T3, 0 < X.q → ¬ Sat S X
theorem sat_left {S T : List T3} {X : T3} (h : Sat (S ++ T) X) : Sat S X := fun s hs => h s (by simp [hs])
theorem sat_last {S : List T3} {p X : T3} (h : Sat (S ++ [p]) X) : val p X ≤ 0 := h p (by simp)
theorem poly_emp {S L : List T3} {p : T3} (h : Poly S L) (hp : ∀ c ∈ L, 0 < val p c) : Emp (S ++ [p]) := fun X hq hX => by
  have := hull_none (h.hull (sat_left hX)) hq hp
  have := sat_last hX
  omega
theorem poly_pnt {S P : List T3} {p a : T3} (h : Poly S (a :: P)) (ha : val p a = 0) (hP : ∀ c ∈ P, 0 < val p c) : Pnt (S ++ [p]) a := by
  refine ⟨h.low a (by simp), (h.vert a (by simp)).cut (Int.le_of_eq ha), fun X hq hX => ?_⟩
  refine hull_zero (p := p) (d := a) (h.hull (sat_left hX)) (fun c hc => ?_) (sat_last hX) (fun c hc hz => ?_) (by simp)
  · rcases List.mem_cons.mp hc with g | g
    · rw [g]; omega
    · have := hP c g; omega
  · rcases List.mem_cons.mp hc with g | g
    · simp [g]
    · have := hP c g; omega
theorem poly_seg {S P : List T3} {p a b : T3} (h : Poly S (a :: b :: P)) (ne : a ≠ b) (ha : val p a = 0) (hb : val p b = 0) (hP : ∀ c ∈ P, 0 < val p c) : Seg (S ++ [p]) a b := by
  have r : Link S a b ∧ _ := h.ring
  refine ⟨ne, h.low a (by simp), h.low b (by simp), (h.vert a (by simp)).cut (Int.le_of_eq ha), (h.vert b (by simp)).cut (Int.le_of_eq hb), r.1.mono (fun s hs => by simp [hs]), fun X hq hX => ?_⟩
  refine hull_zero (p := p) (d := a) (h.hull (sat_left hX)) (fun c hc => ?_) (sat_last hX) (fun c hc hz => ?_) (by simp)
  · rcases List.mem_cons.mp hc with g | g
    · rw [g]; omega
    · rcases List.mem_cons.mp g with g | g
      · rw [g]; omega
      · have := hP c g; omega
  · rcases List.mem_cons.mp hc with g | g
    · simp [g]
    · rcases List.mem_cons.mp g with g | g
      · simp [g]
      · have := hP c g; omega
end Geo
/-! GO: tidy; a cut of what is told right is told right -/
namespace Geo
def ded (l : List T3) : List T3 := l.foldl (fun acc c => if c ∈ acc then acc else acc ++ [c]) []
theorem ded_go : ∀ (l acc : List T3), (acc ++ l).Nodup → l.foldl (fun acc c => if c ∈ acc then acc else acc ++ [c]) acc = acc ++ l
  | [], acc, _ => by simp
  | c :: l, acc, h => by
    have hc : c ∉ acc := fun z => by
      have := (List.nodup_append.mp h).2.2 c z c (by simp)
      exact this rfl
    rw [List.foldl_cons, if_neg hc, ded_go l (acc ++ [c]) (by simpa using h)]
    simp
theorem ded_nodup {l : List T3} (h : l.Nodup) : ded l = l := by
  have := ded_go l [] (by simpa using h)
  simpa [ded] using this
/-- the tidied row r of a row f -/
structure Tidy (f r : List T3) : Prop where
  few : (ded f).length < 3 → r.Pairwise lt ∧ ∀ x, x ∈ r ↔ x ∈ ded f
  more : 3 ≤ (ded f).length → ∃ A B b, ded f = A ++ b :: B ∧ r = b :: (B ++ A) ∧ ∀ c ∈ ded f, c = b ∨ lt b c
theorem conv_nodup {L : List T3} (h : Conv L) (h3 : 3 ≤ L.length) : L.Nodup := by
  refine Classical.byContradiction fun hn => ?_
  match L, h, h3, hn with
  | a :: b :: c :: l, h, _, hn =>
    have p := h.1
    refine hn ?_
    have hne : ∀ x ∈ b :: c :: l, a ≠ x := by
      intro x hx e
      subst e
      have q := List.pairwise_cons.mp p
      rcases List.mem_cons.mp hx with g | g
      · have := q.1 c (by simp)
        rw [← g, det_same1] at this
        omega
      · have := q.1 a g
        rw [det_same2] at this
        omega
    refine List.nodup_cons.mpr ⟨fun hm => hne a hm rfl, ?_⟩
    exact p.imp fun {x y} g e => by subst e; rw [det_same] at g; omega
end Geo
/-! GP: a polygon, a stretch, a point, cut and tidied -/
namespace Geo
inductive Rep (S : List T3) : List T3 → Prop
  | poly {a : T3} {l : List T3} : Poly S (a :: l) → (∀ c ∈ l, lt a c) → Rep S (a :: l)
  | seg {a b : T3} : Seg S a b → lt a b → Rep S [a, b]
  | pnt {a : T3} : Pnt S a → Rep S [a]
  | emp : Emp S → Rep S []
theorem lt_of_ne {a b : T3} (ha : Low a) (hb : Low b) (ne : a ≠ b) : lt a b ∨ lt b a := by
  refine Classical.byContradiction fun hn => ne (low_eq ha hb ?_)
  unfold lt at hn
  have h1 : a.x * b.q = b.x * a.q := by omega
  have h2 : a.y * b.q = b.y * a.q := by omega
  exact ⟨by grind, by grind⟩
theorem Seg.swap {S : List T3} {a b : T3} (h : Seg S a b) : Seg S b a :=
  ⟨h.ne.symm, h.lb, h.la, h.vb, h.va, h.link.symm, fun X hq hX => (h.hull X hq hX).mono fun c hc => by simp at hc ⊢; exact hc.symm⟩
/-- a row of two, ascending -/
theorem two_of {a b : T3} {r : List T3} (h : lt a b) (hr : r.Pairwise lt) (hm : ∀ x, x ∈ r ↔ x ∈ [a, b]) : r = [a, b] :=
  pairwise_uniq (fun a b => lt_asym) hr (.cons (fun x hx => by rw [List.mem_singleton.mp hx]; exact h) (.cons (fun x hx => by simp at hx) .nil)) hm
theorem rep_seg {S r : List T3} {a b : T3} (h : Seg S a b) (hr : r.Pairwise lt) (hm : ∀ x, x ∈ r ↔ x = a ∨ x = b) : Rep S r := by
  rcases lt_of_ne h.la h.lb h.ne with g | g
  · rw [two_of g hr fun x => by rw [hm]; simp]
    exact .seg h g
  · rw [two_of g hr fun x => by rw [hm]; simp; exact or_comm]
    exact .seg h.swap g
theorem rep_pnt {S r : List T3} {a : T3} (h : Pnt S a) (hr : r.Pairwise lt) (hm : ∀ x, x ∈ r ↔ x = a) : Rep S r := by
  have e : r = [a] := pairwise_uniq (fun a b => lt_asym) hr (.cons (fun x hx => by simp at hx) .nil) fun x => by rw [hm]; simp
  rw [e]
  exact .pnt h
theorem rep_emp {S r : List T3} (h : Emp S) (hm : ∀ x, ¬ x ∈ r) : Rep S r := by
  have e : r = [] := List.eq_nil_iff_forall_not_mem.mpr hm
  rw [e]
  exact .emp h
theorem Poly.rot {S A B : List T3} (h : Poly S (A ++ B)) : Poly S (B ++ A) :=
  ⟨by have := h.len; simp at this ⊢; omega, conv_rot h.conv, ring_rot h.ring, fun c hc => h.low c (by simp at hc ⊢; exact hc.symm), fun c hc => h.sat c (by simp at hc ⊢; exact hc.symm)⟩
/-- a polygon, turned anyhow, is tidied right -/
theorem rep_poly {S f r : List T3} (h : Poly S f) (t : Tidy f r) : Rep S r := by
  have nd := conv_nodup h.conv h.len
  have e := ded_nodup nd
  obtain ⟨A, B, b, e1, e2, e3⟩ := t.more (by rw [e]; exact h.len)
  rw [e] at e1 e3
  have k := Poly.rot (A := A) (B := b :: B) (by rw [← e1]; exact h)
  rw [e2]
  refine .poly k fun c hc => ?_
  have nd' : (b :: (B ++ A)).Nodup := conv_nodup k.conv k.len
  rcases e3 c (by rw [e1]; simp at hc ⊢; rcases hc with g | g; (· exact .inr (.inr g)); (· exact .inl g)) with g | g
  · subst g
    exact absurd hc (List.nodup_cons.mp nd').1
  · exact g
end Geo
/-! GQ: a cut of what is told right is told right -/
namespace Geo
theorem ded_mem_go : ∀ (l acc : List T3) (x : T3), x ∈ l.foldl (fun acc c => if c ∈ acc then acc else acc ++ [c]) acc ↔ x ∈ acc ∨ x ∈ l
  | [], acc, x => by simp
  | c :: l, acc, x => by
    rw [List.foldl_cons, ded_mem_go l _ x]
    by_cases h : c ∈ acc
    · rw [if_pos h]
      constructor
      · rintro (g | g)
        · exact .inl g
        · exact .inr (List.mem_cons_of_mem _ g)
      · rintro (g | g)
        · exact .inl g
        · rcases List.mem_cons.mp g with e | g
          · exact .inl (e ▸ h)
          · exact .inr g
    · rw [if_neg h]
      simp [or_assoc]
theorem ded_mem {l : List T3} {x : T3} : x ∈ ded l ↔ x ∈ l := by
  have := ded_mem_go l [] x
  simpa [ded] using this
theorem ded_len_go : ∀ (l acc : List T3), (l.foldl (fun acc c => if c ∈ acc then acc else acc ++ [c]) acc).length ≤ acc.length + l.length
  | [], acc => by simp
  | c :: l, acc => by
    rw [List.foldl_cons]
    have := ded_len_go l (if c ∈ acc then acc else acc ++ [c])
    by_cases h : c ∈ acc
    · rw [if_pos h] at this ⊢
      simp at this ⊢; omega
    · rw [if_neg h] at this ⊢
      simp at this ⊢; omega
theorem ded_len {l : List T3} : (ded l).length ≤ l.length := by
  have := ded_len_go l []
  simpa [ded] using this
theorem Tidy.small {f r : List T3} (t : Tidy f r) (h : (ded f).length < 3) : r.Pairwise lt ∧ ∀ x, x ∈ r ↔ x ∈ f := by
  obtain ⟨a, b⟩ := t.few h
  exact ⟨a, fun x => by rw [b, ded_mem]⟩
/-- two mixtures of the same two points that a plane meets -/
theorem mix_same {X Y c d p : T3} (mx : Mix X c d) (my : Mix Y c d) (hx : val p X = 0) (hy : val p Y = 0) (hc : val p c ≠ 0) : Same X Y := by
  obtain ⟨a, b, k, ha, hb, hk, e⟩ := mx
  obtain ⟨a', b', k', ha', hb', hk', e'⟩ := my
  have ep := e p
  have ep' := e' p
  rw [hx, Int.mul_zero] at ep
  rw [hy, Int.mul_zero] at ep'
  have par : a * b' = a' * b := by
    have h1 : val p c * (a * b' - a' * b) = 0 := by grind
    rcases Int.mul_eq_zero.mp h1 with g | g
    · exact absurd g hc
    · omega
  have q1 := e ⟨1, 0, 0⟩
  have q2 := e ⟨0, 1, 0⟩
  have q3 := e ⟨0, 0, 1⟩
  have r1 := e' ⟨1, 0, 0⟩
  have r2 := e' ⟨0, 1, 0⟩
  have r3 := e' ⟨0, 0, 1⟩
  unfold val at q1 q2 q3 r1 r2 r3
  simp at q1 q2 q3 r1 r2 r3
  have kk := Int.mul_pos hk hk'
  constructor
  · have : (k * k') * (X.q * Y.x - Y.q * X.x) = 0 := by grind
    have := zero_of kk this
    omega
  · have : (k * k') * (X.q * Y.y - Y.q * X.y) = 0 := by grind
    have := zero_of kk this
    omega
theorem meet_sym {m : T3 → T3 → T3 → T3} (hm : MeetOk m) {p c d : T3} (hc : Low c) (hd : Low d) (h : val p c * val p d < 0) : m p d c = m p c d := by
  obtain ⟨l1, m1, z1⟩ := hm p c d hc hd h
  obtain ⟨l2, m2, z2⟩ := hm p d c hd hc (by rw [Int.mul_comm]; exact h)
  exact low_eq l2 l1 (mix_same m2.symm m1 z2 z1 fun g => by rw [g, Int.zero_mul] at h; omega)
/-- a mixture of two points -/
theorem hull_two {a b X : T3} (h : Hull [a, b] X) : ∃ α β D : Int, 0 ≤ α ∧ 0 ≤ β ∧ 0 < D ∧ ∀ p, D * val p X = α * val p a + β * val p b := by
  obtain ⟨A, hA, B, hB, C, hC, u, v, w, D, hu, hv, hw, hD, e⟩ := h
  have pick : ∀ {A : T3} {u : Int}, A ∈ [a, b] → 0 ≤ u → ∃ α β : Int, 0 ≤ α ∧ 0 ≤ β ∧ ∀ p, u * val p A = α * val p a + β * val p b := by
    intro A u hA hu
    rcases List.mem_cons.mp hA with g | g
    · exact ⟨u, 0, hu, by decide, fun p => by rw [g]; omega⟩
    · exact ⟨0, u, by decide, hu, fun p => by rw [List.mem_singleton.mp g]; omega⟩
  obtain ⟨a1, b1, h1, k1, e1⟩ := pick hA hu
  obtain ⟨a2, b2, h2, k2, e2⟩ := pick hB hv
  obtain ⟨a3, b3, h3, k3, e3⟩ := pick hC hw
  exact ⟨a1 + a2 + a3, b1 + b2 + b3, D, by omega, by omega, hD, fun p => by rw [e, e1, e2, e3]; grind⟩
theorem two_hull {a b X : T3} {α β D : Int} (h1 : 0 ≤ α) (h2 : 0 ≤ β) (h3 : 0 < D) (e : ∀ p, D * val p X = α * val p a + β * val p b) : Hull [a, b] X :=
  ⟨a, by simp, b, by simp, b, by simp, α, β, 0, D, h1, h2, by decide, h3, fun p => by rw [e]; omega⟩
/-- a stretch cut between its ends -/
theorem seg_cut {S : List T3} {a b x p : T3} (h : Seg S a b) (ha : val p a < 0) (hb : 0 < val p b) (lx : Low x) (mx : Mix x a b) (zx : val p x = 0) : Seg (S ++ [p]) a x := by
  have mono : ∀ s ∈ S, s ∈ S ++ [p] := fun s hs => by simp [hs]
  have lk := link_mix (h.link.mono mono) mx
  refine ⟨fun e => by rw [e] at ha; omega, h.la, lx, h.va.cut (Int.le_of_lt ha), ⟨lx.pos, sat_app (sat_mix mx h.va.sat h.vb.sat) (Int.le_of_eq zx), ?_⟩, lk.1, fun X hq hX => ?_⟩
  · obtain ⟨s, hs, s1, s2, sn⟩ := h.link
    refine ⟨s, mono s hs, p, by simp, mx.zero s1 s2, zx, fun z => ?_⟩
    have k1 : s.x * (b.q * val p a - a.q * val p b) = 0 := by unfold cross val at *; grind
    have k2 : s.y * (b.q * val p a - a.q * val p b) = 0 := by unfold cross val at *; grind
    have n1 := Int.mul_neg_of_pos_of_neg h.lb.pos ha
    have n2 := Int.mul_pos h.la.pos hb
    have nz : b.q * val p a - a.q * val p b ≠ 0 := by omega
    rcases sn with sn | sn
    · exact Int.mul_ne_zero sn nz k1
    · exact Int.mul_ne_zero sn nz k2
  · obtain ⟨α, β, D, h1, h2, hD, e⟩ := hull_two (h.hull X hq (sat_left hX))
    obtain ⟨c, d, k, hc, hd, hk, f⟩ := mx
    have ep := e p
    have fp := f p
    rw [zx, Int.mul_zero] at fp
    have hX' := sat_last hX
    have g1 : d * (D * val p X) ≤ 0 := Int.mul_nonpos_of_nonneg_of_nonpos (Int.le_of_lt hd) (Int.mul_nonpos_of_nonneg_of_nonpos (Int.le_of_lt hD) hX')
    have g2 : d * (D * val p X) = (d * α - β * c) * val p a := by grind
    have g3 : 0 ≤ d * α - β * c := by
      refine Classical.byContradiction fun hn => ?_
      have := Int.mul_pos_of_neg_of_neg (by omega : d * α - β * c < 0) ha
      omega
    exact two_hull (α := d * α - β * c) (β := β * k) (D := d * D) g3 (Int.mul_nonneg h2 (Int.le_of_lt hk)) (Int.mul_pos hd hD) fun q => by have := e q; have := f q; grind
theorem seg_keep {S : List T3} {a b p : T3} (h : Seg S a b) (ha : val p a ≤ 0) (hb : val p b ≤ 0) : Seg (S ++ [p]) a b :=
  ⟨h.ne, h.la, h.lb, h.va.cut ha, h.vb.cut hb, h.link.mono fun s hs => by simp [hs], fun X hq hX => h.hull X hq (sat_left hX)⟩
theorem seg_pnt {S : List T3} {a b p : T3} (h : Seg S a b) (ha : val p a = 0) (hb : 0 < val p b) : Pnt (S ++ [p]) a := by
  refine ⟨h.la, h.va.cut (Int.le_of_eq ha), fun X hq hX => ?_⟩
  refine hull_zero (p := p) (d := a) (h.hull X hq (sat_left hX)) (fun c hc => ?_) (sat_last hX) (fun c hc hz => ?_) (by simp)
  · simp at hc
    rcases hc with g | g <;> rw [g] <;> omega
  · simp at hc
    rcases hc with g | g
    · simp [g]
    · rw [g] at hz; omega
theorem hull_emp {S L : List T3} {p : T3} (h : ∀ X, 0 < X.q → Sat S X → Hull L X) (hp : ∀ c ∈ L, 0 < val p c) : Emp (S ++ [p]) := fun X hq hX => by
  have := hull_none (h X hq (sat_left hX)) hq hp
  have := sat_last hX
  omega
section
variable {m : T3 → T3 → T3 → T3} {p : T3} {S : List T3}
theorem ded3 {a x : T3} (h : a ≠ x) : ded [a, x, x] = [a, x] := by simp [ded, h, h.symm]
theorem ded3' {a x : T3} (h : a ≠ x) : ded [x, a, x] = [x, a] := by simp [ded, h, h.symm]
theorem rep_cut_seg (hm : MeetOk m) {a b : T3} {r : List T3} (h : Seg S a b) (t : Tidy (found m p [a, b]) r) : Rep (S ++ [p]) r := by
  have e : found m p [a, b] = st m p a b ++ st m p b a := by simp [found, wk]
  rw [e] at t
  by_cases ha : val p a ≤ 0
  · by_cases hb : val p b ≤ 0
    · have n1 : ¬ val p a * val p b < 0 := by have := Int.mul_nonneg_of_nonpos_of_nonpos ha hb; omega
      have n2 : ¬ val p b * val p a < 0 := by rw [Int.mul_comm]; exact n1
      have e : st m p a b ++ st m p b a = [a, b] := by unfold st; rw [if_pos ha, if_pos hb, if_neg n1, if_neg n2]; rfl
      rw [e] at t
      obtain ⟨t1, t2⟩ := t.small (Nat.lt_of_le_of_lt ded_len (by simp))
      exact rep_seg (seg_keep h ha hb) t1 fun x => by rw [t2]; simp
    · have hb' : 0 < val p b := by omega
      rw [st_out ha hb', st_in hb' ha] at t
      by_cases hz : val p a < 0
      · rw [if_pos hz, if_pos hz] at t
        have hn : val p a * val p b < 0 := Int.mul_neg_of_neg_of_pos hz hb'
        obtain ⟨l1, m1, z1⟩ := hm p a b h.la h.lb hn
        rw [meet_sym hm h.la h.lb hn] at t
        have s := seg_cut h hz hb' l1 m1 z1
        obtain ⟨t1, t2⟩ := t.small (by show (ded [a, m p a b, m p a b]).length < 3; rw [ded3 s.ne]; simp)
        exact rep_seg s t1 fun x => by rw [t2]; simp
      · rw [if_neg hz, if_neg hz] at t
        obtain ⟨t1, t2⟩ := t.small (Nat.lt_of_le_of_lt ded_len (by simp))
        exact rep_pnt (seg_pnt h (by omega) hb') t1 fun x => by rw [t2]; simp
  · have ha' : 0 < val p a := by omega
    by_cases hb : val p b ≤ 0
    · rw [st_in ha' hb, st_out hb ha'] at t
      by_cases hz : val p b < 0
      · rw [if_pos hz, if_pos hz] at t
        have hn : val p b * val p a < 0 := Int.mul_neg_of_neg_of_pos hz ha'
        obtain ⟨l1, m1, z1⟩ := hm p b a h.lb h.la hn
        rw [meet_sym hm h.lb h.la hn] at t
        have s := seg_cut h.swap hz ha' l1 m1 z1
        obtain ⟨t1, t2⟩ := t.small (by show (ded [m p b a, b, m p b a]).length < 3; rw [ded3' s.ne]; simp)
        exact rep_seg s t1 fun x => by rw [t2]; simp only [List.mem_append, List.mem_cons, List.not_mem_nil, or_false]; exact ⟨fun g => by rcases g with g | g | g; (· exact .inr g); (· exact .inl g); (· exact .inr g), fun g => by rcases g with g | g; (· exact .inr (.inl g)); (· exact .inl g)⟩
      · rw [if_neg hz, if_neg hz] at t
        obtain ⟨t1, t2⟩ := t.small (Nat.lt_of_le_of_lt ded_len (by simp))
        exact rep_pnt (seg_pnt h.swap (by omega) ha') t1 fun x => by rw [t2]; simp
    · have hb' : 0 < val p b := by omega
      have e : st m p a b ++ st m p b a = [] := by
        have := Int.mul_pos ha' hb'
        have := Int.mul_pos hb' ha'
        unfold st; rw [if_neg ha, if_neg hb, if_neg (by omega), if_neg (by omega)]; rfl
      rw [e] at t
      obtain ⟨t1, t2⟩ := t.small (Nat.lt_of_le_of_lt ded_len (by simp))
      exact rep_emp (hull_emp h.hull (fun c hc => by simp at hc; rcases hc with g | g <;> rw [g] <;> assumption)) fun x hx => by have := (t2 x).mp hx; simp at this
theorem rep_cut_pnt {a : T3} {r : List T3} (h : Pnt S a) (t : Tidy (found m p [a]) r) : Rep (S ++ [p]) r := by
  have n : ¬ val p a * val p a < 0 := by
    by_cases g : val p a ≤ 0
    · have := Int.mul_nonneg_of_nonpos_of_nonpos g g; omega
    · have := Int.mul_pos (by omega : 0 < val p a) (by omega : 0 < val p a); omega
  have e : found m p [a] = if val p a ≤ 0 then [a] else [] := by simp [found, wk, st, n]
  rw [e] at t
  obtain ⟨t1, t2⟩ := t.small (Nat.lt_of_le_of_lt ded_len (by split <;> simp))
  by_cases g : val p a ≤ 0
  · rw [if_pos g] at t2
    exact rep_pnt ⟨h.la, h.va.cut g, fun X hq hX => h.hull X hq (sat_left hX)⟩ t1 fun x => by rw [t2]; simp
  · rw [if_neg g] at t2
    exact rep_emp (hull_emp h.hull fun c hc => by rw [List.mem_singleton.mp hc]; omega) fun x hx => by have := (t2 x).mp hx; simp at this
theorem rep_cut_emp {r : List T3} (h : Emp S) (t : Tidy (found m p []) r) : Rep (S ++ [p]) r := by
  obtain ⟨t1, t2⟩ := t.small (Nat.lt_of_le_of_lt ded_len (by simp [found]))
  exact rep_emp (fun X hq hX => h X hq (sat_left hX)) fun x hx => by have := (t2 x).mp hx; simp [found] at this
theorem has_last (a : T3) (l : List T3) : ∃ z, (a :: l).getLast? = some z := ⟨_, List.getLast?_eq_some_getLast (by simp)⟩
theorem rep_cut_poly (hm : MeetOk m) {L r : List T3} (h : Poly S L) (t : Tidy (found m p L) r) : Rep (S ++ [p]) r := by
  obtain ⟨A, B, N, P, e1, e2, hN, hP⟩ := signs_rot p h.conv
  obtain ⟨X, Y, f1, f2⟩ := found_rot (m := m) (p := p) A B
  rw [← e1] at f1
  rw [e2] at f2
  have h' : Poly S (N ++ P) := by rw [← e2]; exact (e1 ▸ h : Poly S (A ++ B)).rot
  have small : found m p (N ++ P) ≠ [] ∨ True → (found m p (N ++ P)).length < 3 → r.Pairwise lt ∧ ∀ x, x ∈ r ↔ x ∈ found m p (N ++ P) := by
    intro _ hl
    obtain ⟨t1, t2⟩ := t.small (Nat.lt_of_le_of_lt ded_len (by rw [f1]; rw [f2] at hl; simp at hl ⊢; omega))
    exact ⟨t1, fun x => by rw [t2, f1, f2]; simp; exact or_comm⟩
  by_cases h3 : 3 ≤ (found m p (N ++ P)).length ∧ Poly (S ++ [p]) (found m p (N ++ P))
  · have := h3.2
    rw [f2] at this
    have k := this.rot
    rw [← f1] at k
    exact rep_poly k t
  match N, P, hN, hP, e2, f2, h', small, h3 with
  | [], P, hN, hP, e2, f2, h', small, h3 =>
    have e : found m p ([] ++ P) = [] := by
      match P, hP with
      | [], _ => rfl
      | q :: P, hP =>
        show wk m p q (P ++ [q]) = []
        exact wk_go (hP q (by simp)) fun c hc => by
          rcases List.mem_append.mp hc with g | g
          · exact hP c (by simp [g])
          · rw [List.mem_singleton.mp g]; exact hP q (by simp)
    obtain ⟨t1, t2⟩ := small (.inr trivial) (by rw [e]; simp)
    exact rep_emp (poly_emp h' (by simpa using hP)) fun x hx => by have := (t2 x).mp hx; rw [e] at this; simp at this
  | n1 :: A', [], hN, hP, e2, f2, h', small, h3 =>
    have e : found m p ((n1 :: A') ++ []) = n1 :: A' := by
      rw [List.append_nil]
      show wk m p n1 (A' ++ [n1]) = _
      rw [wk_stay (hN n1 (by simp)) fun c hc => by
          rcases List.mem_append.mp hc with g | g
          · exact hN c (by simp [g])
          · rw [List.mem_singleton.mp g]; exact hN n1 (by simp)]
      rw [← List.cons_append, List.dropLast_concat]
    rw [e] at h3
    rw [List.append_nil] at h'
    exfalso
    exact h3 ⟨h'.len, h'.len, h'.conv, Chn.mono (fun s hs => by simp [hs]) h'.ring, h'.low, fun c hc => sat_app (h'.sat c hc) (hN c hc)⟩
  | n1 :: A', p1 :: B', hN, hP, e2, f2, h', small, h3 =>
    obtain ⟨nk, eN⟩ := has_last n1 A'
    obtain ⟨pm, eP⟩ := has_last p1 B'
    have hl : (found m p ((n1 :: A') ++ (p1 :: B'))).length < 3 := by
      refine Classical.byContradiction fun hn => h3 ?_
      have : 3 ≤ (found m p ((n1 :: A') ++ (p1 :: B'))).length := by omega
      exact ⟨this, cut_poly hm h' hN hP eN eP this⟩
    obtain ⟨t1, t2⟩ := small (.inr trivial) hl
    rw [found_np (m := m) hN hP eN eP] at hl t2
    match A', eN, hN, h', hl, t2 with
    | [], eN, hN, h', hl, t2 =>
      have eN : n1 = nk := Option.some.inj eN
      subst eN
      have hz : ¬ val p n1 < 0 := fun g => by rw [if_pos g, if_pos g] at hl; simp at hl
      rw [if_neg hz, if_neg hz] at t2
      have z : val p n1 = 0 := by have := hN n1 (by simp); omega
      exact rep_pnt (poly_pnt h' z hP) t1 fun x => by rw [t2]; simp
    | [n2], eN, hN, h', hl, t2 =>
      have eN : n2 = nk := Option.some.inj eN
      subst eN
      have hz : ¬ val p n2 < 0 := fun g => by rw [if_pos g] at hl; simp at hl; omega
      have hz1 : ¬ val p n1 < 0 := fun g => by rw [if_pos g] at hl; simp at hl; omega
      rw [if_neg hz, if_neg hz1] at t2
      have z : val p n1 = 0 := by have := hN n1 (by simp); omega
      have z2 : val p n2 = 0 := by have := hN n2 (by simp); omega
      have ne : n1 ≠ n2 := fun e => by
        have := conv_nodup h'.conv h'.len
        rw [e] at this
        simp at this
      exact rep_seg (poly_seg h' ne z z2 hP) t1 fun x => by rw [t2]; simp
    | _ :: _ :: _, eN, hN, h', hl, t2 =>
      simp at hl; omega
theorem rep_cut (hm : MeetOk m) {L r : List T3} (h : Rep S L) (t : Tidy (found m p L) r) : Rep (S ++ [p]) r := by
  cases h with
  | poly h _ => exact rep_cut_poly hm h t
  | seg h _ => exact rep_cut_seg hm h t
  | pnt h => exact rep_cut_pnt h t
  | emp h => exact rep_cut_emp h t
end
end Geo
/-! GR: the row of corners is that of all meetings that are left, in order -/
namespace Geo
theorem Rep.low {S L : List T3} (h : Rep S L) : ∀ c ∈ L, Low c := by
  cases h with
  | poly h _ => exact h.low
  | seg h _ => intro c hc; simp at hc; rcases hc with g | g <;> rw [g]; exact h.la; exact h.lb
  | pnt h => intro c hc; rw [List.mem_singleton.mp hc]; exact h.la
  | emp h => intro c hc; simp at hc
theorem Rep.vert {S L : List T3} (h : Rep S L) : ∀ c ∈ L, Vert S c := by
  cases h with
  | poly h _ => exact h.vert
  | seg h _ => intro c hc; simp at hc; rcases hc with g | g <;> rw [g]; exact h.va; exact h.vb
  | pnt h => intro c hc; rw [List.mem_singleton.mp hc]; exact h.va
  | emp h => intro c hc; simp at hc
theorem hull_nil {X : T3} (h : Hull [] X) : False := by obtain ⟨A, hA, _⟩ := h; simp at hA
theorem Rep.hull {S L : List T3} (h : Rep S L) {X : T3} (hq : 0 < X.q) (hX : Sat S X) : Hull L X := by
  cases h with
  | poly h _ => exact h.hull hX
  | seg h _ => exact h.hull X hq hX
  | pnt h => exact h.hull X hq hX
  | emp h => exact absurd hX (h X hq)
theorem Rep.mem {S L : List T3} (h : Rep S L) (X : T3) : X ∈ L ↔ Low X ∧ Vert S X := by
  constructor
  · exact fun hX => ⟨h.low X hX, h.vert X hX⟩
  · rintro ⟨hl, hv⟩
    obtain ⟨A, hA, e⟩ := vert_mem hv (fun c hc => (h.vert c hc).sat) (h.hull hv.pos hv.sat)
    rw [← low_eq (h.low A hA) hl e]
    exact hA
/-- anything is left, or nothing -/
theorem Rep.ne {S L : List T3} (h : Rep S L) : L ≠ [] ↔ ∃ X : T3, 0 < X.q ∧ Sat S X := by
  constructor
  · intro g
    obtain ⟨c, hc⟩ := List.exists_mem_of_ne_nil L g
    exact ⟨c, (h.low c hc).pos, (h.vert c hc).sat⟩
  · rintro ⟨X, hq, hX⟩ g
    have := h.hull hq hX
    rw [g] at this
    exact hull_nil this
/-- where just one point is left, the row is that point -/
theorem Rep.one {S L : List T3} (h : Rep S L) {P : T3} (hP : Low P) (only : ∀ X : T3, 0 < X.q → Sat S X → Same X P) : L = [] ∨ L = [P] := by
  have k : ∀ c ∈ L, c = P := fun c hc => low_eq (h.low c hc) hP (only c (h.low c hc).pos (h.vert c hc).sat)
  cases h with
  | poly h g =>
    rename_i a l
    match l, h.len with
    | [], h => simp at h
    | b :: l, _ =>
      have := g b (by simp)
      rw [k a (by simp), k b (by simp)] at this
      exact absurd this lt_irr
  | seg h g =>
    rename_i a b
    rw [k a (by simp), k b (by simp)] at g
    exact absurd g lt_irr
  | pnt h =>
    rename_i a
    exact .inr (by rw [k a (by simp)])
  | emp h => exact .inl rfl
/-- the law's own corners -/
def corners (F : List T3) : List T3 := if F.length < 3 then F else ordered (F.headD ⟨0, 0, 0⟩) (F.getLastD ⟨0, 0, 0⟩) (F.drop 1).dropLast
theorem sorted_nodup {F : List T3} (h : F.Pairwise lt) : F.Nodup := h.imp fun {a b} g e => by subst e; exact lt_irr g
theorem corners_is {S L F : List T3} (h : Rep S L) (hs : F.Pairwise lt) (hF : ∀ X, X ∈ F ↔ Low X ∧ Vert S X) : corners F = L := by
  have mem : ∀ X, X ∈ F ↔ X ∈ L := fun X => by rw [hF, h.mem]
  cases h with
  | emp h =>
    have e : F = [] := List.eq_nil_iff_forall_not_mem.mpr fun x hx => by have := (mem x).mp hx; simp at this
    rw [e]; rfl
  | pnt h =>
    rename_i a
    have e : F = [a] := pairwise_uniq (fun a b => lt_asym) hs (.cons (fun x hx => by simp at hx) .nil) mem
    rw [e]; rfl
  | seg h g =>
    have e := two_of g hs mem
    rw [e]; rfl
  | poly h g =>
    rename_i a l
    have nd := conv_nodup h.conv h.len
    have nd' := List.nodup_cons.mp nd
    match F, hs, mem with
    | [], _, mem => have := (mem a).mpr (by simp); simp at this
    | u :: R, hs, mem =>
      have hs' := List.pairwise_cons.mp hs
      have e : u = a := by
        rcases List.mem_cons.mp ((mem u).mp (by simp)) with e | hu
        · exact e
        · rcases List.mem_cons.mp ((mem a).mpr (by simp)) with e | ha
          · exact e.symm
          · exact absurd (hs'.1 a ha) (lt_asym (g u hu))
      subst e
      have memR : ∀ x, x ∈ R ↔ x ∈ l := by
        intro x
        have hu : u ∉ R := fun z => lt_irr (hs'.1 u z)
        constructor
        · intro hx
          rcases List.mem_cons.mp ((mem x).mp (List.mem_cons_of_mem _ hx)) with e | k
          · subst e; exact absurd hx hu
          · exact k
        · intro hx
          rcases List.mem_cons.mp ((mem x).mpr (List.mem_cons_of_mem _ hx)) with e | k
          · subst e; exact absurd hx nd'.1
          · exact k
      match l, h, g, nd, nd', memR with
      | [], h, _, _, _, _ => have := h.len; simp at this
      | [y], h, _, _, _, _ => have := h.len; simp at this
      | y1 :: y2 :: l, h, g, nd, nd', memR =>
        have ney : y1 ≠ y2 := fun e => by have := nd'.2; rw [e] at this; simp at this
        rcases List.eq_nil_or_concat R with eR | ⟨M, z, eR⟩
        · have := (memR y1).mpr (by simp); rw [eR] at this; simp at this
        · rw [List.concat_eq_append] at eR
          subst eR
          have hM : M ≠ [] := fun e => by
            subst e
            have a1 := (memR y1).mpr (by simp)
            have a2 := (memR y2).mpr (by simp)
            simp at a1 a2
            exact ney (a1.trans a2.symm)
          have hl : ¬ (u :: (M ++ [z])).length < 3 := by
            have := List.length_pos_iff.mpr hM
            simp; omega
          have e0 : corners (u :: (M ++ [z])) = ordered u z M := by
            unfold corners
            rw [if_neg hl]
            have e1 : (u :: (M ++ [z])).headD ⟨0, 0, 0⟩ = u := rfl
            have e2 : (u :: (M ++ [z])).getLastD ⟨0, 0, 0⟩ = z := by
              rw [← List.cons_append, List.getLastD_concat]
            have e3 : ((u :: (M ++ [z])).drop 1).dropLast = M := by simp
            rw [e1, e2, e3]
          rw [e0]
          have hz : z ∈ y1 :: y2 :: l := (memR z).mp (by simp)
          obtain ⟨A, B, eA⟩ := List.append_of_mem hz
          have pR := List.pairwise_append.mp hs'.2
          rw [eA] at h nd' memR
          have zn : z ∉ A ∧ z ∉ B := by
            have := nd'.2
            rw [List.nodup_append] at this
            exact ⟨fun k => this.2.2 z k z (by simp) rfl, (List.nodup_cons.mp this.2.1).1⟩
          rw [eA]
          refine ordered_is h.conv pR.1 (fun w => ?_) (fun w hw => hs'.1 w (by simp [hw])) fun w hw => pR.2.2 w hw z (by simp)
          have m := memR w
          simp at m
          constructor
          · intro hw
            rcases m.mp (.inl hw) with k | k | k
            · exact .inl k
            · subst k; exact absurd (pR.2.2 w hw w (by simp)) lt_irr
            · exact .inr k
          · intro hw
            rcases m.mpr (by rcases hw with k | k; (· exact .inl k); (· exact .inr (.inr k))) with k | k
            · exact k
            · subst k; rcases hw with k | k
              · exact absurd k zn.1
              · exact absurd k zn.2
end Geo
/-! GS: how many corners; what a cut finds are corners -/
namespace Geo
theorem nodup_len : ∀ {l m : List T3}, l.Nodup → (∀ x ∈ l, x ∈ m) → l.length ≤ m.length
  | [], m, _, _ => Nat.zero_le _
  | a :: l, m, h, k => by
    have h' := List.nodup_cons.mp h
    have ha := k a (by simp)
    have := nodup_len (m := m.erase a) h'.2 fun x hx => (List.mem_erase_of_ne (fun e => by subst e; exact h'.1 hx)).mpr (k x (by simp [hx]))
    rw [List.length_erase_of_mem ha] at this
    have := List.length_pos_of_mem ha
    simp; omega
theorem tidy_len {f r : List T3} (t : Tidy f r) : r.length ≤ f.length := by
  by_cases h : (ded f).length < 3
  · obtain ⟨h1, h2⟩ := t.small h
    exact nodup_len (sorted_nodup h1) fun x hx => (h2 x).mp hx
  · obtain ⟨A, B, b, e1, e2, _⟩ := t.more (by omega)
    have l := ded_len (l := f)
    rw [e1] at l
    rw [e2]
    simp at l ⊢; omega
section
variable {m : T3 → T3 → T3 → T3} {p : T3} {S : List T3}
theorem found_len {L : List T3} (h : Conv L) : (found m p L).length ≤ L.length + 1 := by
  obtain ⟨A, B, N, P, e1, e2, hN, hP⟩ := signs_rot p h
  obtain ⟨X, Y, f1, f2⟩ := found_rot (m := m) (p := p) A B
  rw [← e1] at f1
  rw [e2] at f2
  have hl : (found m p L).length = (found m p (N ++ P)).length := by rw [f1, f2]; simp; omega
  have hl2 : L.length = (N ++ P).length := by rw [← e2, e1]; simp; omega
  rw [hl, hl2]
  match N, P, hN, hP with
  | [], [], _, _ => simp [found]
  | [], q :: P, _, hP =>
    have : found m p (q :: P) = [] := wk_go (hP q (by simp)) fun c hc => by
      rcases List.mem_append.mp hc with g | g
      · exact hP c (by simp [g])
      · rw [List.mem_singleton.mp g]; exact hP q (by simp)
    simp [this]
  | n1 :: A', [], hN, _ =>
    have e : found m p (n1 :: A') = n1 :: A' := by
      show wk m p n1 (A' ++ [n1]) = _
      rw [wk_stay (hN n1 (by simp)) fun c hc => by
          rcases List.mem_append.mp hc with g | g
          · exact hN c (by simp [g])
          · rw [List.mem_singleton.mp g]; exact hN n1 (by simp)]
      rw [← List.cons_append, List.dropLast_concat]
    simp [e]
  | n1 :: A', p1 :: B', hN, hP =>
    obtain ⟨nk, eN⟩ := has_last n1 A'
    obtain ⟨pm, eP⟩ := has_last p1 B'
    rw [found_np (m := m) hN hP eN eP]
    simp only [List.length_append, List.length_cons]
    split <;> split <;> simp <;> omega
theorem st_len {a b : T3} : (st m p a b).length ≤ 2 := by unfold st; split <;> split <;> simp
theorem cut_len {L : List T3} (h : Rep S L) : (found m p L).length ≤ L.length + 2 := by
  cases h with
  | poly h _ => have := found_len (m := m) (p := p) h.conv; omega
  | seg h g =>
    rename_i a b
    have h1 := st_len (m := m) (p := p) (a := a) (b := b)
    have h2 := st_len (m := m) (p := p) (a := b) (b := a)
    simp [found, wk]; omega
  | pnt h =>
    rename_i a
    have h1 := st_len (m := m) (p := p) (a := a) (b := a)
    simp [found, wk]; omega
  | emp h => simp [found]
theorem seg_found_mem (hm : MeetOk m) {a b x : T3} (h : Seg S a b) (hx : x ∈ found m p [a, b]) : x ∈ [a, b, m p a b] := by
  have e : found m p [a, b] = st m p a b ++ st m p b a := by simp [found, wk]
  rw [e] at hx
  rcases List.mem_append.mp hx with g | g
  · unfold st at g
    rcases List.mem_append.mp g with g | g
    · split at g <;> simp_all
    · split at g <;> simp_all
  · unfold st at g
    rcases List.mem_append.mp g with g | g
    · split at g <;> simp_all
    · by_cases hn : val p b * val p a < 0
      · rw [if_pos hn] at g
        rw [List.mem_singleton.mp g, meet_sym hm h.la h.lb (by rw [Int.mul_comm]; exact hn)]
        simp
      · rw [if_neg hn] at g; simp at g
theorem Rep.nodup {L : List T3} (h : Rep S L) : L.Nodup := by
  cases h with
  | poly k _ => exact conv_nodup k.conv k.len
  | seg k g => exact sorted_nodup (.cons (fun x hx => by rw [List.mem_singleton.mp hx]; exact g) (.cons (fun x hx => by simp at hx) .nil))
  | pnt k => simp
  | emp k => simp
theorem Tidy.mem {f r : List T3} (t : Tidy f r) (x : T3) : x ∈ r ↔ x ∈ f := by
  by_cases h : (ded f).length < 3
  · exact (t.small h).2 x
  · obtain ⟨A, B, b', e1, e2, _⟩ := t.more (by omega)
    rw [← ded_mem (l := f), e1, e2]
    simp
    constructor
    · rintro (g | g | g)
      · exact .inr (.inl g)
      · exact .inr (.inr g)
      · exact .inl g
    · rintro (g | g | g)
      · exact .inr (.inr g)
      · exact .inl g
      · exact .inr (.inl g)
theorem rep_len {L r : List T3} (hm : MeetOk m) (h : Rep S L) (t : Tidy (found m p L) r) : r.length ≤ max 3 (L.length + 1) := by
  have hr := rep_cut hm h t
  cases h with
  | poly h _ => exact Nat.le_trans (Nat.le_trans (tidy_len t) (found_len h.conv)) (Nat.le_max_right _ _)
  | seg h g =>
    rename_i a b
    have : r.length ≤ [a, b, m p a b].length := nodup_len hr.nodup fun x hx => seg_found_mem hm h ((t.mem x).mp hx)
    exact Nat.le_trans this (Nat.le_max_left _ _)
  | pnt h =>
    rename_i a
    have l := tidy_len t
    have l2 := st_len (m := m) (p := p) (a := a) (b := a)
    have e : found m p [a] = st m p a a := by simp [found, wk]
    rw [e] at l
    omega
  | emp h =>
    have l := tidy_len t
    simp [found] at l
    simp [l]
/-- where a plane meets a stretch is a corner -/
theorem vert_cross {c d x : T3} (lk : Link S c d) (hc : 0 < c.q) (hd : 0 < d.q) (sc : Sat S c) (sd : Sat S d) (hn : val p c * val p d < 0) (lx : Low x) (mx : Mix x c d) (zx : val p x = 0) : Vert (S ++ [p]) x := by
  refine ⟨lx.pos, sat_app (sat_mix mx sc sd) (Int.le_of_eq zx), ?_⟩
  obtain ⟨s, hs, s1, s2, sn⟩ := lk
  refine ⟨s, by simp [hs], p, by simp, mx.zero s1 s2, zx, fun z => ?_⟩
  have k1 : s.x * (d.q * val p c - c.q * val p d) = 0 := by unfold cross val at *; grind
  have k2 : s.y * (d.q * val p c - c.q * val p d) = 0 := by unfold cross val at *; grind
  have nz : d.q * val p c - c.q * val p d ≠ 0 := by
    by_cases h : val p c < 0
    · have : 0 < val p d := by
        refine Classical.byContradiction fun g => ?_
        have := Int.mul_nonneg_of_nonpos_of_nonpos (Int.le_of_lt h) (by omega : val p d ≤ 0)
        omega
      have n1 := Int.mul_neg_of_pos_of_neg hd h
      have n2 := Int.mul_pos hc this
      omega
    · have h0 : val p c ≠ 0 := fun e => by rw [e, Int.zero_mul] at hn; omega
      have h1 : 0 < val p c := by omega
      have : val p d < 0 := by
        refine Classical.byContradiction fun g => ?_
        have := Int.mul_nonneg (Int.le_of_lt h1) (by omega : 0 ≤ val p d)
        omega
      have n1 := Int.mul_neg_of_pos_of_neg hc this
      have n2 := Int.mul_pos hd h1
      omega
  rcases sn with sn | sn
  · exact Int.mul_ne_zero sn nz k1
  · exact Int.mul_ne_zero sn nz k2
theorem wk_vert (hm : MeetOk m) : ∀ {a : T3} {l : List T3}, Chn S a l → (∀ c ∈ a :: l, Low c ∧ Vert S c) → ∀ x ∈ wk m p a l, Low x ∧ Vert (S ++ [p]) x
  | _, [], _, _, x, hx => by simp [wk] at hx
  | a, b :: l, h, k, x, hx => by
    rw [wk] at hx
    have ka := k a (by simp)
    have kb := k b (by simp)
    rcases List.mem_append.mp hx with g | g
    · unfold st at g
      rcases List.mem_append.mp g with g | g
      · by_cases hv : val p a ≤ 0
        · rw [if_pos hv] at g
          rw [List.mem_singleton.mp g]
          exact ⟨ka.1, ka.2.cut hv⟩
        · rw [if_neg hv] at g; simp at g
      · by_cases hv : val p a * val p b < 0
        · rw [if_pos hv] at g
          rw [List.mem_singleton.mp g]
          obtain ⟨l1, m1, z1⟩ := hm p a b ka.1 kb.1 hv
          exact ⟨l1, vert_cross h.1 ka.2.pos kb.2.pos ka.2.sat kb.2.sat hv l1 m1 z1⟩
        · rw [if_neg hv] at g; simp at g
    · exact wk_vert hm h.2 (fun c hc => k c (List.mem_cons_of_mem _ hc)) x g
theorem found_vert (hm : MeetOk m) {L : List T3} (h : Rep S L) : ∀ x ∈ found m p L, Low x ∧ Vert (S ++ [p]) x := by
  have k : ∀ c ∈ L, Low c ∧ Vert S c := fun c hc => (h.mem c).mp hc
  cases h with
  | poly h _ =>
    refine wk_vert hm h.ring fun c hc => ?_
    rcases List.mem_cons.mp hc with g | g
    · exact k c (by simp [g])
    · rcases List.mem_append.mp g with g | g
      · exact k c (by simp [g])
      · exact k c (by simp [List.mem_singleton.mp g])
  | seg h _ =>
    refine wk_vert hm (show Chn S _ [_, _] from ⟨h.link, h.link.symm, trivial⟩) fun c hc => k c ?_
    simp at hc ⊢
    rcases hc with g | g | g
    · exact .inl g
    · exact .inr g
    · exact .inl g
  | pnt h =>
    rename_i a
    intro x hx
    have e : found m p [a] = st m p a a := by simp [found, wk]
    have n : ¬ val p a * val p a < 0 := by
      by_cases g : val p a ≤ 0
      · have := Int.mul_nonneg_of_nonpos_of_nonpos g g; omega
      · have := Int.mul_pos (by omega : 0 < val p a) (by omega : 0 < val p a); omega
    rw [e] at hx
    unfold st at hx
    rw [if_neg n, List.append_nil] at hx
    by_cases hv : val p a ≤ 0
    · rw [if_pos hv] at hx
      rw [List.mem_singleton.mp hx]
      exact ⟨h.la, h.va.cut hv⟩
    · rw [if_neg hv] at hx; simp at hx
  | emp h => intro x hx; simp [found] at hx
end
end Geo
/-! GT: lowest terms; how great corners are -/
namespace Geo
def gT (a : T3) : Int := ((Nat.gcd (Nat.gcd a.q.natAbs a.x.natAbs) a.y.natAbs : Nat) : Int)
def partT (a : T3) : Int := if a.q < 0 then 0 - gT a else gT a
def lowT (a : T3) : T3 := ⟨a.q.fdiv (partT a), a.x.fdiv (partT a), a.y.fdiv (partT a)⟩
theorem gT_pos {a : T3} (h : a.q ≠ 0) : 0 < gT a := by
  unfold gT
  have : 0 < Nat.gcd (Nat.gcd a.q.natAbs a.x.natAbs) a.y.natAbs := Nat.gcd_pos_of_pos_left _ (Nat.gcd_pos_of_pos_left _ (by omega))
  omega
theorem gT_dvd (a : T3) : gT a ∣ a.q ∧ gT a ∣ a.x ∧ gT a ∣ a.y := by
  unfold gT
  refine ⟨Int.ofNat_dvd_left.mpr ?_, Int.ofNat_dvd_left.mpr ?_, Int.ofNat_dvd_left.mpr ?_⟩
  · exact Nat.dvd_trans (Nat.gcd_dvd_left _ _) (Nat.gcd_dvd_left _ _)
  · exact Nat.dvd_trans (Nat.gcd_dvd_left _ _) (Nat.gcd_dvd_right _ _)
  · exact Nat.gcd_dvd_right _ _
theorem partT_eq (a : T3) : partT a = gT a ∨ partT a = -gT a := by unfold partT; split <;> omega
theorem partT_nz {a : T3} (h : a.q ≠ 0) : partT a ≠ 0 := by
  have := gT_pos h
  rcases partT_eq a with e | e <;> omega
theorem partT_dvd (a : T3) : partT a ∣ a.q ∧ partT a ∣ a.x ∧ partT a ∣ a.y := by
  obtain ⟨h1, h2, h3⟩ := gT_dvd a
  rcases partT_eq a with e | e
  · rw [e]; exact ⟨h1, h2, h3⟩
  · rw [e]; exact ⟨Int.neg_dvd.mpr h1, Int.neg_dvd.mpr h2, Int.neg_dvd.mpr h3⟩
theorem lowT_mul {a : T3} (h : a.q ≠ 0) : partT a * (lowT a).q = a.q ∧ partT a * (lowT a).x = a.x ∧ partT a * (lowT a).y = a.y := by
  obtain ⟨h1, h2, h3⟩ := partT_dvd a
  exact ⟨Int.mul_fdiv_cancel' h1, Int.mul_fdiv_cancel' h2, Int.mul_fdiv_cancel' h3⟩
theorem lowT_low {a : T3} (h : a.q ≠ 0) : Low (lowT a) := by
  obtain ⟨h1, h2, h3⟩ := lowT_mul h
  have hg := gT_pos h
  constructor
  · have sg : 0 < partT a * a.q := by
      unfold partT
      split
      · have := Int.mul_pos_of_neg_of_neg (by omega : 0 - gT a < 0) (by assumption : a.q < 0); exact this
      · exact Int.mul_pos hg (by omega)
    have e : partT a * partT a * (lowT a).q = partT a * a.q := by rw [Int.mul_assoc, h1]
    have pp : 0 < partT a * partT a := by
      rcases partT_eq a with e | e <;> rw [e]
      · exact Int.mul_pos hg hg
      · exact Int.mul_pos_of_neg_of_neg (by omega) (by omega)
    exact pos_of_mul pp (by omega)
  · have n : (partT a).natAbs = Nat.gcd (Nat.gcd a.q.natAbs a.x.natAbs) a.y.natAbs := by
      have : (gT a).natAbs = Nat.gcd (Nat.gcd a.q.natAbs a.x.natAbs) a.y.natAbs := by unfold gT; omega
      rcases partT_eq a with e | e <;> rw [e] <;> omega
    have np : 0 < (partT a).natAbs := by have := partT_nz h; omega
    have e1 : a.q.natAbs = (partT a).natAbs * (lowT a).q.natAbs := by rw [← Int.natAbs_mul, h1]
    have e2 : a.x.natAbs = (partT a).natAbs * (lowT a).x.natAbs := by rw [← Int.natAbs_mul, h2]
    have e3 : a.y.natAbs = (partT a).natAbs * (lowT a).y.natAbs := by rw [← Int.natAbs_mul, h3]
    have k : (partT a).natAbs * Nat.gcd (Nat.gcd (lowT a).q.natAbs (lowT a).x.natAbs) (lowT a).y.natAbs = (partT a).natAbs * 1 := by
      rw [← Nat.gcd_mul_left, ← Nat.gcd_mul_left, ← e1, ← e2, ← e3, ← n, Nat.mul_one]
    exact Nat.eq_of_mul_eq_mul_left np k
theorem lowT_same {a : T3} (h : a.q ≠ 0) : Same (lowT a) a := by
  obtain ⟨h1, h2, h3⟩ := lowT_mul h
  constructor
  · show (lowT a).q * a.x = a.q * (lowT a).x
    rw [← h2, ← h1]
    grind
  · show (lowT a).q * a.y = a.q * (lowT a).y
    rw [← h3, ← h1]
    grind
theorem lowT_val {a : T3} (h : a.q ≠ 0) (p : T3) : partT a * val p (lowT a) = val p a := by
  obtain ⟨h1, h2, h3⟩ := lowT_mul h
  unfold val
  grind
def mt (p c d : T3) : T3 := lowT (meet p c d)
theorem meetOk : MeetOk mt := by
  intro p c d hc hd hn
  have hq : (meet p c d).q ≠ 0 ∧ ((val p c < 0 ∧ 0 < val p d) ∨ (0 < val p c ∧ val p d < 0)) := by
    show val p d * c.q - val p c * d.q ≠ 0 ∧ _
    have pc := hc.pos
    have pd := hd.pos
    by_cases h : val p c < 0
    · have : 0 < val p d := by
        refine Classical.byContradiction fun g => ?_
        have := Int.mul_nonneg_of_nonpos_of_nonpos (Int.le_of_lt h) (by omega : val p d ≤ 0)
        omega
      have n1 := Int.mul_pos this pc
      have n2 := Int.mul_neg_of_neg_of_pos h pd
      exact ⟨by omega, .inl ⟨h, this⟩⟩
    · have h0 : val p c ≠ 0 := fun e => by rw [e, Int.zero_mul] at hn; omega
      have h1 : 0 < val p c := by omega
      have : val p d < 0 := by
        refine Classical.byContradiction fun g => ?_
        have := Int.mul_nonneg (Int.le_of_lt h1) (by omega : 0 ≤ val p d)
        omega
      have n1 := Int.mul_neg_of_neg_of_pos this pc
      have n2 := Int.mul_pos h1 pd
      exact ⟨by omega, .inr ⟨h1, this⟩⟩
  obtain ⟨hq, sg⟩ := hq
  have pn := partT_nz hq
  have lv := lowT_val hq
  refine ⟨lowT_low hq, ?_, ?_⟩
  · -- the sign of the part is that of q
    have ps : 0 < partT (meet p c d) * (meet p c d).q := by
      have hg := gT_pos hq
      unfold partT
      split
      · exact Int.mul_pos_of_neg_of_neg (by omega) (by assumption)
      · exact Int.mul_pos hg (by omega)
    have mv : ∀ t, val t (meet p c d) = val p d * val t c - val p c * val t d := fun t => by unfold meet val; grind
    rcases sg with ⟨s1, s2⟩ | ⟨s1, s2⟩
    · have qp : 0 < (meet p c d).q := by
        show 0 < val p d * c.q - val p c * d.q
        have n1 := Int.mul_pos s2 hc.pos
        have n2 := Int.mul_neg_of_neg_of_pos s1 hd.pos
        omega
      have pp : 0 < partT (meet p c d) := by
        have hg := gT_pos hq
        unfold partT
        rw [if_neg (by omega)]
        exact hg
      exact ⟨val p d, - val p c, partT (meet p c d), s2, by omega, pp, fun t => by rw [show mt p c d = lowT (meet p c d) from rfl, lv t, mv t]; grind⟩
    · have qp : (meet p c d).q < 0 := by
        show val p d * c.q - val p c * d.q < 0
        have n1 := Int.mul_neg_of_neg_of_pos s2 hc.pos
        have n2 := Int.mul_pos s1 hd.pos
        omega
      have pp : partT (meet p c d) < 0 := by
        have hg := gT_pos hq
        unfold partT
        rw [if_pos (by omega)]
        omega
      exact ⟨- val p d, val p c, - partT (meet p c d), by omega, s1, by omega, fun t => by have := lv t; rw [mv t] at this; show -partT (meet p c d) * val t (lowT (meet p c d)) = _; grind⟩
  · have := lv p
    rw [meet_val] at this
    rcases Int.mul_eq_zero.mp this with g | g
    · exact absurd g pn
    · exact g
/-- where two planes meet -/
def crs (s t : T3) : T3 := ⟨cross s t, s.y * t.q - t.y * s.q, t.x * s.q - s.x * t.q⟩
theorem crs_val (s t : T3) : val s (crs s t) = 0 ∧ val t (crs s t) = 0 := by unfold crs cross val; constructor <;> grind
theorem crs_swap (s t : T3) (h : cross s t ≠ 0) : lowT (crs t s) = lowT (crs s t) := by
  have h' : cross t s ≠ 0 := by
    have : cross t s = - cross s t := by unfold cross; grind
    omega
  refine low_eq (lowT_low h') (lowT_low h) ?_
  refine same_of_two h ?_ ?_ ?_ ?_
  · have := lowT_val (a := crs t s) h' s
    rw [(crs_val t s).2] at this
    exact (Int.mul_eq_zero.mp this).resolve_left (partT_nz (a := crs t s) h')
  · have := lowT_val (a := crs t s) h' t
    rw [(crs_val t s).1] at this
    exact (Int.mul_eq_zero.mp this).resolve_left (partT_nz (a := crs t s) h')
  · have := lowT_val (a := crs s t) h s
    rw [(crs_val s t).1] at this
    exact (Int.mul_eq_zero.mp this).resolve_left (partT_nz (a := crs s t) h)
  · have := lowT_val (a := crs s t) h t
    rw [(crs_val s t).2] at this
    exact (Int.mul_eq_zero.mp this).resolve_left (partT_nz (a := crs s t) h)
theorem crs_zero {s t : T3} (h : cross s t ≠ 0) : val s (lowT (crs s t)) = 0 ∧ val t (lowT (crs s t)) = 0 := by
  constructor
  · have := lowT_val (a := crs s t) h s
    rw [(crs_val s t).1] at this
    exact (Int.mul_eq_zero.mp this).resolve_left (partT_nz (a := crs s t) h)
  · have := lowT_val (a := crs s t) h t
    rw [(crs_val s t).2] at this
    exact (Int.mul_eq_zero.mp this).resolve_left (partT_nz (a := crs s t) h)
/-- a corner in lowest terms is where two of the planes meet -/
theorem vert_crs {S : List T3} {X : T3} (hl : Low X) (hv : Vert S X) : ∃ s ∈ S, ∃ t ∈ S, cross s t ≠ 0 ∧ X = lowT (crs s t) := by
  obtain ⟨s, hs, t, ht, h1, h2, hx⟩ := hv.two
  refine ⟨s, hs, t, ht, hx, low_eq hl (lowT_low hx) ?_⟩
  exact same_of_two hx h1 h2 (crs_zero hx).1 (crs_zero hx).2
theorem crs_vert {S : List T3} {s t : T3} (hs : s ∈ S) (ht : t ∈ S) (hx : cross s t ≠ 0) (hS : Sat S (lowT (crs s t))) : Vert S (lowT (crs s t)) :=
  ⟨(lowT_low hx).pos, hS, s, hs, t, ht, (crs_zero hx).1, (crs_zero hx).2, hx⟩
/-- planes and points that are not great -/
def Box (s : T3) : Prop := s.q.natAbs ≤ 200 ∧ s.x.natAbs ≤ 8 ∧ s.y.natAbs ≤ 8
def Wee (a : T3) : Prop := a.q.natAbs < 4096 ∧ a.x.natAbs < 4096 ∧ a.y.natAbs < 4096
theorem mul_le2 {a b : Int} {m n : Nat} (h1 : a.natAbs ≤ m) (h2 : b.natAbs ≤ n) : (a * b).natAbs ≤ m * n := by
  rw [Int.natAbs_mul]; exact Nat.mul_le_mul h1 h2
theorem lowT_le {a : T3} (h : a.q ≠ 0) : (lowT a).q.natAbs ≤ a.q.natAbs ∧ (lowT a).x.natAbs ≤ a.x.natAbs ∧ (lowT a).y.natAbs ≤ a.y.natAbs := by
  obtain ⟨h1, h2, h3⟩ := lowT_mul h
  have np : 1 ≤ (partT a).natAbs := by have := partT_nz h; omega
  have e1 : a.q.natAbs = (partT a).natAbs * (lowT a).q.natAbs := by rw [← Int.natAbs_mul, h1]
  have e2 : a.x.natAbs = (partT a).natAbs * (lowT a).x.natAbs := by rw [← Int.natAbs_mul, h2]
  have e3 : a.y.natAbs = (partT a).natAbs * (lowT a).y.natAbs := by rw [← Int.natAbs_mul, h3]
  refine ⟨?_, ?_, ?_⟩
  · rw [e1]; exact Nat.le_mul_of_pos_left _ np
  · rw [e2]; exact Nat.le_mul_of_pos_left _ np
  · rw [e3]; exact Nat.le_mul_of_pos_left _ np
theorem wee_crs {s t : T3} (hs : Box s) (ht : Box t) (hx : cross s t ≠ 0) : Wee (lowT (crs s t)) := by
  obtain ⟨h1, h2, h3⟩ := lowT_le (a := crs s t) hx
  obtain ⟨a1, a2, a3⟩ := hs
  obtain ⟨b1, b2, b3⟩ := ht
  have k1 : (crs s t).q.natAbs ≤ 128 := by
    have m1 := mul_le2 a2 b3
    have m2 := mul_le2 a3 b2
    show (s.x * t.y - s.y * t.x).natAbs ≤ 128
    omega
  have k2 : (crs s t).x.natAbs ≤ 3200 := by
    have m1 := mul_le2 a3 b1
    have m2 := mul_le2 b3 a1
    show (s.y * t.q - t.y * s.q).natAbs ≤ 3200
    omega
  have k3 : (crs s t).y.natAbs ≤ 3200 := by
    have m1 := mul_le2 b2 a1
    have m2 := mul_le2 a2 b1
    show (t.x * s.q - s.x * t.q).natAbs ≤ 3200
    omega
  exact ⟨by omega, by omega, by omega⟩
theorem wee_vert {S : List T3} (hS : ∀ s ∈ S, Box s) {X : T3} (hl : Low X) (hv : Vert S X) : Wee X := by
  obtain ⟨s, hs, t, ht, hx, e⟩ := vert_crs hl hv
  rw [e]
  exact wee_crs (hS s hs) (hS t ht) hx
end Geo
/-! L3: data without addresses, over the hand layer -/
namespace L3
open PySem PySem.Spec PyProof.Rows L2

/-- what a value is, without addresses; pen: the one list that draws -/
inductive D where
  | non | bl (b : Bool) | int (i : Int) | str (x : Str) | ty (n : String) | pen
  | lst (xs : List D) | tup (xs : List D)
  | dT (kvs : List (List Key × D))
  | exc (C : Addr) (fs : List (Str × D))

mutual
/-- plain data; what is none has a dict in it -/
def D.py : D → PyData
  | .non => .none
  | .bl b => .bool b
  | .int i => .int i
  | .str x => .str x
  | .lst xs => .list (pyA xs)
  | .tup xs => .tuple (pyA xs)
  | .ty _ => .dict []
  | .pen => .dict []
  | .dT _ => .dict []
  | .exc _ _ => .dict []
def pyA : List D → List PyData
  | [] => []
  | d :: r => d.py :: pyA r
end

mutual
/-- v is d over the heap H -/
inductive Rep (pn : Option Addr) (H : Hp) : V → D → Prop
  | non : Rep pn H .non .non
  | bl (b : Bool) : Rep pn H (.bl b) (.bl b)
  | int (i : Int) : Rep pn H (.int i) (.int i)
  | str (x : Str) : Rep pn H (.str x) (.str x)
  | ty (n : String) : Rep pn H (.ty n) (.ty n)
  | pen {p : Addr} : pn = some p → Rep pn H (.ref p) .pen
  | lst {a : Addr} {vs : List V} {ds : List D} : H a = some (.lst vs) → RepA pn H vs ds → Rep pn H (.ref a) (.lst ds)
  | tup {a : Addr} {vs : List V} {ds : List D} : H a = some (.tup vs) → RepA pn H vs ds → Rep pn H (.ref a) (.tup ds)
  | dT {a : Addr} {kvs : List (List Key × V)} {kds : List (List Key × D)} : H a = some (.dT kvs) → RepK pn H kvs kds → Rep pn H (.ref a) (.dT kds)
inductive RepA (pn : Option Addr) (H : Hp) : List V → List D → Prop
  | nil : RepA pn H [] []
  | cons {v : V} {vs : List V} {d : D} {ds : List D} : Rep pn H v d → RepA pn H vs ds → RepA pn H (v :: vs) (d :: ds)
inductive RepK (pn : Option Addr) (H : Hp) : List (List Key × V) → List (List Key × D) → Prop
  | nil : RepK pn H [] []
  | cons {k : List Key} {v : V} {vs : List (List Key × V)} {d : D} {ds : List (List Key × D)} : Rep pn H v d → RepK pn H vs ds → RepK pn H ((k, v) :: vs) ((k, d) :: ds)
end

section
variable {pn : Option Addr} {H H' : Hp}
mutual
theorem Rep.mono (e : Same H H') : ∀ {v : V} {d : D}, Rep pn H v d → Rep pn H' v d
  | _, _, .non => .non
  | _, _, .bl b => .bl b
  | _, _, .int i => .int i
  | _, _, .str x => .str x
  | _, _, .ty n => .ty n
  | _, _, .pen h => .pen h
  | _, _, .lst h r => .lst (e _ _ h) (RepA.mono e r)
  | _, _, .tup h r => .tup (e _ _ h) (RepA.mono e r)
  | _, _, .dT h r => .dT (e _ _ h) (RepK.mono e r)
theorem RepA.mono (e : Same H H') : ∀ {v : List V} {d : List D}, RepA pn H v d → RepA pn H' v d
  | _, _, .nil => .nil
  | _, _, .cons h r => .cons (Rep.mono e h) (RepA.mono e r)
theorem RepK.mono (e : Same H H') : ∀ {v : List (List Key × V)} {d : List (List Key × D)}, RepK pn H v d → RepK pn H' v d
  | _, _, .nil => .nil
  | _, _, .cons h r => .cons (Rep.mono e h) (RepK.mono e r)
end

theorem RepA.length : ∀ {vs : List V} {ds : List D}, RepA pn H vs ds → vs.length = ds.length
  | _, _, .nil => rfl
  | _, _, .cons _ r => by rw [List.length_cons, List.length_cons, r.length]
theorem RepA.get : ∀ {vs : List V} {ds : List D}, RepA pn H vs ds → ∀ {i : Nat} {d : D}, ds[i]? = some d → ∃ v, vs[i]? = some v ∧ Rep pn H v d
  | _, _, .nil, _, _, e => by simp at e
  | _, _, .cons h _, 0, _, e => by simp at e; subst e; exact ⟨_, rfl, h⟩
  | _, _, .cons _ r, i + 1, d, e => by
    obtain ⟨v, h1, h2⟩ := r.get (i := i) (d := d) (by simpa using e)
    exact ⟨v, by simpa using h1, h2⟩
theorem RepA.getV : ∀ {vs : List V} {ds : List D}, RepA pn H vs ds → ∀ {i : Nat} {v : V}, vs[i]? = some v → ∃ d, ds[i]? = some d ∧ Rep pn H v d
  | _, _, .nil, _, _, e => by simp at e
  | _, _, .cons h _, 0, _, e => by simp at e; subst e; exact ⟨_, rfl, h⟩
  | _, _, .cons _ r, i + 1, d, e => by
    obtain ⟨v, h1, h2⟩ := r.getV (i := i) (v := d) (by simpa using e)
    exact ⟨v, by simpa using h1, h2⟩
theorem RepA.append : ∀ {vs ws : List V} {ds es : List D}, RepA pn H vs ds → RepA pn H ws es → RepA pn H (vs ++ ws) (ds ++ es)
  | _, _, _, _, .nil, q => q
  | _, _, _, _, .cons h r, q => .cons h (r.append q)
theorem RepA.take : ∀ {vs : List V} {ds : List D} (n : Nat), RepA pn H vs ds → RepA pn H (vs.take n) (ds.take n)
  | _, _, 0, _ => .nil
  | _, _, _ + 1, .nil => .nil
  | _, _, n + 1, .cons h r => .cons h (r.take n)
theorem RepA.drop : ∀ {vs : List V} {ds : List D} (n : Nat), RepA pn H vs ds → RepA pn H (vs.drop n) (ds.drop n)
  | _, _, 0, r => r
  | _, _, _ + 1, .nil => .nil
  | _, _, n + 1, .cons _ r => r.drop n
theorem RepA.erase : ∀ {vs : List V} {ds : List D} (n : Nat), RepA pn H vs ds → RepA pn H (vs.eraseIdx n) (ds.eraseIdx n)
  | _, _, _, .nil => .nil
  | _, _, 0, .cons _ r => r
  | _, _, n + 1, .cons h r => .cons h (r.erase n)
theorem RepA.setI {v : V} {d : D} (q : Rep pn H v d) : ∀ {vs : List V} {ds : List D} (n : Nat), RepA pn H vs ds → RepA pn H (vs.set n v) (ds.set n d)
  | _, _, _, .nil => .nil
  | _, _, 0, .cons _ r => .cons q r
  | _, _, n + 1, .cons h r => .cons h (r.setI q n)
theorem RepA.rep {vs : List V} {ds : List D} (r : RepA pn H vs ds) : ∀ n : Nat, RepA pn H (List.replicate n vs).flatten (List.replicate n ds).flatten
  | 0 => .nil
  | n + 1 => by
    rw [List.replicate_succ, List.replicate_succ, List.flatten_cons, List.flatten_cons]
    exact r.append (r.rep n)
theorem RepA.ints : ∀ (ns : List Int), RepA pn H (ns.map V.int) (ns.map D.int)
  | [] => .nil
  | n :: r => .cons (.int n) (RepA.ints r)
theorem RepA.ints_of : ∀ {ns : List Int} {vs : List V}, RepA pn H vs (ns.map D.int) → vs = ns.map V.int
  | [], _, .nil => rfl
  | n :: r, _, .cons h q => by
    cases h
    rw [List.map_cons, RepA.ints_of q]
theorem RepA.bls_of : ∀ {ns : List Bool} {vs : List V}, RepA pn H vs (ns.map D.bl) → vs = ns.map V.bl
  | [], _, .nil => rfl
  | n :: r, _, .cons h q => by
    cases h
    rw [List.map_cons, RepA.bls_of q]
theorem RepA.strs_of : ∀ {ns : List Str} {vs : List V}, RepA pn H vs (ns.map D.str) → vs = ns.map V.str
  | [], _, .nil => rfl
  | n :: r, _, .cons h q => by
    cases h
    rw [List.map_cons, RepA.strs_of q]
/-- plain data, told to the layer below -/
theorem canLay_list {xs : List PyData} (h : (PyData.list xs).canLay0 = true) : PyData.canLayAll0 xs = true := by simpa [PyData.canLay0] using h
theorem canLay_tuple {xs : List PyData} (h : (PyData.tuple xs).canLay0 = true) : PyData.canLayAll0 xs = true := by simpa [PyData.canLay0] using h
theorem canLay_dict {kvs : List (PyData × PyData)} (h : (PyData.dict kvs).canLay0 = true) : False := by simp [PyData.canLay0] at h
theorem canLay_cons {x : PyData} {xs : List PyData} (h : PyData.canLayAll0 (x :: xs) = true) : x.canLay0 = true ∧ PyData.canLayAll0 xs = true := by simpa [PyData.canLayAll0] using h
variable {K : PySem.W.Frag}
mutual
theorem Rep.dp : ∀ {v : V} {d : D}, Rep pn H v d → d.py.canLay0 = true → Dp K H v d.py
  | _, _, .non, _ => .non
  | _, _, .bl b, _ => .bl b
  | _, _, .int i, _ => .int i
  | _, _, .str x, _ => .str x
  | _, _, .ty n, h => (canLay_dict h).elim
  | _, _, .pen _, h => (canLay_dict h).elim
  | _, _, .lst h r, q => .lst (SqL.of h) (RepA.dp r (canLay_list q))
  | _, _, .tup h r, q => .tup (SqT.of h) (RepA.dp r (canLay_tuple q))
  | _, _, .dT h r, q => (canLay_dict q).elim
theorem RepA.dp : ∀ {v : List V} {d : List D}, RepA pn H v d → PyData.canLayAll0 (pyA d) = true → DpAll K H v (pyA d)
  | _, _, .nil, _ => .nil
  | _, _, .cons h r, q => .cons (Rep.dp h (canLay_cons q).1) (RepA.dp r (canLay_cons q).2)
end
end

/-! ### what a frame knows -/
/-- a name: nothing known | a datum | a list or dict of the frame's own, not shared -/
inductive Slot where
  | un | val (d : D) | own (d : D)
structure Env3 where
  sl : List Slot
  T : Nat
/-- the entry: all that is tracked, the known data, the pen -/
structure Ent where
  Hf : Hp
  H0 : Hp
  pn : Option Addr
  ad : Option Addr := none
def Own (pn : Option Addr) (H0 H : Hp) (l : Addr) : D → Prop
  | .lst ds => ∃ vs, H l = some (.lst vs) ∧ RepA pn H0 vs ds
  | .dT kds => ∃ kvs, H l = some (.dT kvs) ∧ RepK pn H0 kvs kds
  | _ => False
def SlotOk (G : Ent) (H0 H : Hp) : Option Slot → Option (Option V) → Prop
  | some (.val d), v => ∃ x, v = some (some x) ∧ Rep G.pn H0 x d
  | some (.own d), v => ∃ l, v = some (some (.ref l)) ∧ Own G.pn H0 H l d ∧ H0 l = none ∧ G.Hf l = none ∧ G.pn ≠ some l
  | _, _ => True
def PenAt (H0 H : Hp) (T : Nat) (p : Addr) : Prop :=
  H0 p = none ∧ ∃ (c : Addr) (cs : List Int) (t r : Int), H p = some (.lst [.ref c, .int t, .int r]) ∧ H0 c = some (.lst (cs.map V.int)) ∧ cs.length ≤ 63 ∧ 0 ≤ t ∧ t ≤ (T : Int) ∧ 0 ≤ r
def OwnS (ρ : Env3) (σ : L2.St) (i : Nat) (l : Addr) : Prop := (∃ d, ρ.sl[i]? = some (.own d)) ∧ σ[i]? = some (some (.ref l))
/-- where the first name's own list stands, if that is said -/
def Fix (G : Ent) (ρ : Env3) (σ : L2.St) : Prop := ∀ l, G.ad = some l → (∃ d, ρ.sl[0]? = some (.own d)) → σ[0]? = some (some (.ref l))
structure Rel (G : Ent) (H0 : Hp) (ρ : Env3) (σ : L2.St) (H : Hp) : Prop where
  ex : Same H0 H
  ex0 : Same G.H0 H0
  keep : ∀ a o, G.Hf a = some o → G.pn ≠ some a → H a = some o
  new : ∀ a o, H0 a = some o → (∃ u, G.H0 a = some u) ∨ G.Hf a = none ∨ ∃ xs, o = .tup xs
  len : σ.length = ρ.sl.length
  slot : ∀ i : Nat, SlotOk G H0 H ρ.sl[i]? σ[i]?
  own : ∀ (i j : Nat) (l : Addr), OwnS ρ σ i l → OwnS ρ σ j l → i = j
  pen : ∀ p, G.pn = some p → PenAt H0 H ρ.T p
  fix : Fix G ρ σ

def Env3.put (ρ : Env3) (i : Nat) (s : Slot) : Env3 := ⟨ρ.sl.set i s, ρ.T⟩
/-- a name read as a datum: what was the frame's own is shared from now on -/
def Env3.rd (ρ : Env3) (i : Nat) : Option (D × Env3) :=
  match ρ.sl[i]? with
  | some (.val d) => some (d, ρ)
  | some (.own d) => some (d, ρ.put i (.val d))
  | _ => none

theorem Fix.put {G : Ent} {ρ : Env3} {σ σ' : L2.St} {i : Nat} {s : Slot} (h : Fix G ρ σ) (hs : ∀ d, s ≠ .own d) (hσ : ∀ j, j ≠ i → σ'[j]? = σ[j]?) : Fix G (ρ.put i s) σ' := fun l hl ⟨d, q⟩ => by
  have q : (ρ.sl.set i s)[0]? = some (.own d) := q
  by_cases hi : 0 = i
  · subst hi
    by_cases hlt : 0 < ρ.sl.length
    · rw [List.getElem?_set_self hlt] at q
      exact (hs d (Option.some.inj q)).elim
    · rw [List.getElem?_eq_none_iff.mpr (by rw [List.length_set]; omega)] at q
      cases q
  · rw [List.getElem?_set_ne (Ne.symm hi)] at q
    rw [hσ 0 hi]
    exact h l hl ⟨d, q⟩
theorem set_off {σ : L2.St} {i : Nat} {x : Option V} : ∀ j, j ≠ i → (σ.set i x)[j]? = σ[j]? := fun j hj => by rw [List.getElem?_set_ne (Ne.symm hj)]
theorem Fix.putOwn {G : Ent} {ρ : Env3} {σ σ' : L2.St} {i : Nat} {s : Slot} (h : Fix G ρ σ) (hi : i ≠ 0) (hσ : ∀ j, j ≠ i → σ'[j]? = σ[j]?) : Fix G (ρ.put i s) σ' := fun l hl ⟨d, q⟩ => by
  have q : (ρ.sl.set i s)[0]? = some (.own d) := q
  rw [List.getElem?_set_ne hi] at q
  rw [hσ 0 (Ne.symm hi)]
  exact h l hl ⟨d, q⟩
theorem Fix.chg {G : Ent} {ρ : Env3} {σ : L2.St} {i : Nat} {s : Slot} {d : D} (h : Fix G ρ σ) (e : ρ.sl[i]? = some (.own d)) : Fix G (ρ.put i s) σ := fun l hl ⟨d', q⟩ => by
  by_cases hi : i = 0
  · subst hi
    exact h l hl ⟨d, e⟩
  · exact Fix.putOwn h hi (fun _ _ => rfl) l hl ⟨d', q⟩
section
variable {G : Ent} {H0 H : Hp} {ρ : Env3} {σ : L2.St}
theorem Own.mono {pn : Option Addr} {H0 H0' H H' : Hp} {l : Addr} {d : D} (h : Own pn H0 H l d) (e : Same H0 H0') (k : H' l = H l) : Own pn H0' H' l d := by
  cases d with
  | lst ds => obtain ⟨vs, h1, h2⟩ := h; exact ⟨vs, k.trans h1, h2.mono e⟩
  | dT ds => obtain ⟨vs, h1, h2⟩ := h; exact ⟨vs, k.trans h1, h2.mono e⟩
  | _ => exact h.elim
theorem Own.there {pn : Option Addr} {H0 H : Hp} {l : Addr} {d : D} (h : Own pn H0 H l d) : ∃ o, H l = some o := by
  cases d with
  | lst ds => obtain ⟨vs, h1, h2⟩ := h; exact ⟨_, h1⟩
  | dT ds => obtain ⟨vs, h1, h2⟩ := h; exact ⟨_, h1⟩
  | _ => exact h.elim
theorem Rel.val (R : Rel G H0 ρ σ H) {i : Nat} {d : D} (e : ρ.sl[i]? = some (.val d)) : ∃ x, σ[i]? = some (some x) ∧ Rep G.pn H0 x d := by
  have h := R.slot i
  rw [e] at h
  exact h
theorem Rel.owned (R : Rel G H0 ρ σ H) {i : Nat} {d : D} (e : ρ.sl[i]? = some (.own d)) : ∃ l, σ[i]? = some (some (.ref l)) ∧ Own G.pn H0 H l d ∧ H0 l = none ∧ G.Hf l = none ∧ G.pn ≠ some l := by
  have h := R.slot i
  rw [e] at h
  exact h
theorem Rel.noHf (R : Rel G H0 ρ σ H) {p : Addr} (hp : H p = none) : G.Hf p = none ∧ G.pn ≠ some p := by
  have hn : G.pn ≠ some p := fun z => by
    obtain ⟨_, c, cs, t, r, h, _⟩ := R.pen p z
    rw [hp] at h
    cases h
  refine ⟨?_, hn⟩
  cases e : G.Hf p with
  | none => rfl
  | some o =>
    have := R.keep p o e hn
    rw [hp] at this
    cases this
/-- a new object, perhaps known from now on -/
theorem Rel.grow (R : Rel G H0 ρ σ H) {p : Addr} {o : HO} (hp : H p = none) : Rel G (upd H0 p o) ρ σ (upd H p o) := by
  have nf := R.noHf hp
  have n0 : ∀ a u, H0 a = some u → a ≠ p := fun a u e => ne_of_none (R.ex a u e) hp
  have s0 : Same H0 (upd H0 p o) := fun a u e => by rw [upd_ne (n0 a u e)]; exact e
  have h0 : H0 p = none := by
    cases e : H0 p with
    | none => rfl
    | some u => exact absurd rfl (n0 p u e)
  refine ⟨fun a u e => ?_, fun a u e => s0 a u (R.ex0 a u e), fun a u e hn => ?_, fun a u e => ?_, R.len, fun i => ?_, R.own, fun q hq => ?_, R.fix⟩
  · by_cases h : a = p
    · subst h; rw [upd_same] at e ⊢; exact e
    · rw [upd_ne h] at e ⊢; exact R.ex a u e
  · rw [upd_ne (ne_of_none (R.keep a u e hn) hp)]; exact R.keep a u e hn
  · by_cases h : a = p
    · subst h; exact .inr (.inl nf.1)
    · rw [upd_ne h] at e; exact R.new a u e
  · have h := R.slot i
    cases e : ρ.sl[i]? with
    | none => exact True.intro
    | some s =>
      rw [e] at h
      cases s with
      | un => exact True.intro
      | val d => obtain ⟨x, h1, h2⟩ := h; exact ⟨x, h1, h2.mono s0⟩
      | own d =>
        obtain ⟨l, h1, h2, h3, h4, h5⟩ := h
        obtain ⟨u, hu⟩ := h2.there
        have hl : l ≠ p := ne_of_none hu hp
        exact ⟨l, h1, h2.mono s0 (upd_ne hl), by rw [upd_ne hl]; exact h3, h4, h5⟩
  · obtain ⟨h1, c, cs, t, r, h2, h3, h4⟩ := R.pen q hq
    have hq' : q ≠ p := ne_of_none h2 hp
    exact ⟨by rw [upd_ne hq']; exact h1, c, cs, t, r, by rw [upd_ne hq']; exact h2, s0 _ _ h3, h4⟩
/-- .. known to nobody -/
theorem Rel.grow' (R : Rel G H0 ρ σ H) {p : Addr} {o : HO} (hp : H p = none) : Rel G H0 ρ σ (upd H p o) := by
  have sp : ∀ {a u}, H a = some u → a ≠ p := fun e => ne_of_none e hp
  refine ⟨fun a u e => by rw [upd_ne (sp (R.ex a u e))]; exact R.ex a u e, R.ex0, fun a u e hn => by rw [upd_ne (sp (R.keep a u e hn))]; exact R.keep a u e hn, R.new, R.len, fun i => ?_, R.own, fun q hq => ?_, R.fix⟩
  · have h := R.slot i
    cases e : ρ.sl[i]? with
    | none => exact True.intro
    | some s =>
      rw [e] at h
      cases s with
      | un => exact True.intro
      | val d => exact h
      | own d =>
        obtain ⟨l, h1, h2, h3, h4, h5⟩ := h
        obtain ⟨u, hu⟩ := h2.there
        exact ⟨l, h1, h2.mono (Same.refl _) (upd_ne (sp hu)), h3, h4, h5⟩
  · obtain ⟨h1, c, cs, t, r, h2, h3, h4⟩ := R.pen q hq
    exact ⟨h1, c, cs, t, r, by rw [upd_ne (sp h2)]; exact h2, h3, h4⟩
/-- a known thing more: one that was the frame's own -/
theorem Rel.know (R : Rel G H0 ρ σ H) {i : Nat} {d : D} (e : ρ.sl[i]? = some (.own d)) : ∃ l H0', σ[i]? = some (some (.ref l)) ∧ Same H0 H0' ∧ Rep G.pn H0' (.ref l) d ∧ Rel G H0' (ρ.put i (.val d)) σ H := by
  obtain ⟨l, h1, h2, h3, h4, h5⟩ := R.owned e
  obtain ⟨o, ho⟩ := h2.there
  have n0 : ∀ a u, H0 a = some u → a ≠ l := fun a u z => ne_of_none z h3
  have s0 : Same H0 (upd H0 l o) := fun a u z => by rw [upd_ne (n0 a u z)]; exact z
  have hrep : Rep G.pn (upd H0 l o) (.ref l) d := by
    cases d with
    | lst ds =>
      obtain ⟨vs, q1, q2⟩ := h2
      rw [q1] at ho
      cases ho
      exact .lst upd_same (q2.mono s0)
    | dT ds =>
      obtain ⟨vs, q1, q2⟩ := h2
      rw [q1] at ho
      cases ho
      exact .dT upd_same (q2.mono s0)
    | _ => exact h2.elim
  have hi : i < ρ.sl.length := (List.getElem?_eq_some_iff.mp e).1
  refine ⟨l, upd H0 l o, h1, s0, hrep, fun a u z => ?_, fun a u z => s0 a u (R.ex0 a u z), R.keep, fun a u z => ?_, ?_, fun j => ?_, fun j k m x y => ?_, fun q hq => ?_, R.fix.put (fun _ z => nomatch z) fun _ _ => rfl⟩
  · by_cases h : a = l
    · subst h; rw [upd_same] at z; rw [ho]; exact z
    · rw [upd_ne h] at z; exact R.ex a u z
  · by_cases h : a = l
    · subst h; exact .inr (.inl h4)
    · rw [upd_ne h] at z; exact R.new a u z
  · show σ.length = (ρ.sl.set i _).length
    rw [List.length_set]; exact R.len
  · by_cases hj : j = i
    · subst hj
      show SlotOk G _ H (ρ.sl.set j (.val d))[j]? _
      rw [List.getElem?_set_self hi]
      exact ⟨_, h1, hrep⟩
    · show SlotOk G _ H (ρ.sl.set i (.val d))[j]? _
      rw [List.getElem?_set_ne (Ne.symm hj)]
      have h := R.slot j
      cases ej : ρ.sl[j]? with
      | none => exact True.intro
      | some s =>
        rw [ej] at h
        cases s with
        | un => exact True.intro
        | val d => obtain ⟨x, q1, q2⟩ := h; exact ⟨x, q1, q2.mono s0⟩
        | own d' =>
          obtain ⟨m, q1, q2, q3, q4, q5⟩ := h
          have hm : m ≠ l := fun z => by
            subst z
            exact hj (R.own j i m ⟨⟨_, ej⟩, q1⟩ ⟨⟨_, e⟩, h1⟩)
          exact ⟨m, q1, q2.mono s0 rfl, by rw [upd_ne hm]; exact q3, q4, q5⟩
  · have ob : ∀ j, OwnS (ρ.put i (.val d)) σ j m → OwnS ρ σ j m := fun j ⟨⟨d', q⟩, q2⟩ => by
      refine ⟨?_, q2⟩
      have q : (ρ.sl.set i (.val d))[j]? = some (.own d') := q
      by_cases hj : j = i
      · subst hj; rw [List.getElem?_set_self hi] at q; cases q
      · rw [List.getElem?_set_ne (Ne.symm hj)] at q; exact ⟨_, q⟩
    exact R.own j k m (ob j x) (ob k y)
  · obtain ⟨q1, c, cs, t, r, q2, q3, q4⟩ := R.pen q hq
    have hql : q ≠ l := fun z => h5 (by rw [← z]; exact hq)
    exact ⟨by rw [upd_ne hql]; exact q1, c, cs, t, r, q2, s0 _ _ q3, q4⟩
/-- a name read -/
theorem Rel.rd (R : Rel G H0 ρ σ H) {i : Nat} {d : D} {ρ' : Env3} (e : ρ.rd i = some (d, ρ')) : ∃ x H0', σ[i]? = some (some x) ∧ Same H0 H0' ∧ Rep G.pn H0' x d ∧ Rel G H0' ρ' σ H := by
  unfold Env3.rd at e
  split at e
  · rename_i d' h
    cases e
    obtain ⟨x, h1, h2⟩ := R.val h
    exact ⟨x, H0, h1, Same.refl _, h2, R⟩
  · rename_i d' h
    cases e
    obtain ⟨l, H0', h1, h2, h3, h4⟩ := R.know h
    exact ⟨_, H0', h1, h2, h3, h4⟩
  · cases e
/-- a name stored -/
theorem Rel.put (R : Rel G H0 ρ σ H) {i : Nat} {x : V} {d : D} (h : Rep G.pn H0 x d) (hi : i < ρ.sl.length) : Rel G H0 (ρ.put i (.val d)) (σ.set i (some x)) H := by
  have hi' : i < σ.length := by rw [R.len]; exact hi
  refine ⟨R.ex, R.ex0, R.keep, R.new, ?_, fun j => ?_, fun j k m a b => ?_, R.pen, R.fix.put (fun _ z => nomatch z) set_off⟩
  · show (σ.set i _).length = (ρ.sl.set i _).length
    rw [List.length_set, List.length_set]; exact R.len
  · by_cases hj : j = i
    · subst hj
      show SlotOk G _ H (ρ.sl.set j (.val d))[j]? (σ.set j (some x))[j]?
      rw [List.getElem?_set_self hi, List.getElem?_set_self hi']
      exact ⟨_, rfl, h⟩
    · show SlotOk G _ H (ρ.sl.set i (.val d))[j]? (σ.set i (some x))[j]?
      rw [List.getElem?_set_ne (Ne.symm hj), List.getElem?_set_ne (Ne.symm hj)]
      exact R.slot j
  · have ob : ∀ j, OwnS (ρ.put i (.val d)) (σ.set i (some x)) j m → OwnS ρ σ j m := fun j ⟨⟨d', q⟩, q2⟩ => by
      have q : (ρ.sl.set i (.val d))[j]? = some (.own d') := q
      by_cases hj : j = i
      · subst hj; rw [List.getElem?_set_self hi] at q; cases q
      · rw [List.getElem?_set_ne (Ne.symm hj)] at q q2; exact ⟨⟨_, q⟩, q2⟩
    exact R.own j k m (ob j a) (ob k b)
/-- a name forgotten -/
theorem Rel.drop (R : Rel G H0 ρ σ H) (i : Nat) (x : Option V) : Rel G H0 (ρ.put i .un) (σ.set i x) H := by
  refine ⟨R.ex, R.ex0, R.keep, R.new, ?_, fun j => ?_, fun j k m a b => ?_, R.pen, R.fix.put (fun _ z => nomatch z) set_off⟩
  · show (σ.set i _).length = (ρ.sl.set i _).length
    rw [List.length_set, List.length_set]; exact R.len
  · by_cases hj : j = i
    · subst hj
      show SlotOk G _ H (ρ.sl.set j .un)[j]? (σ.set j x)[j]?
      by_cases hi : j < ρ.sl.length
      · rw [List.getElem?_set_self hi]; exact True.intro
      · rw [List.getElem?_eq_none_iff.mpr (by rw [List.length_set]; omega)]; exact True.intro
    · show SlotOk G _ H (ρ.sl.set i .un)[j]? (σ.set i x)[j]?
      rw [List.getElem?_set_ne (Ne.symm hj), List.getElem?_set_ne (Ne.symm hj)]
      exact R.slot j
  · have ob : ∀ j, OwnS (ρ.put i .un) (σ.set i x) j m → OwnS ρ σ j m := fun j ⟨⟨d', q⟩, q2⟩ => by
      have q : (ρ.sl.set i .un)[j]? = some (.own d') := q
      by_cases hj : j = i
      · subst hj
        have hi : j < ρ.sl.length := by
          have := (List.getElem?_eq_some_iff.mp q).1
          rw [List.length_set] at this; exact this
        rw [List.getElem?_set_self hi] at q; cases q
      · rw [List.getElem?_set_ne (Ne.symm hj)] at q q2; exact ⟨⟨_, q⟩, q2⟩
    exact R.own j k m (ob j a) (ob k b)
/-- a name gets a new list or dict of its own -/
theorem Rel.putOwn (R : Rel G H0 ρ σ H) {i : Nat} {l : Addr} {d : D} (h : Own G.pn H0 H l d) (h0 : H0 l = none) (hf : G.Hf l = none) (hp : G.pn ≠ some l) (hx : ∀ j, ¬ OwnS ρ σ j l) (hi : i ≠ 0 ∧ i < ρ.sl.length) : Rel G H0 (ρ.put i (.own d)) (σ.set i (some (.ref l))) H := by
  obtain ⟨hi0, hi⟩ := hi
  have hi' : i < σ.length := by rw [R.len]; exact hi
  refine ⟨R.ex, R.ex0, R.keep, R.new, ?_, fun j => ?_, fun j k m a b => ?_, R.pen, R.fix.putOwn hi0 set_off⟩
  · show (σ.set i _).length = (ρ.sl.set i _).length
    rw [List.length_set, List.length_set]; exact R.len
  · by_cases hj : j = i
    · subst hj
      show SlotOk G _ H (ρ.sl.set j (.own d))[j]? (σ.set j (some (.ref l)))[j]?
      rw [List.getElem?_set_self hi, List.getElem?_set_self hi']
      exact ⟨_, rfl, h, h0, hf, hp⟩
    · show SlotOk G _ H (ρ.sl.set i (.own d))[j]? (σ.set i (some (.ref l)))[j]?
      rw [List.getElem?_set_ne (Ne.symm hj), List.getElem?_set_ne (Ne.symm hj)]
      exact R.slot j
  · have ob : ∀ j, OwnS (ρ.put i (.own d)) (σ.set i (some (.ref l))) j m → (j = i ∧ m = l) ∨ (j ≠ i ∧ OwnS ρ σ j m) := fun j ⟨⟨d', q⟩, q2⟩ => by
      have q : (ρ.sl.set i (.own d))[j]? = some (.own d') := q
      by_cases hj : j = i
      · subst hj; rw [List.getElem?_set_self hi'] at q2; cases q2; exact .inl ⟨rfl, rfl⟩
      · rw [List.getElem?_set_ne (Ne.symm hj)] at q q2; exact .inr ⟨hj, ⟨_, q⟩, q2⟩
    rcases ob j a with ⟨rfl, rfl⟩ | ⟨n1, a'⟩
    · rcases ob k b with ⟨e, _⟩ | ⟨_, b'⟩
      · exact e.symm
      · exact (hx k b').elim
    · rcases ob k b with ⟨_, rfl⟩ | ⟨_, b'⟩
      · exact (hx j a').elim
      · exact R.own j k m a' b'
theorem Rel.fresh (R : Rel G H0 ρ σ H) {l : Addr} (h : H l = none) : ∀ j, ¬ OwnS ρ σ j l := fun j ⟨⟨d, q⟩, q2⟩ => by
  obtain ⟨m, h1, h2, _⟩ := R.owned q
  rw [q2] at h1
  cases h1
  obtain ⟨o, ho⟩ := h2.there
  rw [h] at ho
  cases ho
/-- the frame's own list changes -/
theorem Rel.chg (R : Rel G H0 ρ σ H) {i : Nat} {l : Addr} {d d' : D} {o : HO} (e : ρ.sl[i]? = some (.own d)) (hl : σ[i]? = some (some (.ref l))) (h : Own G.pn H0 (upd H l o) l d') : Rel G H0 (ρ.put i (.own d')) σ (upd H l o) := by
  obtain ⟨m, h1, h2, h3, h4, h5⟩ := R.owned e
  rw [hl] at h1
  cases h1
  have hi : i < ρ.sl.length := (List.getElem?_eq_some_iff.mp e).1
  have n0 : ∀ a u, H0 a = some u → a ≠ l := fun a u z => ne_of_none z h3
  refine ⟨fun a u z => by rw [upd_ne (n0 a u z)]; exact R.ex a u z, R.ex0, fun a u z hn => ?_, R.new, ?_, fun j => ?_, fun j k m a b => ?_, fun q hq => ?_, R.fix.chg e⟩
  · rw [upd_ne (ne_of_none z h4)]; exact R.keep a u z hn
  · show σ.length = (ρ.sl.set i _).length
    rw [List.length_set]; exact R.len
  · by_cases hj : j = i
    · subst hj
      show SlotOk G _ _ (ρ.sl.set j (.own d'))[j]? _
      rw [List.getElem?_set_self hi]
      exact ⟨_, hl, h, h3, h4, h5⟩
    · show SlotOk G _ _ (ρ.sl.set i (.own d'))[j]? _
      rw [List.getElem?_set_ne (Ne.symm hj)]
      have q := R.slot j
      cases ej : ρ.sl[j]? with
      | none => exact True.intro
      | some s =>
        rw [ej] at q
        cases s with
        | un => exact True.intro
        | val d => exact q
        | own d2 =>
          obtain ⟨m, q1, q2, q3, q4, q5⟩ := q
          have hm : m ≠ l := fun z => by
            subst z
            exact hj (R.own j i m ⟨⟨_, ej⟩, q1⟩ ⟨⟨_, e⟩, hl⟩)
          exact ⟨m, q1, q2.mono (Same.refl _) (upd_ne hm), q3, q4, q5⟩
  · have ob : ∀ j, OwnS (ρ.put i (.own d')) σ j m → OwnS ρ σ j m := fun j ⟨⟨d2, q⟩, q2⟩ => by
      refine ⟨?_, q2⟩
      have q : (ρ.sl.set i (.own d'))[j]? = some (.own d2) := q
      by_cases hj : j = i
      · subst hj; exact ⟨_, e⟩
      · rw [List.getElem?_set_ne (Ne.symm hj)] at q; exact ⟨_, q⟩
    exact R.own j k m (ob j a) (ob k b)
  · obtain ⟨q1, c, cs, t, r, q2, q3⟩ := R.pen q hq
    have hql : q ≠ l := fun z => h5 (by rw [← z]; exact hq)
    exact ⟨q1, c, cs, t, r, by rw [upd_ne hql]; exact q2, q3⟩
end

/-- a tuple is known from now on -/
theorem Rel.tellT {G : Ent} {H0 H : Hp} {ρ : Env3} {σ : L2.St} {b : Addr} {xs : List V} (R : Rel G H0 ρ σ H) (hb : H b = some (.tup xs)) : Rel G (upd H0 b (.tup xs)) ρ σ H := by
  have s0 : Same H0 (upd H0 b (.tup xs)) := fun a u e => by
    by_cases h : a = b
    · subst h; rw [upd_same]; have := R.ex _ _ e; rw [hb] at this; exact this
    · rw [upd_ne h]; exact e
  refine ⟨fun a u e => ?_, fun a u e => s0 a u (R.ex0 a u e), R.keep, fun a u e => ?_, R.len, fun i => ?_, R.own, fun q hq => ?_, R.fix⟩
  · by_cases h : a = b
    · subst h; rw [upd_same] at e; rw [hb]; exact e
    · rw [upd_ne h] at e; exact R.ex a u e
  · by_cases h : a = b
    · subst h; rw [upd_same] at e; exact .inr (.inr ⟨xs, (Option.some.inj e).symm⟩)
    · rw [upd_ne h] at e; exact R.new a u e
  · have h := R.slot i
    cases e : ρ.sl[i]? with
    | none => exact True.intro
    | some s =>
      rw [e] at h
      cases s with
      | un => exact True.intro
      | val d => obtain ⟨x, h1, h2⟩ := h; exact ⟨x, h1, h2.mono s0⟩
      | own d =>
        obtain ⟨m, h1, h2, h3, h4, h5⟩ := h
        have hm : m ≠ b := fun z => by
          subst z
          cases d with
          | lst ds => obtain ⟨vs, q, _⟩ := h2; rw [hb] at q; cases q
          | dT ds => obtain ⟨vs, q, _⟩ := h2; rw [hb] at q; cases q
          | _ => exact h2.elim
        exact ⟨m, h1, h2.mono s0 rfl, by rw [upd_ne hm]; exact h3, h4, h5⟩
  · obtain ⟨q1, c, cs, t, r, q2, q3, q4⟩ := R.pen q hq
    have hqb : q ≠ b := fun z => by
      subst z
      rw [hb] at q2; cases q2
    exact ⟨by rw [upd_ne hqb]; exact q1, c, cs, t, r, q2, s0 _ _ q3, q4⟩

/-! ### readings over data -/
abbrev K3 := D → Env3 → Prop
/-- an expression: what follows, what follows an exception -/
abbrev E3 := Env3 → K3 → K3 → Prop
abbrev A3 := Env3 → (List D → Env3 → Prop) → K3 → Prop
abbrev T3 := Env3 → (Bool → Env3 → Prop) → K3 → Prop
structure Ends3 where
  nx : Env3 → Prop
  rt : K3
  bk : Env3 → Prop := fun _ => False
  ct : Env3 → Prop := fun _ => False
  xc : K3 := fun _ _ => False
abbrev S3 := Ends3 → Env3 → Prop

def RepX (pn : Option Addr) (H : Hp) (cls : Value) (d : Option Addr) : D → Prop
  | .exc C fs => cls = .ref C ∧ ∃ dx vs, d = some dx ∧ H dx = some (.xd vs) ∧ vs.map (·.1) = fs.map (·.1) ∧ RepA pn H (vs.map (·.2)) (fs.map (·.2))
  | _ => False
theorem RepX.mono {pn : Option Addr} {H H' : Hp} {cls : Value} {d : Option Addr} {x : D} (h : RepX pn H cls d x) (e : Same H H') : RepX pn H' cls d x := by
  cases x with
  | exc C fs => obtain ⟨h1, dx, vs, h2, h3, h4, h5⟩ := h; exact ⟨h1, dx, vs, h2, e _ _ h3, h4, h5.mono e⟩
  | _ => exact h.elim

/-- what follows, over the heaps -/
def KQ (G : Ent) (H0 : Hp) (σ : L2.St) (Q : VK) : K3 := fun d ρ' => ∀ v H' H0', Same H0 H0' → Rel G H0' ρ' σ H' → Rep G.pn H0' v d → Q v H'
def KX (G : Ent) (H0 : Hp) (σ : L2.St) (W : WX) : K3 := fun x ρ' => ∀ cls dx H' H0', Same H0 H0' → Rel G H0' ρ' σ H' → RepX G.pn H0' cls dx x → W cls dx σ H'
def KT (G : Ent) (H0 : Hp) (σ : L2.St) (Q : Bool → Hp → Prop) : Bool → Env3 → Prop := fun b ρ' => ∀ H' H0', Same H0 H0' → Rel G H0' ρ' σ H' → Q b H'
def KA (G : Ent) (H0 : Hp) (σ : L2.St) (Q : List V → Hp → Prop) : List D → Env3 → Prop := fun ds ρ' => ∀ vs H' H0', Same H0 H0' → Rel G H0' ρ' σ H' → RepA G.pn H0' vs ds → Q vs H'
def lE (W : WX) (t : E3) : TE := fun σ H Q => ∃ G ρ H0, Rel G H0 ρ σ H ∧ t ρ (KQ G H0 σ Q) (KX G H0 σ W)
def lT (W : WX) (t : T3) : TT := fun σ H Q => ∃ G ρ H0, Rel G H0 ρ σ H ∧ t ρ (KT G H0 σ Q) (KX G H0 σ W)
def lA (W : WX) (t : A3) : TA := fun σ H Q => ∃ G ρ H0, Rel G H0 ρ σ H ∧ t ρ (KA G H0 σ Q) (KX G H0 σ W)
section
variable {G : Ent} {H0 H0' : Hp} {σ : L2.St} {W : WX} {d : D} {ρ : Env3}
theorem KQ.up {Q : VK} (k : KQ G H0 σ Q d ρ) (e : Same H0 H0') : KQ G H0' σ Q d ρ := fun v H' H1 s R r => k v H' H1 (e.trans s) R r
theorem KX.up (k : KX G H0 σ W d ρ) (e : Same H0 H0') : KX G H0' σ W d ρ := fun v dx H' H1 s R r => k v dx H' H1 (e.trans s) R r
theorem KT.up {Q : Bool → Hp → Prop} {b : Bool} (k : KT G H0 σ Q b ρ) (e : Same H0 H0') : KT G H0' σ Q b ρ := fun H' H1 s R => k H' H1 (e.trans s) R
theorem KA.up {Q : List V → Hp → Prop} {ds : List D} (k : KA G H0 σ Q ds ρ) (e : Same H0 H0') : KA G H0' σ Q ds ρ := fun v H' H1 s R r => k v H' H1 (e.trans s) R r
end

/-- what a reading wants grows with what follows -/
def MonE {α : Type} (t : Env3 → (α → Env3 → Prop) → K3 → Prop) : Prop := ∀ ρ k k' x x', (∀ d ρ', k d ρ' → k' d ρ') → (∀ d ρ', x d ρ' → x' d ρ') → t ρ k x → t ρ k' x'
structure P3 (X : Cx) (W : WX) (e : Expr) (t : E3) : Prop where
  run : PE X e (lE W t)
  mon : MonE t
structure P3T (X : Cx) (W : WX) (e : Expr) (t : T3) : Prop where
  run : PT X e (lT W t)
  mon : MonE t
structure P3A (X : Cx) (W : WX) (es : List Expr) (t : A3) : Prop where
  run : PA X es (lA W t)
  mon : MonE t
theorem PE.imp {X : Cx} {e : Expr} {t t' : TE} (h : PE X e t) (q : ∀ σ H Q, t' σ H Q → t σ H Q) : PE X e t' := ⟨fun pins s σ H Q I z => h.run pins s σ H Q I (q σ H Q z)⟩
theorem PT.imp {X : Cx} {e : Expr} {t t' : TT} (h : PT X e t) (q : ∀ σ H Q, t' σ H Q → t σ H Q) : PT X e t' := ⟨fun pins s σ H Q I z => h.run pins s σ H Q I (q σ H Q z)⟩
theorem PW.imp {X : Cx} {e : Expr} {t t' : TT} (h : PW X e t) (q : ∀ σ H Q, t' σ H Q → t σ H Q) : PW X e t' := ⟨fun wh pins s σ H Q I z => h.run wh pins s σ H Q I (q σ H Q z)⟩
theorem PA.imp {X : Cx} {e : List Expr} {t t' : TA} (h : PA X e t) (q : ∀ σ H Q, t' σ H Q → t σ H Q) : PA X e t' := ⟨fun p pins s σ H Q I z => h.run p pins s σ H Q I (q σ H Q z)⟩
theorem PS.imp {X : Cx} {e : Stmt} {t t' : TS} (h : PS X e t) (q : ∀ D σ H, t' D σ H → t D σ H) : PS X e t' := ⟨fun pins s σ H D I z => h.run pins s σ H D I (q D σ H z)⟩
theorem PSs.imp {X : Cx} {e : List Stmt} {t t' : TS} (h : PSs X e t) (q : ∀ D σ H, t' D σ H → t D σ H) : PSs X e t' := ⟨fun pins s σ H D I z => h.run pins s σ H D I (q D σ H z)⟩

/-! ### objects made on the way -/
inductive Grow : Hp → Hp → Hp → Hp → Prop
  | refl {H0 H : Hp} : Grow H0 H H0 H
  | new {H0 H H0' H' : Hp} {p : Addr} {o : HO} : Grow H0 H H0' H' → H' p = none → Grow H0 H (upd H0' p o) (upd H' p o)
  | told {H0 H H0' H' : Hp} {p : Addr} {xs : List V} : Grow H0 H H0' H' → H' p = some (.tup xs) → Grow H0 H (upd H0' p (.tup xs)) H'
theorem Grow.one {H0 H : Hp} {p : Addr} {o : HO} (h : H p = none) : Grow H0 H (upd H0 p o) (upd H p o) := .new .refl h
theorem Grow.rel {G : Ent} {ρ : Env3} {σ : L2.St} {H0 H H0' H' : Hp} (g : Grow H0 H H0' H') (R : Rel G H0 ρ σ H) : Rel G H0' ρ σ H' := by
  induction g with
  | refl => exact R
  | new g h ih => exact ih.grow h
  | told g h ih => exact ih.tellT h
theorem Grow.same {H0 H H0' H' : Hp} (g : Grow H0 H H0' H') (e : Same H0 H) : Same H0 H0' ∧ Same H0' H' := by
  induction g with
  | refl => exact ⟨Same.refl _, e⟩
  | @new H0' H' p o g h ih =>
    refine ⟨fun a u z => ?_, fun a u z => ?_⟩
    · have q := ih.2 a u (ih.1 a u z)
      rw [upd_ne (ne_of_none q h)]
      exact ih.1 a u z
    · by_cases ha : a = p
      · subst ha; rw [upd_same] at z ⊢; exact z
      · rw [upd_ne ha] at z ⊢; exact ih.2 a u z
  | @told H0' H' p xs g h ih =>
    refine ⟨fun a u z => ?_, fun a u z => ?_⟩
    · have q := ih.1 a u z
      by_cases ha : a = p
      · subst ha
        have q2 := ih.2 a u q
        rw [h] at q2
        rw [upd_same]; exact q2
      · rw [upd_ne ha]; exact q
    · by_cases ha : a = p
      · subst ha; rw [upd_same] at z; rw [h]; exact z
      · rw [upd_ne ha] at z; exact ih.2 a u z
end L3
/-! L3: expressions -/
namespace L3
open PySem PySem.Spec PyProof.Rows L2

section
variable {X : Cx} {W : WX} {a b c e : Expr} {pos : Pos} {ta tb tc te : E3}
/-! ### names, constants -/
def tVar3 (i : Nat) : E3 := fun ρ k _ => match ρ.rd i with | some p => k p.1 p.2 | none => False
def tC3 (d : D) : E3 := fun ρ k _ => k d ρ
theorem monVar {i : Nat} : MonE (tVar3 i) := fun ρ k k' x x' hk _ h => by
  unfold tVar3 at h ⊢
  split
  · rename_i p e; rw [e] at h; exact hk _ _ h
  · rename_i e; rw [e] at h; exact h
theorem monC {d : D} : MonE (tC3 d) := fun ρ k k' x x' hk _ h => hk _ _ h
theorem p3_of {i : Nat} (h : PE X e (tVar i)) : P3 X W e (tVar3 i) := ⟨PE.imp h fun σ H Q ⟨G, ρ, H0, R, q⟩ => by
  unfold tVar3 at q
  split at q
  · rename_i p ep
    obtain ⟨x, H0', h1, h2, h3, h4⟩ := R.rd (d := p.1) (ρ' := p.2) ep
    exact ⟨x, h1, q x H H0' h2 h4 h3⟩
  · exact q.elim, monVar⟩
theorem v3 (i : Nat) {x : Str} (hN : X.N[i]? = some x := by rfl) (hv : Vis X.env.scope x := by first | exact Or.inl rfl | exact Or.inr (Or.inl rfl) | exact Or.inr (Or.inr rfl)) (hd : (x == ("__debug__" : Str)) = false := by decide)
    (hcd : (x == ("__classdict__" : Str)) = false := by decide) : P3 X W (.Name x pos) (tVar3 i) := p3_of (pe_var hN hv hd hcd)
theorem c3_of {v : V} {d : D} (h : PE X e (tC v)) (r : ∀ pn H, Rep pn H v d) : P3 X W e (tC3 d) := ⟨PE.imp h fun σ H Q ⟨G, ρ, H0, R, q⟩ => q v H H0 (Same.refl _) R (r _ _), monC⟩
theorem int3 {i j} : P3 X W (.Constant (.int i) j pos) (tC3 (.int i)) := c3_of pe_int fun _ _ => .int i
theorem bl3 {i j} : P3 X W (.Constant (.bool i) j pos) (tC3 (.bl i)) := c3_of pe_bl fun _ _ => .bl i
theorem str3 {i j} : P3 X W (.Constant (.str i) j pos) (tC3 (.str i)) := c3_of pe_str fun _ _ => .str i
theorem non3 {j} : P3 X W (.Constant .none j pos) (tC3 .non) := c3_of pe_non fun _ _ => .non

/-! ### two-place operations -/
abbrev G2 := D → D → (D → Prop) → Prop
def MonG2 (g : G2) : Prop := ∀ d e k k', (∀ z, k z → k' z) → g d e k → g d e k'
def Op3 (r : R2) (g : G2) : Prop := ∀ (pn : Option Addr) (H0 H : Hp) (x y : V) (d e : D) (k : D → Prop) (Q : VK), Same H0 H → Rep pn H0 x d → Rep pn H0 y e → g d e k →
  (∀ z dz H0' H', Grow H0 H H0' H' → Rep pn H0' z dz → k dz → Q z H') → r x y H Q
def b3 (g : G2) (ta tb : E3) : E3 := fun ρ k x => ta ρ (fun d ρ1 => tb ρ1 (fun e ρ2 => g d e fun z => k z ρ2) x) x
theorem monB {g : G2} (hm : MonG2 g) (ma : MonE ta) (mb : MonE tb) : MonE (b3 g ta tb) := fun ρ k k' x x' hk hx h =>
  ma ρ _ _ _ _ (fun d ρ1 q => mb ρ1 _ _ _ _ (fun e ρ2 q2 => hm d e _ _ (fun z => hk z ρ2) q2) hx q) hx h
theorem two3 {r : R2} {g : G2} (hr : Op3 r g) (pa : P3 X W a ta) (pb : P3 X W b tb) {σ : L2.St} {H : Hp} {Q : VK} (h : lE W (b3 g ta tb) σ H Q) : tOp r (lE W ta) (lE W tb) σ H Q := by
  obtain ⟨G, ρ, H0, R, h⟩ := h
  refine ⟨G, ρ, H0, R, pa.mon ρ _ _ _ _ (fun d ρ1 q => ?_) (fun _ _ z => z) h⟩
  intro x H1 H01 s1 R1 r1
  refine ⟨G, ρ1, H01, R1, pb.mon ρ1 _ _ _ _ (fun e ρ2 q => ?_) (fun _ _ z => KX.up z s1) q⟩
  intro y H2 H02 s2 R2 r2
  exact hr G.pn H02 H2 x y d e _ Q R2.ex (r1.mono s2) r2 q fun z dz H0' H' g rz kz => kz z H' H0' ((s1.trans s2).trans (g.same R2.ex).1) (g.rel R2) rz
theorem bin3 {op : Operator} {r : R2} {g : G2} (ho : OpR X (binaryOp op) r) (hr : Op3 r g) (hm : MonG2 g) (pa : P3 X W a ta) (pb : P3 X W b tb) : P3 X W (.BinOp a op b pos) (b3 g ta tb) :=
  ⟨PE.imp (pe_op ho pa.run pb.run) fun _ _ _ h => two3 hr pa pb h, monB hm pa.mon pb.mon⟩
theorem cmp3 {op : CmpOp} {r : R2} {g : G2} (ho : OpR X (compareOp op) r) (hr : Op3 r g) (hm : MonG2 g) (pa : P3 X W a ta) (pb : P3 X W b tb) (hb : behindInMarks op b = false) : P3 X W (.Compare a [op] [b] pos) (b3 g ta tb) :=
  ⟨PE.imp (pe_cmpR ho pa.run pb.run hb) fun _ _ _ h => two3 hr pa pb h, monB hm pa.mon pb.mon⟩
/-- an expression that gives True or False, as a test -/
def tB3 (t : E3) : T3 := fun ρ k x => t ρ (fun d ρ' => match d with | .bl b => k b ρ' | _ => False) x
theorem monTB {t : E3} (m : MonE t) : MonE (tB3 t) := fun ρ k k' x x' hk hx h => m ρ _ _ _ _ (fun d ρ' q => by cases d <;> first | exact hk _ _ q | exact q) hx h
theorem cmpT3 {op : CmpOp} {r : R2} {g : G2} (ho : OpR X (compareOp op) r) (hr : Op3 r g) (hm : MonG2 g) (pa : P3 X W a ta) (pb : P3 X W b tb) (hb : behindInMarks op b = false) : P3T X W (.Compare a [op] [b] pos) (tB3 (b3 g ta tb)) := by
  refine ⟨PT.imp (pt_cmpR ho pa.run pb.run hb) fun σ H Q h => ?_, monTB (monB hm pa.mon pb.mon)⟩
  obtain ⟨G, ρ, H0, R, h⟩ := h
  refine two3 hr pa pb ⟨G, ρ, H0, R, (monB hm pa.mon pb.mon) ρ _ _ _ _ (fun d ρ' q => ?_) (fun _ _ z => z) h⟩
  intro v H' H0' s R' r
  cases d with
  | bl b => cases r; exact ⟨b, rfl, q H' H0' s R'⟩
  | _ => exact q.elim

def gAdd : G2
  | .int i, .int j, k => k (.int (i + j))
  | .str x, .str y, k => x.length + y.length ≤ sizeLine ∧ k (.str (x ++ y))
  | .lst xs, .lst ys, k => xs.length + ys.length ≤ sizeLine ∧ k (.lst (xs ++ ys))
  | .tup xs, .tup ys, k => xs.length + ys.length ≤ sizeLine ∧ k (.tup (xs ++ ys))
  | _, _, _ => False
def gSub : G2
  | .int i, .int j, k => k (.int (i - j))
  | _, _, _ => False
/-- two ints of together less than a million bits; a list so many times -/
def gMul : G2
  | .int i, .int j, k => (CMulW i j ∨ CMul i j) ∧ k (.int (i * j))
  | .lst xs, .int j, k => (-(2 ^ 63) ≤ j ∧ j < 2 ^ 63 ∧ xs.length * j.toNat ≤ sizeLine) ∧ k (.lst (List.replicate j.toNat xs).flatten)
  | _, _, _ => False
/-- a divisor of less than 9,000 bits -/
def gDiv : G2
  | .int i, .int j, k => (j ≠ 0 ∧ j.natAbs.log2 < 9000) ∧ k (.int (i.fdiv j))
  | _, _, _ => False
def gMod : G2
  | .int i, .int j, k => j ≠ 0 ∧ k (.int (i.fmod j))
  | _, _, _ => False
def gPow : G2
  | .int i, .int j, k => CPow i j ∧ k (.int (i ^ j.toNat))
  | _, _, _ => False
def gLt : G2
  | .int i, .int j, k => k (.bl (decide (i < j)))
  | _, _, _ => False
def gLe : G2
  | .int i, .int j, k => k (.bl (decide (i ≤ j)))
  | _, _, _ => False
def gEq : G2 := fun d e k => SeqAt.shaped d.py = true ∧ SeqAt.shaped e.py = true ∧ k (.bl (PyData.eqv d.py e.py))
def gNe : G2 := fun d e k => SeqAt.shaped d.py = true ∧ SeqAt.shaped e.py = true ∧ k (.bl (!PyData.eqv d.py e.py))
theorem op_fdivZ : OpR X (binaryOp .FloorDiv) (rI (fun _ j => j ≠ 0 ∧ j.natAbs.log2 < 9000) fun i j => .int (i.fdiv j)) := opI fun _ _ _ _ _ _ _ hc q => floordiv_int hc.1 q (.inl (PyProof.noPylong_of_log2 hc.2))

theorem o3_add : Op3 (fun x y H Q => rI0 (fun i j => .int (i + j)) x y H Q ∨ (∃ i j, x = .str i ∧ y = .str j ∧ i.length + j.length ≤ sizeLine ∧ Q (.str (i ++ j)) H) ∨ rCat x y H Q ∨ rCatA X.K x y H Q) gAdd := by
  intro pn H0 H x y d e k Q s rx ry h q
  cases rx with
  | int i =>
    cases ry with
    | int j => exact .inl ⟨i, j, rfl, rfl, q _ _ H0 H .refl (.int _) h⟩
    | _ => exact h.elim
  | str x =>
    cases ry with
    | str y => exact .inr (.inl ⟨x, y, rfl, rfl, h.1, q _ _ H0 H .refl (.str _) h.2⟩)
    | _ => exact h.elim
  | @lst a1 vs1 ds1 ha ra =>
    cases ry with
    | @lst a2 vs2 ds2 hb rb =>
      refine .inr (.inr (.inl ⟨_, _, _, _, rfl, rfl, s _ _ ha, s _ _ hb, by rw [ra.length, rb.length]; exact h.1, fun p hp => ?_⟩))
      have g := Grow.one (H0 := H0) (o := .lst (vs1 ++ vs2)) hp
      exact q _ _ _ _ g (.lst upd_same ((ra.append rb).mono (g.same s).1)) h.2
    | _ => exact h.elim
  | @tup a1 vs1 ds1 ha ra =>
    cases ry with
    | @tup a2 vs2 ds2 hb rb =>
      refine .inr (.inr (.inr ⟨_, _, _, _, rfl, rfl, SqT.of (s _ _ ha), SqT.of (s _ _ hb), by rw [ra.length, rb.length]; exact h.1, fun e => ?_, fun _ e => ?_, fun _ _ p hp => ?_⟩))
      · subst e
        cases ra
        exact q _ _ _ _ .refl (.tup hb rb) h.2
      · subst e
        cases rb
        have h2 := h.2
        rw [List.append_nil] at h2
        exact q _ _ _ _ .refl (.tup ha ra) h2
      · have g := Grow.one (H0 := H0) (o := .tup (vs1 ++ vs2)) hp
        exact q _ _ _ _ g (.tup upd_same ((ra.append rb).mono (g.same s).1)) h.2
    | _ => exact h.elim
  | _ => cases ry <;> exact h.elim
theorem oI3 {C : Int → Int → Prop} {f : Int → Int → Int} {g : G2} (hg : ∀ d e k, g d e k → ∃ i j, d = .int i ∧ e = .int j ∧ C i j ∧ k (.int (f i j))) : Op3 (rI C fun i j => .int (f i j)) g := by
  intro pn H0 H x y d e k Q s rx ry h q
  obtain ⟨i, j, rfl, rfl, hc, hk⟩ := hg d e k h
  cases rx
  cases ry
  exact ⟨i, j, rfl, rfl, hc, q _ _ H0 H .refl (.int _) hk⟩
theorem oB3 {f : Int → Int → Bool} {g : G2} (hg : ∀ d e k, g d e k → ∃ i j, d = .int i ∧ e = .int j ∧ k (.bl (f i j))) : Op3 (rI0 fun i j => .bl (f i j)) g := by
  intro pn H0 H x y d e k Q s rx ry h q
  obtain ⟨i, j, rfl, rfl, hk⟩ := hg d e k h
  cases rx
  cases ry
  exact ⟨i, j, rfl, rfl, q _ _ H0 H .refl (.bl _) hk⟩
theorem o3_sub : Op3 (rI0 fun i j => .int (i - j)) gSub := by
  intro pn H0 H x y d e k Q s rx ry h q
  cases rx <;> first | exact h.elim | (cases ry <;> first | exact h.elim | exact ⟨_, _, rfl, rfl, q _ _ H0 H .refl (.int _) h⟩)
theorem o3_div : Op3 (rI (fun _ j => j ≠ 0 ∧ j.natAbs.log2 < 9000) fun i j => .int (i.fdiv j)) gDiv := oI3 fun d e k h => by
  cases d <;> first | exact h.elim | (cases e <;> first | exact h.elim | exact ⟨_, _, rfl, rfl, h.1, h.2⟩)
theorem o3_mod : Op3 (rI (fun _ j => j ≠ 0) fun i j => .int (i.fmod j)) gMod := oI3 fun d e k h => by
  cases d <;> first | exact h.elim | (cases e <;> first | exact h.elim | exact ⟨_, _, rfl, rfl, h.1, h.2⟩)
theorem o3_pow : Op3 (rI CPow fun i j => .int (i ^ j.toNat)) gPow := oI3 fun d e k h => by
  cases d <;> first | exact h.elim | (cases e <;> first | exact h.elim | exact ⟨_, _, rfl, rfl, h.1, h.2⟩)
theorem o3_mul : Op3 (fun x y H Q => (rI CMulW (fun i j => .int (i * j)) x y H Q ∨ rI CMul (fun i j => .int (i * j)) x y H Q) ∨ rRep x y H Q) gMul := by
  intro pn H0 H x y d e k Q s rx ry h q
  cases rx with
  | int i =>
    cases ry with
    | int j =>
      rcases h.1 with c | c
      · exact .inl (.inl ⟨i, j, rfl, rfl, c, q _ _ H0 H .refl (.int _) h.2⟩)
      · exact .inl (.inr ⟨i, j, rfl, rfl, c, q _ _ H0 H .refl (.int _) h.2⟩)
    | _ => exact h.elim
  | @lst a1 vs1 ds1 ha ra =>
    cases ry with
    | int j =>
      refine .inr ⟨_, _, _, rfl, rfl, s _ _ ha, h.1.1, h.1.2.1, by rw [ra.length]; exact h.1.2.2, fun p hp => ?_⟩
      have g := Grow.one (H0 := H0) (o := .lst (List.replicate j.toNat vs1).flatten) hp
      exact q _ _ _ _ g (.lst upd_same ((ra.rep j.toNat).mono (g.same s).1)) h.2
    | _ => exact h.elim
  | _ => cases ry <;> exact h.elim
theorem o3_lt : Op3 (rI0 fun i j => .bl (decide (i < j))) gLt := oB3 fun d e k h => by
  cases d <;> first | exact h.elim | (cases e <;> first | exact h.elim | exact ⟨_, _, rfl, rfl, h⟩)
theorem o3_le : Op3 (rI0 fun i j => .bl (decide (i ≤ j))) gLe := oB3 fun d e k h => by
  cases d <;> first | exact h.elim | (cases e <;> first | exact h.elim | exact ⟨_, _, rfl, rfl, h⟩)
def gGt : G2 := fun d e k => gLt e d k
def gGe : G2 := fun d e k => gLe e d k
theorem o3_gt : Op3 (rI0 fun i j => .bl (decide (j < i))) gGt := oB3 fun d e k h => by
  unfold gGt at h
  cases e <;> first | exact h.elim | (cases d <;> first | exact h.elim | exact ⟨_, _, rfl, rfl, h⟩)
theorem o3_ge : Op3 (rI0 fun i j => .bl (decide (j ≤ i))) gGe := oB3 fun d e k h => by
  unfold gGe at h
  cases e <;> first | exact h.elim | (cases d <;> first | exact h.elim | exact ⟨_, _, rfl, rfl, h⟩)
theorem lay_of {d : PyData} (h : SeqAt.shaped d = true) : d.canLay0 = true := SeqAt.canLay_of_shaped h
theorem o3_eq : Op3 (rEqD X.K) gEq := fun pn H0 H x y d e k Q s rx ry ⟨h1, h2, h3⟩ q => ⟨d.py, e.py, (rx.mono s).dp (lay_of h1), (ry.mono s).dp (lay_of h2), h1, h2, q _ _ H0 H .refl (.bl _) h3⟩
theorem o3_ne : Op3 (rNeD X.K) gNe := fun pn H0 H x y d e k Q s rx ry ⟨h1, h2, h3⟩ q => ⟨d.py, e.py, (rx.mono s).dp (lay_of h1), (ry.mono s).dp (lay_of h2), h1, h2, q _ _ H0 H .refl (.bl _) h3⟩
theorem mon_and {C A B : Prop} (f : A → B) (h : C ∧ A) : C ∧ B := ⟨h.1, f h.2⟩
theorem m_add : MonG2 gAdd := fun d e k k' f h => by cases d <;> cases e <;> first | exact f _ h | exact mon_and (f _) h | exact h
theorem m_sub : MonG2 gSub := fun d e k k' f h => by cases d <;> cases e <;> first | exact f _ h | exact h
theorem m_mul : MonG2 gMul := fun d e k k' f h => by cases d <;> cases e <;> first | exact mon_and (f _) h | exact h
theorem m_div : MonG2 gDiv := fun d e k k' f h => by cases d <;> cases e <;> first | exact mon_and (f _) h | exact h
theorem m_mod : MonG2 gMod := fun d e k k' f h => by cases d <;> cases e <;> first | exact mon_and (f _) h | exact h
theorem m_pow : MonG2 gPow := fun d e k k' f h => by cases d <;> cases e <;> first | exact mon_and (f _) h | exact h
theorem m_lt : MonG2 gLt := fun d e k k' f h => by cases d <;> cases e <;> first | exact f _ h | exact h
theorem m_le : MonG2 gLe := fun d e k k' f h => by cases d <;> cases e <;> first | exact f _ h | exact h
theorem m_gt : MonG2 gGt := fun d e k k' f h => m_lt e d k k' f h
theorem m_ge : MonG2 gGe := fun d e k k' f h => m_le e d k k' f h
theorem m_eq : MonG2 gEq := fun d e k k' f h => ⟨h.1, h.2.1, f _ h.2.2⟩
theorem m_ne : MonG2 gNe := fun d e k k' f h => ⟨h.1, h.2.1, f _ h.2.2⟩
theorem add3 (pa : P3 X W a ta) (pb : P3 X W b tb) : P3 X W (.BinOp a .Add b pos) (b3 gAdd ta tb) := bin3 (op_add.or (op_add_str.or (op_cat.or op_catA))) o3_add m_add pa pb
theorem sub3 (pa : P3 X W a ta) (pb : P3 X W b tb) : P3 X W (.BinOp a .Sub b pos) (b3 gSub ta tb) := bin3 op_sub o3_sub m_sub pa pb
theorem mul3 (pa : P3 X W a ta) (pb : P3 X W b tb) : P3 X W (.BinOp a .Mult b pos) (b3 gMul ta tb) := bin3 ((op_mulW.or op_mul).or op_rep) o3_mul m_mul pa pb
theorem div3 (pa : P3 X W a ta) (pb : P3 X W b tb) : P3 X W (.BinOp a .FloorDiv b pos) (b3 gDiv ta tb) := bin3 op_fdivZ o3_div m_div pa pb
theorem mod3 (pa : P3 X W a ta) (pb : P3 X W b tb) : P3 X W (.BinOp a .Mod b pos) (b3 gMod ta tb) := bin3 op_modN o3_mod m_mod pa pb
theorem pow3 (pa : P3 X W a ta) (pb : P3 X W b tb) : P3 X W (.BinOp a .Pow b pos) (b3 gPow ta tb) := bin3 op_pow o3_pow m_pow pa pb
theorem lt3 (pa : P3 X W a ta) (pb : P3 X W b tb) : P3 X W (.Compare a [.Lt] [b] pos) (b3 gLt ta tb) := cmp3 op_lt o3_lt m_lt pa pb (nomark _)
theorem le3 (pa : P3 X W a ta) (pb : P3 X W b tb) : P3 X W (.Compare a [.LtE] [b] pos) (b3 gLe ta tb) := cmp3 op_le o3_le m_le pa pb (nomark _)
theorem gt3 (pa : P3 X W a ta) (pb : P3 X W b tb) : P3 X W (.Compare a [.Gt] [b] pos) (b3 gGt ta tb) := cmp3 op_gt o3_gt m_gt pa pb (nomark _)
theorem ge3 (pa : P3 X W a ta) (pb : P3 X W b tb) : P3 X W (.Compare a [.GtE] [b] pos) (b3 gGe ta tb) := cmp3 op_ge o3_ge m_ge pa pb (nomark _)
theorem eq3 (hu : X.A.units + 64 < cLine) (pa : P3 X W a ta) (pb : P3 X W b tb) : P3 X W (.Compare a [.Eq] [b] pos) (b3 gEq ta tb) := cmp3 (op_eqD hu) o3_eq m_eq pa pb (nomark _)
theorem ne3 (hu : X.A.units + 64 < cLine) (pa : P3 X W a ta) (pb : P3 X W b tb) : P3 X W (.Compare a [.NotEq] [b] pos) (b3 gNe ta tb) := cmp3 (op_neD hu) o3_ne m_ne pa pb (nomark _)
theorem ltT3 (pa : P3 X W a ta) (pb : P3 X W b tb) : P3T X W (.Compare a [.Lt] [b] pos) (tB3 (b3 gLt ta tb)) := cmpT3 op_lt o3_lt m_lt pa pb (nomark _)
theorem leT3 (pa : P3 X W a ta) (pb : P3 X W b tb) : P3T X W (.Compare a [.LtE] [b] pos) (tB3 (b3 gLe ta tb)) := cmpT3 op_le o3_le m_le pa pb (nomark _)
theorem gtT3 (pa : P3 X W a ta) (pb : P3 X W b tb) : P3T X W (.Compare a [.Gt] [b] pos) (tB3 (b3 gGt ta tb)) := cmpT3 op_gt o3_gt m_gt pa pb (nomark _)
theorem geT3 (pa : P3 X W a ta) (pb : P3 X W b tb) : P3T X W (.Compare a [.GtE] [b] pos) (tB3 (b3 gGe ta tb)) := cmpT3 op_ge o3_ge m_ge pa pb (nomark _)
theorem eqT3 (hu : X.A.units + 64 < cLine) (pa : P3 X W a ta) (pb : P3 X W b tb) : P3T X W (.Compare a [.Eq] [b] pos) (tB3 (b3 gEq ta tb)) := cmpT3 (op_eqD hu) o3_eq m_eq pa pb (nomark _)
theorem neT3 (hu : X.A.units + 64 < cLine) (pa : P3 X W a ta) (pb : P3 X W b tb) : P3T X W (.Compare a [.NotEq] [b] pos) (tB3 (b3 gNe ta tb)) := cmpT3 (op_neD hu) o3_ne m_ne pa pb (nomark _)

/-! ### minus -/
def tNeg3 (t : E3) : E3 := fun ρ k x => t ρ (fun d ρ' => match d with | .int i => k (.int (-i)) ρ' | _ => False) x
theorem neg3 (pa : P3 X W a ta) : P3 X W (.UnaryOp .USub a pos) (tNeg3 ta) := by
  refine ⟨PE.imp (pe_un un_neg pa.run) fun σ H Q h => ?_, fun ρ k k' x x' hk hx h => pa.mon ρ _ _ _ _ (fun d ρ' q => by cases d <;> first | exact hk _ _ q | exact q) hx h⟩
  obtain ⟨G, ρ, H0, R, h⟩ := h
  refine ⟨G, ρ, H0, R, pa.mon ρ _ _ _ _ (fun d ρ' q => ?_) (fun _ _ z => z) h⟩
  intro v H' H0' s R' r
  cases r <;> first | exact q.elim | exact ⟨_, rfl, q _ H' H0' s R' (.int _)⟩

/-! ### and, or, not, if-else -/
structure P3W (X : Cx) (W : WX) (e : Expr) (t : T3) : Prop where
  run : PW X e (lT W t)
  mon : MonE t
theorem P3W.pt {t : T3} (h : P3W X W e t) : P3T X W e t := ⟨h.run.pt, h.mon⟩
def tAnd3 (t u : T3) : T3 := fun ρ k x => t ρ (fun b ρ' => match b with | true => u ρ' k x | false => k false ρ') x
def tOr3 (t u : T3) : T3 := fun ρ k x => t ρ (fun b ρ' => match b with | true => k true ρ' | false => u ρ' k x) x
def tNot3 (t : T3) : T3 := fun ρ k x => t ρ (fun b ρ' => k (!b) ρ') x
variable {t u : T3} {rest : List Expr}
theorem monAnd (m1 : MonE t) (m2 : MonE u) : MonE (tAnd3 t u) := fun ρ k k' x x' hk hx h => m1 ρ _ _ _ _ (fun b ρ' q => by
  cases b with
  | true => exact m2 ρ' _ _ _ _ hk hx q
  | false => exact hk _ _ q) hx h
theorem monOr (m1 : MonE t) (m2 : MonE u) : MonE (tOr3 t u) := fun ρ k k' x x' hk hx h => m1 ρ _ _ _ _ (fun b ρ' q => by
  cases b with
  | true => exact hk _ _ q
  | false => exact m2 ρ' _ _ _ _ hk hx q) hx h
theorem and1 (h : P3T X W a t) : P3W X W (.BoolOp .And [a] pos) t := ⟨pw_and1 h.run, h.mon⟩
theorem or1 (h : P3T X W a t) : P3W X W (.BoolOp .Or [a] pos) t := ⟨pw_or1 h.run, h.mon⟩
theorem and3 (h1 : P3T X W a t) (h2 : P3W X W (.BoolOp .And (b :: rest) pos) u) : P3W X W (.BoolOp .And (a :: b :: rest) pos) (tAnd3 t u) := by
  refine ⟨PW.imp (pw_and h1.run h2.run) fun σ H Q h => ?_, monAnd h1.mon h2.mon⟩
  obtain ⟨G, ρ, H0, R, h⟩ := h
  refine ⟨G, ρ, H0, R, h1.mon ρ _ _ _ _ (fun b ρ' q => ?_) (fun _ _ z => z) h⟩
  intro H' H0' s R'
  cases b with
  | true => exact iteT ⟨G, ρ', H0', R', h2.mon ρ' _ _ _ _ (fun _ _ z => KT.up z s) (fun _ _ z => KX.up z s) q⟩
  | false => exact iteF (q H' H0' s R')
theorem or3 (h1 : P3T X W a t) (h2 : P3W X W (.BoolOp .Or (b :: rest) pos) u) : P3W X W (.BoolOp .Or (a :: b :: rest) pos) (tOr3 t u) := by
  refine ⟨PW.imp (pw_or h1.run h2.run) fun σ H Q h => ?_, monOr h1.mon h2.mon⟩
  obtain ⟨G, ρ, H0, R, h⟩ := h
  refine ⟨G, ρ, H0, R, h1.mon ρ _ _ _ _ (fun b ρ' q => ?_) (fun _ _ z => z) h⟩
  intro H' H0' s R'
  cases b with
  | true => exact iteT (q H' H0' s R')
  | false => exact iteF ⟨G, ρ', H0', R', h2.mon ρ' _ _ _ _ (fun _ _ z => KT.up z s) (fun _ _ z => KX.up z s) q⟩
theorem not3 (h1 : P3T X W a t) : P3T X W (.UnaryOp .Not a pos) (tNot3 t) := by
  refine ⟨PT.imp (pt_not h1.run) fun σ H Q h => ?_, fun ρ k k' x x' hk hx h => h1.mon ρ _ _ _ _ (fun b ρ' q => hk _ _ q) hx h⟩
  obtain ⟨G, ρ, H0, R, h⟩ := h
  exact ⟨G, ρ, H0, R, h1.mon ρ _ _ _ _ (fun b ρ' q H' H0' s R' => q H' H0' s R') (fun _ _ z => z) h⟩
/-- the same as values -/
def tAndV3 (ta tb : E3) : E3 := fun ρ k x => ta ρ (fun d ρ' => match d with | .bl true => tb ρ' k x | .bl false => k (.bl false) ρ' | _ => False) x
def tOrV3 (ta tb : E3) : E3 := fun ρ k x => ta ρ (fun d ρ' => match d with | .bl true => k (.bl true) ρ' | .bl false => tb ρ' k x | _ => False) x
def tNotV3 (ta : E3) : E3 := fun ρ k x => ta ρ (fun d ρ' => match d with | .bl b => k (.bl (!b)) ρ' | _ => False) x
theorem monAndV (m1 : MonE ta) (m2 : MonE tb) : MonE (tAndV3 ta tb) := fun ρ k k' x x' hk hx h => m1 ρ _ _ _ _ (fun d ρ' q => by
  cases d with
  | bl b => cases b with
    | true => exact m2 ρ' _ _ _ _ hk hx q
    | false => exact hk _ _ q
  | _ => exact q) hx h
theorem monOrV (m1 : MonE ta) (m2 : MonE tb) : MonE (tOrV3 ta tb) := fun ρ k k' x x' hk hx h => m1 ρ _ _ _ _ (fun d ρ' q => by
  cases d with
  | bl b => cases b with
    | true => exact hk _ _ q
    | false => exact m2 ρ' _ _ _ _ hk hx q
  | _ => exact q) hx h
theorem onev {op} (h : P3 X W a ta) : P3 X W (.BoolOp op [a] pos) ta := ⟨pe_one h.run, h.mon⟩
theorem andv3 (h1 : P3 X W a ta) (h2 : P3 X W (.BoolOp .And (b :: rest) pos) tb) : P3 X W (.BoolOp .And (a :: b :: rest) pos) (tAndV3 ta tb) := by
  refine ⟨PE.imp (pe_and h1.run h2.run) fun σ H Q h => ?_, monAndV h1.mon h2.mon⟩
  obtain ⟨G, ρ, H0, R, h⟩ := h
  refine ⟨G, ρ, H0, R, h1.mon ρ _ _ _ _ (fun d ρ' q => ?_) (fun _ _ z => z) h⟩
  intro v H' H0' s R' r
  cases r with
  | bl b =>
    cases b with
    | true => exact ⟨true, rfl, iteT ⟨G, ρ', H0', R', h2.mon ρ' _ _ _ _ (fun _ _ z => KQ.up z s) (fun _ _ z => KX.up z s) q⟩⟩
    | false => exact ⟨false, rfl, iteF (q _ H' H0' s R' (.bl _))⟩
  | _ => exact q.elim
theorem orv3 (h1 : P3 X W a ta) (h2 : P3 X W (.BoolOp .Or (b :: rest) pos) tb) : P3 X W (.BoolOp .Or (a :: b :: rest) pos) (tOrV3 ta tb) := by
  refine ⟨PE.imp (pe_or h1.run h2.run) fun σ H Q h => ?_, monOrV h1.mon h2.mon⟩
  obtain ⟨G, ρ, H0, R, h⟩ := h
  refine ⟨G, ρ, H0, R, h1.mon ρ _ _ _ _ (fun d ρ' q => ?_) (fun _ _ z => z) h⟩
  intro v H' H0' s R' r
  cases r with
  | bl b =>
    cases b with
    | true => exact ⟨true, rfl, iteT (q _ H' H0' s R' (.bl _))⟩
    | false => exact ⟨false, rfl, iteF ⟨G, ρ', H0', R', h2.mon ρ' _ _ _ _ (fun _ _ z => KQ.up z s) (fun _ _ z => KX.up z s) q⟩⟩
  | _ => exact q.elim
theorem notv3 (h1 : P3 X W a ta) : P3 X W (.UnaryOp .Not a pos) (tNotV3 ta) := by
  refine ⟨PE.imp (pe_not h1.run) fun σ H Q h => ?_, fun ρ k k' x x' hk hx h => h1.mon ρ _ _ _ _ (fun d ρ' q => by cases d <;> first | exact hk _ _ q | exact q) hx h⟩
  obtain ⟨G, ρ, H0, R, h⟩ := h
  refine ⟨G, ρ, H0, R, h1.mon ρ _ _ _ _ (fun d ρ' q => ?_) (fun _ _ z => z) h⟩
  intro v H' H0' s R' r
  cases r with
  | bl b => exact ⟨b, rfl, q _ H' H0' s R' (.bl _)⟩
  | _ => exact q.elim
def tIf3 (t : T3) (ta tb : E3) : E3 := fun ρ k x => t ρ (fun b ρ' => match b with | true => ta ρ' k x | false => tb ρ' k x) x
theorem monIf (m : MonE t) (m1 : MonE ta) (m2 : MonE tb) : MonE (tIf3 t ta tb) := fun ρ k k' x x' hk hx h => m ρ _ _ _ _ (fun b ρ' q => by
  cases b with
  | true => exact m1 ρ' _ _ _ _ hk hx q
  | false => exact m2 ρ' _ _ _ _ hk hx q) hx h
theorem if3 (h : P3T X W c t) (h1 : P3 X W a ta) (h2 : P3 X W b tb) : P3 X W (.IfExp c a b pos) (tIf3 t ta tb) := by
  refine ⟨PE.imp (pe_ifExp h.run h1.run h2.run) fun σ H Q q => ?_, monIf h.mon h1.mon h2.mon⟩
  obtain ⟨G, ρ, H0, R, q⟩ := q
  refine ⟨G, ρ, H0, R, h.mon ρ _ _ _ _ (fun b ρ' q => ?_) (fun _ _ z => z) q⟩
  intro H' H0' s R'
  cases b with
  | true => exact iteT ⟨G, ρ', H0', R', h1.mon ρ' _ _ _ _ (fun _ _ z => KQ.up z s) (fun _ _ z => KX.up z s) q⟩
  | false => exact iteF ⟨G, ρ', H0', R', h2.mon ρ' _ _ _ _ (fun _ _ z => KQ.up z s) (fun _ _ z => KX.up z s) q⟩
/-- is None, is not None -/
def isN : D → Bool
  | .non => true
  | _ => false
def tIsN3 (ta : E3) : E3 := fun ρ k x => ta ρ (fun d ρ' => k (.bl (isN d)) ρ') x
def tNotN3 (ta : E3) : E3 := fun ρ k x => ta ρ (fun d ρ' => k (.bl (!isN d)) ρ') x
theorem isN_dec {pn : Option Addr} {H : Hp} {v : V} {d : D} (r : Rep pn H v d) : decide (v = .non) = isN d := by
  cases r <;> first | rfl | exact decide_eq_false (fun z => nomatch z)
theorem isn3 {j p} (h1 : P3 X W a ta) : P3 X W (.Compare a [.Is] [.Constant .none j p] pos) (tIsN3 ta) := by
  refine ⟨PE.imp (pe_cmp (pc_isN h1.run) rfl) fun σ H Q h => ?_, fun ρ k k' x x' hk hx h => h1.mon ρ _ _ _ _ (fun d ρ' q => hk _ _ q) hx h⟩
  obtain ⟨G, ρ, H0, R, h⟩ := h
  refine ⟨G, ρ, H0, R, h1.mon ρ _ _ _ _ (fun d ρ' q => ?_) (fun _ _ z => z) h⟩
  intro v H' H0' s R' r
  rw [isN_dec r]
  exact q _ H' H0' s R' (.bl _)
theorem notn3 {j p} (h1 : P3 X W a ta) : P3 X W (.Compare a [.IsNot] [.Constant .none j p] pos) (tNotN3 ta) := by
  refine ⟨PE.imp (pe_cmp (pc_notN h1.run) rfl) fun σ H Q h => ?_, fun ρ k k' x x' hk hx h => h1.mon ρ _ _ _ _ (fun d ρ' q => hk _ _ q) hx h⟩
  obtain ⟨G, ρ, H0, R, h⟩ := h
  refine ⟨G, ρ, H0, R, h1.mon ρ _ _ _ _ (fun d ρ' q => ?_) (fun _ _ z => z) h⟩
  intro v H' H0' s R' r
  rw [isN_dec r]
  exact q _ H' H0' s R' (.bl _)
theorem isnT3 {j p} (h1 : P3 X W a ta) : P3T X W (.Compare a [.Is] [.Constant .none j p] pos) (tB3 (tIsN3 ta)) := by
  refine ⟨PT.imp (pt_cmp (pc_isN h1.run) rfl) fun σ H Q h => ?_, monTB (isn3 (pos := pos) (j := j) (p := p) h1).mon⟩
  obtain ⟨G, ρ, H0, R, h⟩ := h
  refine ⟨G, ρ, H0, R, h1.mon ρ _ _ _ _ (fun d ρ' q => ?_) (fun _ _ z => z) h⟩
  intro v H' H0' s R' r
  rw [isN_dec r]
  exact ⟨_, rfl, q H' H0' s R'⟩
theorem notnT3 {j p} (h1 : P3 X W a ta) : P3T X W (.Compare a [.IsNot] [.Constant .none j p] pos) (tB3 (tNotN3 ta)) := by
  refine ⟨PT.imp (pt_cmp (pc_notN h1.run) rfl) fun σ H Q h => ?_, monTB (notn3 (pos := pos) (j := j) (p := p) h1).mon⟩
  obtain ⟨G, ρ, H0, R, h⟩ := h
  refine ⟨G, ρ, H0, R, h1.mon ρ _ _ _ _ (fun d ρ' q => ?_) (fun _ _ z => z) h⟩
  intro v H' H0' s R' r
  rw [isN_dec r]
  exact ⟨_, rfl, q H' H0' s R'⟩

/-! ### rows of expressions, displays -/
variable {es : List Expr} {tr : A3}
def tNil3 : A3 := fun ρ k _ => k [] ρ
def tCons3 (ta : E3) (tr : A3) : A3 := fun ρ k x => ta ρ (fun d ρ1 => tr ρ1 (fun ds ρ2 => k (d :: ds) ρ2) x) x
theorem monNil : MonE tNil3 := fun ρ k k' x x' hk hx h => hk _ _ h
theorem monCons (m1 : MonE ta) (m2 : MonE tr) : MonE (tCons3 ta tr) := fun ρ k k' x x' hk hx h => m1 ρ _ _ _ _ (fun d ρ1 q => m2 ρ1 _ _ _ _ (fun ds ρ2 q2 => hk _ _ q2) hx q) hx h
theorem anil : P3A X W [] tNil3 := ⟨PA.imp pa_nil fun σ H Q ⟨G, ρ, H0, R, q⟩ => q [] H H0 (Same.refl _) R .nil, monNil⟩
theorem acons (h1 : P3 X W e te) (h2 : P3A X W es tr) (hs : starEach (e :: es) X.env = (false, eval e X.env) :: starEach es X.env := by rfl) : P3A X W (e :: es) (tCons3 te tr) := by
  refine ⟨PA.imp (pa_cons h1.run h2.run hs) fun σ H Q h => ?_, monCons h1.mon h2.mon⟩
  obtain ⟨G, ρ, H0, R, h⟩ := h
  refine ⟨G, ρ, H0, R, h1.mon ρ _ _ _ _ (fun d ρ1 q => ?_) (fun _ _ z => z) h⟩
  intro v H1 H01 s1 R1 r1
  refine ⟨G, ρ1, H01, R1, h2.mon ρ1 _ _ _ _ (fun ds ρ2 q => ?_) (fun _ _ z => KX.up z s1) q⟩
  intro vs H2 H02 s2 R2 r2
  exact q (v :: vs) H2 H02 (s1.trans s2) R2 (.cons (r1.mono s2) r2)
def tLst3 (tr : A3) : E3 := fun ρ k x => tr ρ (fun ds ρ' => ds.length ≤ sizeLine ∧ k (.lst ds) ρ') x
def tTup3 (tr : A3) : E3 := fun ρ k x => tr ρ (fun ds ρ' => ds.length ≤ sizeLine ∧ k (.tup ds) ρ') x
theorem lst3 (h1 : P3A X W es tr) : P3 X W (.List es pos) (tLst3 tr) := by
  refine ⟨PE.imp (pe_lst h1.run) fun σ H Q h => ?_, fun ρ k k' x x' hk hx h => h1.mon ρ _ _ _ _ (fun d ρ' q => mon_and (hk _ _) q) hx h⟩
  obtain ⟨G, ρ, H0, R, h⟩ := h
  refine ⟨G, ρ, H0, R, h1.mon ρ _ _ _ _ (fun ds ρ' q => ?_) (fun _ _ z => z) h⟩
  intro vs H' H0' s R' r
  refine ⟨by rw [r.length]; exact q.1, fun p hp => ?_⟩
  have g := Grow.one (H0 := H0') (o := .lst vs) hp
  exact q.2 _ _ _ (s.trans (g.same R'.ex).1) (g.rel R') (.lst upd_same (r.mono (g.same R'.ex).1))
theorem tup3 {x1} (h1 : P3A X W es tr) : P3 X W (.Tuple es x1 pos) (tTup3 tr) := by
  refine ⟨PE.imp (pe_tup h1.run) fun σ H Q h => ?_, fun ρ k k' x x' hk hx h => h1.mon ρ _ _ _ _ (fun d ρ' q => mon_and (hk _ _) q) hx h⟩
  obtain ⟨G, ρ, H0, R, h⟩ := h
  refine ⟨G, ρ, H0, R, h1.mon ρ _ _ _ _ (fun ds ρ' q => ?_) (fun _ _ z => z) h⟩
  intro vs H' H0' s R' r
  refine ⟨by rw [r.length]; exact q.1, fun p hp => ?_⟩
  have g := Grow.one (H0 := H0') (o := .tup vs) hp
  exact q.2 _ _ _ (s.trans (g.same R'.ex).1) (g.rel R') (.tup upd_same (r.mono (g.same R'.ex).1))

/-! ### subscripts -/
def optK {α : Type} : Option α → (α → Prop) → Prop
  | some d, k => k d
  | none, _ => False
theorem optK_mono {α : Type} {o : Option α} {k k' : α → Prop} (f : ∀ z, k z → k' z) (h : optK o k) : optK o k' := by
  cases o with
  | none => exact h
  | some d => exact f d h
theorem optK_some {α : Type} {o : Option α} {k : α → Prop} (h : optK o k) : ∃ d, o = some d ∧ k d := by
  cases o with
  | none => exact h.elim
  | some d => exact ⟨d, rfl, h⟩
def gIx : G2
  | .lst xs, .int i, k => optK (atI xs i) k
  | .tup xs, .int i, k => optK (atI xs i) k
  | .str z, .int i, k => z.length ≤ sizeLine ∧ optK (atI z.cps.toList i) fun c => k (.str ⟨#[c]⟩)
  | _, _, _ => False
theorem atI_rep {pn : Option Addr} {H : Hp} {vs : List V} {ds : List D} (r : RepA pn H vs ds) {i : Int} {d : D} (h : atI ds i = some d) : ∃ v, atI vs i = some v ∧ Rep pn H v d := by
  unfold atI at h ⊢
  rw [r.length]
  cases e : ixN ds.length i with
  | none => rw [e] at h; cases h
  | some j =>
    rw [e] at h
    exact r.get h
theorem o3_ix {K : PySem.W.Frag} : Op3 (rIx K) gIx := by
  intro pn H0 H x y d e k Q s rx ry h q
  cases rx with
  | lst ha ra =>
    cases ry with
    | int i =>
      obtain ⟨d, hd, h⟩ := optK_some h
      obtain ⟨v, h1, h2⟩ := atI_rep ra hd
      exact .inl ⟨_, _, i, v, rfl, rfl, SqL.of (s _ _ ha), h1, q _ _ H0 H .refl h2 h⟩
    | _ => exact h.elim
  | tup ha ra =>
    cases ry with
    | int i =>
      obtain ⟨d, hd, h⟩ := optK_some h
      obtain ⟨v, h1, h2⟩ := atI_rep ra hd
      exact .inr (.inl ⟨_, _, i, v, rfl, rfl, SqT.of (s _ _ ha), h1, q _ _ H0 H .refl h2 h⟩)
    | _ => exact h.elim
  | str z =>
    cases ry with
    | int i =>
      obtain ⟨c, hc, h2⟩ := optK_some h.2
      exact .inr (.inr ⟨z, i, c, rfl, rfl, h.1, hc, q _ _ H0 H .refl (.str _) h2⟩)
    | _ => exact h.elim
  | _ => cases ry <;> exact h.elim
theorem m_ix : MonG2 gIx := fun d e k k' f h => by
  cases d <;> cases e <;> first
    | exact optK_mono f h
    | exact ⟨h.1, optK_mono (fun _ => f _) h.2⟩
    | exact h
theorem ix3 (pa : P3 X W a ta) (pb : P3 X W b tb) (hs : PlainIx b := by exact fun _ _ => rfl) : P3 X W (.Subscript a b pos) (b3 gIx ta tb) :=
  ⟨PE.imp (pe_ix ix_seq pa.run pb.run hs) fun _ _ _ h => two3 o3_ix pa pb h, monB m_ix pa.mon pb.mon⟩

/-! ### slices -/
abbrev O3 := Env3 → (Option Int → Env3 → Prop) → K3 → Prop
def lO (W : WX) (t : O3) : TO := fun σ H Q => ∃ G ρ H0, Rel G H0 ρ σ H ∧ t ρ (fun o ρ' => ∀ H' H0', Same H0 H0' → Rel G H0' ρ' σ H' → Q o H') (KX G H0 σ W)
structure P3O (X : Cx) (W : WX) (e : Option Expr) (t : O3) : Prop where
  run : PO X e (lO W t)
  mon : MonE t
def tNoPart3 : O3 := fun ρ k _ => k none ρ
def tPart3 (t : E3) : O3 := fun ρ k x => t ρ (fun d ρ' => match d with | .int i => k (some i) ρ' | _ => False) x
theorem PO.imp {X : Cx} {e : Option Expr} {t t' : TO} (h : PO X e t) (q : ∀ σ H Q, t' σ H Q → t σ H Q) : PO X e t' := ⟨fun pins s σ H Q I z => h.run pins s σ H Q I (q σ H Q z)⟩
theorem onone : P3O X W none tNoPart3 := ⟨PO.imp po_none fun σ H Q ⟨G, ρ, H0, R, q⟩ => q H H0 (Same.refl _) R, fun ρ k k' x x' hk hx h => hk _ _ h⟩
theorem osome (h1 : P3 X W e te) : P3O X W (some e) (tPart3 te) := by
  refine ⟨PO.imp (po_some h1.run) fun σ H Q h => ?_, fun ρ k k' x x' hk hx h => h1.mon ρ _ _ _ _ (fun d ρ' q => by cases d <;> first | exact hk _ _ q | exact q) hx h⟩
  obtain ⟨G, ρ, H0, R, h⟩ := h
  refine ⟨G, ρ, H0, R, h1.mon ρ _ _ _ _ (fun d ρ' q => ?_) (fun _ _ z => z) h⟩
  intro v H' H0' s R' r
  cases r with
  | int i => exact ⟨i, rfl, q H' H0' s R'⟩
  | _ => exact q.elim
def cutL {α : Type} (xs : List α) (lo hi : Option Int) : List α := (xs.drop (HT.sIx xs.length 0 lo)).take (HT.sIx xs.length xs.length hi - HT.sIx xs.length 0 lo)
theorem RepA.cut {pn : Option Addr} {H : Hp} {vs : List V} {ds : List D} (r : RepA pn H vs ds) (lo hi : Option Int) : RepA pn H (cutV vs lo hi) (cutL ds lo hi) := by
  unfold cutV cutL
  rw [r.length]
  exact (r.drop _).take _
def gSl (d : D) (lo hi : Option Int) (k : D → Prop) : Prop :=
  match d with
  | .lst xs => k (.lst (cutL xs lo hi))
  | .tup xs => k (.tup (cutL xs lo hi))
  | .str z => z.length ≤ sizeLine ∧ k (.str (cutS z lo hi))
  | _ => False
theorem m_sl {d : D} {lo hi : Option Int} {k k' : D → Prop} (f : ∀ z, k z → k' z) (h : gSl d lo hi k) : gSl d lo hi k' := by
  cases d <;> first | exact f _ h | exact mon_and (f _) h | exact h
def tSl3 (ta : E3) (tl th : O3) : E3 := fun ρ k x => ta ρ (fun d ρ1 => tl ρ1 (fun lo ρ2 => th ρ2 (fun hi ρ3 => gSl d lo hi fun z => k z ρ3) x) x) x
theorem cut_whole {α : Type} (xs : List α) (lo hi : Option Int) (h : HT.sIx xs.length 0 lo = 0 ∧ HT.sIx xs.length xs.length hi = xs.length) : cutL xs lo hi = xs := by
  unfold cutL
  rw [h.1, h.2]
  simp
theorem sl3 {lo hi : Option Expr} {tl th : O3} {p2 : Pos} (pa : P3 X W a ta) (pl : P3O X W lo tl) (ph : P3O X W hi th) : P3 X W (.Subscript a (.Slice lo hi none p2) pos) (tSl3 ta tl th) := by
  refine ⟨PE.imp (pe_slice (sl_list.or (sl_tupA.or sl_str)) pa.run pl.run ph.run) fun σ H Q h => ?_, fun ρ k k' x x' hk hx h =>
    pa.mon ρ _ _ _ _ (fun d ρ1 q => pl.mon ρ1 _ _ _ _ (fun l ρ2 q => ph.mon ρ2 _ _ _ _ (fun u ρ3 q => m_sl (fun z => hk z ρ3) q) hx q) hx q) hx h⟩
  obtain ⟨G, ρ, H0, R, h⟩ := h
  refine ⟨G, ρ, H0, R, pa.mon ρ _ _ _ _ (fun d ρ1 q => ?_) (fun _ _ z => z) h⟩
  intro v H1 H01 s1 R1 r1
  refine ⟨G, ρ1, H01, R1, pl.mon ρ1 _ _ _ _ (fun l ρ2 q => ?_) (fun _ _ z => KX.up z s1) q⟩
  intro H2 H02 s2 R2
  refine ⟨G, ρ2, H02, R2, ph.mon ρ2 _ _ _ _ (fun u ρ3 q => ?_) (fun _ _ z => KX.up z (s1.trans s2)) q⟩
  intro H3 H03 s3 R3
  have r3 := r1.mono (s2.trans s3)
  have s03 := (s1.trans s2).trans s3
  cases r3 with
  | @lst a vs ds ha ra =>
    refine .inl ⟨_, _, rfl, SqL.of (R3.ex _ _ ha), fun p hp => ?_⟩
    have g := Grow.one (H0 := H03) (o := .lst (cutV vs l u)) hp
    exact q _ _ _ (s03.trans (g.same R3.ex).1) (g.rel R3) (.lst upd_same ((ra.cut l u).mono (g.same R3.ex).1))
  | @tup a vs ds ha ra =>
    refine .inr (.inl ⟨_, _, rfl, SqT.of (R3.ex _ _ ha), fun w => ?_, fun w p hp => ?_⟩)
    · have q : KQ G H0 σ Q (.tup (cutL ds l u)) ρ3 := q
      rw [cut_whole ds l u (by rw [← ra.length]; exact w)] at q
      exact q _ _ _ s03 R3 (.tup ha ra)
    · have g := Grow.one (H0 := H03) (o := .tup (cutV vs l u)) hp
      exact q _ _ _ (s03.trans (g.same R3.ex).1) (g.rel R3) (.tup upd_same ((ra.cut l u).mono (g.same R3.ex).1))
  | str z => exact .inr (.inr ⟨z, rfl, q.1, q.2 _ _ _ s03 R3 (.str _)⟩)
  | _ => exact q.elim

/-! ### calls of built-ins, by values -/
abbrev GC := List D → (D → Prop) → Prop
def MonC3 (g : GC) : Prop := ∀ ds k k', (∀ z, k z → k' z) → g ds k → g ds k'
def C3 (r : List V → Hp → VK → Prop) (g : GC) : Prop := ∀ (pn : Option Addr) (H0 H : Hp) (vs : List V) (ds : List D) (k : D → Prop) (Q : VK), Same H0 H → RepA pn H0 vs ds → g ds k →
  (∀ z dz H0' H', Grow H0 H H0' H' → Rep pn H0' z dz → k dz → Q z H') → r vs H Q
def tCB3 (g : GC) (tr : A3) : E3 := fun ρ k x => tr ρ (fun ds ρ' => g ds fun z => k z ρ') x
theorem monCB {g : GC} (hm : MonC3 g) (m : MonE tr) : MonE (tCB3 g tr) := fun ρ k k' x x' hk hx h => m ρ _ _ _ _ (fun ds ρ' q => hm ds _ _ (fun z => hk z ρ') q) hx h
theorem cb3_of {r : List V → Hp → VK → Prop} {g : GC} (h : PE X e (tCB r (lA W tr))) (hr : C3 r g) (hm : MonC3 g) (m : MonE tr) : P3 X W e (tCB3 g tr) := by
  refine ⟨PE.imp h fun σ H Q h => ?_, monCB hm m⟩
  obtain ⟨G, ρ, H0, R, h⟩ := h
  refine ⟨G, ρ, H0, R, m ρ _ _ _ _ (fun ds ρ' q => ?_) (fun _ _ z => z) h⟩
  intro vs H' H0' s R' r
  exact hr G.pn H0' H' vs ds _ Q R'.ex r q fun z dz H1 H2 g rz kz => kz z H2 H1 (s.trans (g.same R'.ex).1) (g.rel R') rz
section
variable {x : Str} {id T : String} {r : List V → Hp → VK → Prop} {g : GC} {p : Pos}
theorem cb3 (hc : CallR X (.builtin id) r) (hr : C3 r g) (hm : MonC3 g) (hg : Gl X x) (hn : X.mg x = none) (hv : bootBuiltins x = some (.builtin id)) (ha : P3A X W (e :: es) tr) (hnn : x ≠ "__name__" := by decide) (hdb : (x == ("__debug__" : Str)) = false := by decide)
    (he : starEach (e :: es) X.env = (false, eval e X.env) :: starEach es X.env := by rfl) (hpl : (backTo pos (starEach es X.env)).any (·.1) = false := by rfl) : P3 X W (.Call (.Name x p) (e :: es) [] pos) (tCB3 g tr) :=
  cb3_of (pe_callB hc hg hn hv ha.run hnn hdb he hpl) hr hm ha.mon
theorem cty3 (hc : CallR X (.type T) r) (hr : C3 r g) (hm : MonC3 g) (hg : Gl X x) (hn : X.mg x = none) (hv : bootBuiltins x = some (.type T)) (ha : P3A X W (e :: es) tr) (hnn : x ≠ "__name__" := by decide) (hdb : (x == ("__debug__" : Str)) = false := by decide)
    (he : starEach (e :: es) X.env = (false, eval e X.env) :: starEach es X.env := by rfl) (hpl : (backTo pos (starEach es X.env)).any (·.1) = false := by rfl) : P3 X W (.Call (.Name x p) (e :: es) [] pos) (tCB3 g tr) :=
  cb3_of (pe_callTy hc hg hn hv ha.run hnn hdb he hpl) hr hm ha.mon
end
def gLen : GC
  | [.lst xs], k => k (.int xs.length)
  | [.tup xs], k => k (.int xs.length)
  | [.str z], k => z.length ≤ sizeLine ∧ k (.int z.length)
  | _, _ => False
def gAbs : GC
  | [.int i], k => k (.int (if i < 0 then -i else i))
  | _, _ => False
def gInt : GC
  | [.int i], k => k (.int i)
  | [.bl b], k => k (.int (if b then 1 else 0))
  | _, _ => False
def allInts : List D → Option (List Int)
  | [] => some []
  | .int i :: r => (allInts r).map (i :: ·)
  | _ :: _ => none
def gSum : GC
  | [.lst xs], k => optK (allInts xs) fun ns => k (.int ns.sum)
  | [.tup xs], k => optK (allInts xs) fun ns => k (.int ns.sum)
  | _, _ => False
/-- sum of a tuple of ints -/
def rSumT (K : PySem.W.Frag) : List V → Hp → VK → Prop := fun vs H Q => ∃ (a : Addr) (ns : List Int), vs = [V.ref a] ∧ SqT K H a (ns.map V.int) ∧ Q (.int ns.sum) H
theorem ints_getD : ∀ {ns : List Int} {us : List Value} {i : Nat} {v : Value}, Vals (ns.map V.int) us → us[i]? = some v → ∃ t, v = .int (ns.getD i 0) t
  | [], _, i, v, .nil, h => by simp at h
  | n :: r, _, 0, v, .cons h _, e => by
    obtain ⟨t, rfl⟩ := h
    exact ⟨t, (Option.some.inj e).symm⟩
  | n :: r, _, i + 1, v, .cons _ q, e => by
    have := ints_getD (i := i) q (by simpa using e)
    simpa using this
theorem cr_sumT {X : Cx} (hc : X.calm = true) : CallR X (.builtin "sum") (rSumT X.K) := by
  intro pins s σ H vs us Q I r h
  obtain ⟨a, ns, rfl, hs, q⟩ := h
  obtain ⟨its, rv, p, _⟩ := I.tuple hs
  rw [Vals.ref1 r]
  have hT : s.heap.IsTuple a its.toArray := p
  obtain ⟨o, ho, _⟩ := id hT
  have alt : a < s.heap.objs.size := Heap.lt_size ho
  refine PySem.call_sum_walkG (wpAny_pyIter_tuple hT ?_)
  refine ⟨s.heap.objs.size, _, _, _, _, _, fun i => ns.getD i 0, rfl, Walks.tuple (A := X.A.in1) (I.ok.hd hc) s.heap.objs.size a (Nat.ne_of_lt alt) its.toArray, ⟨⟨_, Heap.get?_push_size _ rfl, rfl, rfl⟩, hT.at fun o e => Heap.get?_push_of_some _ e⟩, fun b hb => ?_, fun i v e => ints_getD rv (by simpa using e), fun h' tk t' hk => ?_⟩
  · show b < (s.heap.push _).objs.size
    rw [Heap.size_push]
    rcases List.mem_cons.mp hb with rfl | hb
    · exact Nat.lt_succ_self _
    · rw [List.mem_singleton.mp hb]
      exact Nat.lt_succ_of_lt alt
  · have e : preSum (fun i => ns.getD i 0) its.toArray.size = ns.sum := by
      have hl := rv.length
      rw [List.length_map] at hl
      rw [preSum_getD, List.size_toArray, ← hl, List.take_length]
    rw [e]
    exact ⟨.int _, H, I.kept (t' := tk) fun b u e => hk b u (by simp; exact Nat.ne_of_lt (Heap.lt_size e)) (Heap.get?_push_of_some _ e), ⟨_, rfl⟩, q⟩
def gTuple : GC
  | [.lst xs], k => k (.tup xs)
  | [.tup xs], k => k (.tup xs)
  | _, _ => False
def gList : GC
  | [.lst xs], k => k (.lst xs)
  | [.tup xs], k => k (.lst xs)
  | _, _ => False
def gGcd : GC
  | [.int i, .int j], k => k (.int ((Nat.gcd i.natAbs j.natAbs : Nat) : Int))
  | _, _ => False
theorem rep1 {pn : Option Addr} {H : Hp} {vs : List V} {d : D} (r : RepA pn H vs [d]) : ∃ v, vs = [v] ∧ Rep pn H v d := by
  cases r with
  | cons h t => cases t; exact ⟨_, rfl, h⟩
theorem rep2 {pn : Option Addr} {H : Hp} {vs : List V} {d d' : D} (r : RepA pn H vs [d, d']) : ∃ v w, vs = [v, w] ∧ Rep pn H v d ∧ Rep pn H w d' := by
  cases r with
  | cons h t =>
    obtain ⟨w, rfl, q⟩ := rep1 t
    exact ⟨_, _, rfl, h, q⟩
theorem c3_one {r : List V → Hp → VK → Prop} {g : GC} (hg : ∀ ds k, g ds k → ∃ d, ds = [d]) (h : ∀ (pn : Option Addr) (H0 H : Hp) (v : V) (d : D) (k : D → Prop) (Q : VK), Same H0 H → Rep pn H0 v d → g [d] k →
    (∀ z dz H0' H', Grow H0 H H0' H' → Rep pn H0' z dz → k dz → Q z H') → r [v] H Q) : C3 r g := by
  intro pn H0 H vs ds k Q s ra q f
  obtain ⟨d, rfl⟩ := hg ds k q
  obtain ⟨v, rfl, rv⟩ := rep1 ra
  exact h pn H0 H v d k Q s rv q f
theorem c3_len {K : PySem.W.Frag} : C3 (fun xs H Q => ((∃ p ys, xs = [.ref p] ∧ (SqL K H p ys ∨ SqT K H p ys) ∧ Q (.int ys.length) H) ∨ (∃ z, xs = [.str z] ∧ z.length ≤ sizeLine ∧ Q (.int z.length) H))) gLen := by
  refine c3_one (fun ds k h => ?_) (fun pn H0 H v d k Q s r h q => ?_)
  · rcases ds with _ | ⟨d, _ | ⟨e, l⟩⟩
    · exact h.elim
    · exact ⟨d, rfl⟩
    · cases d <;> exact h.elim
  · cases r with
    | lst ha ra => exact .inl ⟨_, _, rfl, .inl (SqL.of (s _ _ ha)), q _ _ _ _ .refl (by rw [ra.length]; exact .int _) h⟩
    | tup ha ra => exact .inl ⟨_, _, rfl, .inr (SqT.of (s _ _ ha)), q _ _ _ _ .refl (by rw [ra.length]; exact .int _) h⟩
    | str z => exact .inr ⟨z, rfl, h.1, q _ _ _ _ .refl (.int _) h.2⟩
    | _ => exact h.elim
theorem c3_abs : C3 (fun xs H Q => ∃ i, xs = [.int i] ∧ Q (.int (if i < 0 then -i else i)) H) gAbs := by
  refine c3_one (fun ds k h => ?_) (fun pn H0 H v d k Q s r h q => ?_)
  · rcases ds with _ | ⟨d, _ | ⟨e, l⟩⟩
    · exact h.elim
    · exact ⟨d, rfl⟩
    · cases d <;> exact h.elim
  · cases r with
    | int i => exact ⟨_, rfl, q _ _ _ _ .refl (.int _) h⟩
    | _ => exact h.elim
theorem c3_int : C3 (fun xs H Q => (∃ i, xs = [.int i] ∧ Q (.int i) H) ∨ ∃ k, xs = [.bl k] ∧ Q (.int (if k then 1 else 0)) H) gInt := by
  refine c3_one (fun ds k h => ?_) (fun pn H0 H v d k Q s r h q => ?_)
  · rcases ds with _ | ⟨d, _ | ⟨e, l⟩⟩
    · exact h.elim
    · exact ⟨d, rfl⟩
    · cases d <;> exact h.elim
  · cases r with
    | int i => exact .inl ⟨_, rfl, q _ _ _ _ .refl (.int _) h⟩
    | bl b => exact .inr ⟨_, rfl, q _ _ _ _ .refl (.int _) h⟩
    | _ => exact h.elim
theorem allInts_map : ∀ {xs : List D} {ns : List Int}, allInts xs = some ns → xs = ns.map D.int
  | [], ns, h => by cases h; rfl
  | d :: r, ns, h => by
    cases d with
    | int i =>
      simp only [allInts, Option.map_eq_some_iff] at h
      obtain ⟨ms, h1, rfl⟩ := h
      rw [List.map_cons, allInts_map h1]
    | _ => cases h
theorem allInts_of : ∀ (ns : List Int), allInts (ns.map D.int) = some ns
  | [] => rfl
  | n :: r => by simp only [List.map_cons, allInts, allInts_of r, Option.map_some]
theorem c3_sum {K : PySem.W.Frag} : C3 (fun vs H Q => rSum K vs H Q ∨ rSumT K vs H Q) gSum := by
  refine c3_one (fun ds k h => ?_) (fun pn H0 H v d k Q s r h q => ?_)
  · rcases ds with _ | ⟨d, _ | ⟨e, l⟩⟩
    · exact h.elim
    · exact ⟨d, rfl⟩
    · cases d <;> exact h.elim
  · cases r with
    | lst ha ra =>
      obtain ⟨ns, e, h⟩ := optK_some h
      rw [allInts_map e] at ra
      have e2 := ra.ints_of
      subst e2
      exact .inl ⟨_, ns, rfl, SqL.of (s _ _ ha), q _ _ _ _ .refl (.int _) h⟩
    | tup ha ra =>
      obtain ⟨ns, e, h⟩ := optK_some h
      rw [allInts_map e] at ra
      have e2 := ra.ints_of
      subst e2
      exact .inr ⟨_, ns, rfl, SqT.of (s _ _ ha), q _ _ _ _ .refl (.int _) h⟩
    | _ => exact h.elim
theorem c3_tuple {K : PySem.W.Frag} : C3 (fun xs H Q => ∃ p ys, xs = [.ref p] ∧ ((SqL K H p ys ∧ ∀ l, H l = none → Q (.ref l) (upd H l (.tup ys))) ∨ (SqT K H p ys ∧ Q (.ref p) H))) gTuple := by
  refine c3_one (fun ds k h => ?_) (fun pn H0 H v d k Q s r h q => ?_)
  · rcases ds with _ | ⟨d, _ | ⟨e, l⟩⟩
    · exact h.elim
    · exact ⟨d, rfl⟩
    · cases d <;> exact h.elim
  · cases r with
    | @lst a vs ds ha ra =>
      refine ⟨_, _, rfl, .inl ⟨SqL.of (s _ _ ha), fun p hp => ?_⟩⟩
      have g := Grow.one (H0 := H0) (o := .tup vs) hp
      exact q _ _ _ _ g (.tup upd_same (ra.mono (g.same s).1)) h
    | tup ha ra => exact ⟨_, _, rfl, .inr ⟨SqT.of (s _ _ ha), q _ _ _ _ .refl (.tup ha ra) h⟩⟩
    | _ => exact h.elim
theorem c3_list {K : PySem.W.Frag} : C3 (fun xs H Q => ∃ p ys, xs = [.ref p] ∧ (SqL K H p ys ∨ SqT K H p ys) ∧ ∀ l, H l = none → Q (.ref l) (upd H l (.lst ys))) gList := by
  refine c3_one (fun ds k h => ?_) (fun pn H0 H v d k Q s r h q => ?_)
  · rcases ds with _ | ⟨d, _ | ⟨e, l⟩⟩
    · exact h.elim
    · exact ⟨d, rfl⟩
    · cases d <;> exact h.elim
  · cases r with
    | @lst a vs ds ha ra =>
      refine ⟨_, _, rfl, .inl (SqL.of (s _ _ ha)), fun p hp => ?_⟩
      have g := Grow.one (H0 := H0) (o := .lst vs) hp
      exact q _ _ _ _ g (.lst upd_same (ra.mono (g.same s).1)) h
    | @tup a vs ds ha ra =>
      refine ⟨_, _, rfl, .inr (SqT.of (s _ _ ha)), fun p hp => ?_⟩
      have g := Grow.one (H0 := H0) (o := .lst vs) hp
      exact q _ _ _ _ g (.lst upd_same (ra.mono (g.same s).1)) h
    | _ => exact h.elim
theorem c3_gcd : C3 rGcd gGcd := by
  intro pn H0 H vs ds k Q s ra h q
  rcases ds with _ | ⟨d, _ | ⟨e, _ | ⟨f, l⟩⟩⟩
  · exact h.elim
  · cases d <;> exact h.elim
  · obtain ⟨v, w, rfl, r1, r2⟩ := rep2 ra
    cases r1 with
    | int i =>
      cases r2 with
      | int j => exact ⟨i, j, rfl, q _ _ _ _ .refl (.int _) h⟩
      | _ => exact h.elim
    | _ => cases r2 <;> exact h.elim
  · cases d <;> cases e <;> exact h.elim
theorem mc_of {g : GC} (h : ∀ d k k', (∀ z, k z → k' z) → g [d] k → g [d] k') (h0 : ∀ k, ¬ g [] k) (h2 : ∀ d e l k, ¬ g (d :: e :: l) k) : MonC3 g := fun ds k k' f q => by
  rcases ds with _ | ⟨d, _ | ⟨e, l⟩⟩
  · exact (h0 _ q).elim
  · exact h d k k' f q
  · exact (h2 _ _ _ _ q).elim
theorem mc_len : MonC3 gLen := mc_of (fun d k k' f q => by cases d <;> first | exact f _ q | exact mon_and (f _) q | exact q) (fun _ q => q) (fun d e l k q => by cases d <;> exact q)
theorem mc_abs : MonC3 gAbs := mc_of (fun d k k' f q => by cases d <;> first | exact f _ q | exact q) (fun _ q => q) (fun d e l k q => by cases d <;> exact q)
theorem mc_int : MonC3 gInt := mc_of (fun d k k' f q => by cases d <;> first | exact f _ q | exact q) (fun _ q => q) (fun d e l k q => by cases d <;> exact q)
theorem mc_sum : MonC3 gSum := mc_of (fun d k k' f q => by
  cases d <;> first
    | exact optK_mono (fun _ => f _) q
    | exact q) (fun _ q => q) (fun d e l k q => by cases d <;> exact q)
theorem mc_tuple : MonC3 gTuple := mc_of (fun d k k' f q => by cases d <;> first | exact f _ q | exact q) (fun _ q => q) (fun d e l k q => by cases d <;> exact q)
theorem mc_list : MonC3 gList := mc_of (fun d k k' f q => by cases d <;> first | exact f _ q | exact q) (fun _ q => q) (fun d e l k q => by cases d <;> exact q)
theorem mc_gcd : MonC3 gGcd := fun ds k k' f q => by
  rcases ds with _ | ⟨d, _ | ⟨e, _ | ⟨c, l⟩⟩⟩
  · exact q
  · cases d <;> exact q
  · cases d <;> cases e <;> first | exact f _ q | exact q
  · cases d <;> cases e <;> exact q
theorem len3 {p : Pos} (hg : Gl X "len") (hn : X.mg "len" = none) (h : P3 X W a ta) (he : starEach [a] X.env = (false, eval a X.env) :: starEach [] X.env := by rfl) : P3 X W (.Call (.Name "len" p) [a] [] pos) (tCB3 gLen (tCons3 ta tNil3)) :=
  cb3 (CallR.or call_len_seq call_len_str) c3_len mc_len hg hn PySem.boot_len (acons h anil he) (he := he)
theorem abs3 {p : Pos} (hg : Gl X "abs") (hn : X.mg "abs" = none) (h : P3 X W a ta) (he : starEach [a] X.env = (false, eval a X.env) :: starEach [] X.env := by rfl) : P3 X W (.Call (.Name "abs" p) [a] [] pos) (tCB3 gAbs (tCons3 ta tNil3)) :=
  cb3 call_abs c3_abs mc_abs hg hn (by decide +kernel) (acons h anil he) (he := he)
theorem int3c {p : Pos} (hg : Gl X "int") (hn : X.mg "int" = none) (h : P3 X W a ta) (he : starEach [a] X.env = (false, eval a X.env) :: starEach [] X.env := by rfl) : P3 X W (.Call (.Name "int" p) [a] [] pos) (tCB3 gInt (tCons3 ta tNil3)) :=
  cty3 call_int1 c3_int mc_int hg hn (by decide +kernel) (acons h anil he) (he := he)
theorem sum3 {p : Pos} (hc : X.calm = true) (hg : Gl X "sum") (hn : X.mg "sum" = none) (h : P3 X W a ta) (he : starEach [a] X.env = (false, eval a X.env) :: starEach [] X.env := by rfl) : P3 X W (.Call (.Name "sum" p) [a] [] pos) (tCB3 gSum (tCons3 ta tNil3)) :=
  cb3 (CallR.or (cr_sum hc) (cr_sumT hc)) c3_sum mc_sum hg hn (by decide +kernel) (acons h anil he) (he := he)
theorem tuple3 {p : Pos} (hg : Gl X "tuple") (hn : X.mg "tuple" = none) (h : P3 X W a ta) (he : starEach [a] X.env = (false, eval a X.env) :: starEach [] X.env := by rfl) : P3 X W (.Call (.Name "tuple" p) [a] [] pos) (tCB3 gTuple (tCons3 ta tNil3)) :=
  cty3 call_tuple_of c3_tuple mc_tuple hg hn (by decide +kernel) (acons h anil he) (he := he)
theorem list3 {p : Pos} (hg : Gl X "list") (hn : X.mg "list" = none) (h : P3 X W a ta) (he : starEach [a] X.env = (false, eval a X.env) :: starEach [] X.env := by rfl) : P3 X W (.Call (.Name "list" p) [a] [] pos) (tCB3 gList (tCons3 ta tNil3)) :=
  cty3 call_list_of c3_list mc_list hg hn (by decide +kernel) (acons h anil he) (he := he)
theorem gcd3 {p : Pos} (hg : Gl X "gcd") (hn : X.mg "gcd" = some (.builtin "math.gcd")) (h : P3 X W a ta) (h2 : P3 X W b tb) (he : starEach [a, b] X.env = (false, eval a X.env) :: starEach [b] X.env := by rfl) (he2 : starEach [b] X.env = (false, eval b X.env) :: starEach [] X.env := by rfl)
    (hpl : (backTo pos (starEach [b] X.env)).any (·.1) = false := by rfl) : P3 X W (.Call (.Name "gcd" p) [a, b] [] pos) (tCB3 gGcd (tCons3 ta (tCons3 tb tNil3))) :=
  cb3_of (pe_callBfun cr_gcd hg hn (acons h (acons h2 anil he2) he).run (he := he) (hpl := hpl)) c3_gcd mc_gcd (acons h (acons h2 anil he2) he).mon
end
end L3
/-! L3: statements, loops, comprehensions -/
namespace L3
open PySem PySem.Spec PyProof.Rows L2

/-! ### an object that is being built: known to nobody, touched by nobody -/
def Ent.res (G : Ent) (l : Addr) (o : HO) : Ent := ⟨upd G.Hf l o, G.H0, G.pn, G.ad⟩
section
variable {G : Ent} {H0 H : Hp} {ρ : Env3} {σ : L2.St} {l : Addr} {o o' : HO}
theorem Rel.res (R : Rel G H0 ρ σ H) (hl : H l = some o) (h0 : H0 l = none) (hx : ∀ j, ¬ OwnS ρ σ j l) : Rel (G.res l o) H0 ρ σ H := by
  refine ⟨R.ex, R.ex0, fun a u e hn => ?_, fun a u e => ?_, R.len, fun i => ?_, R.own, R.pen, R.fix⟩
  · have e : upd G.Hf l o a = some u := e
    by_cases h : a = l
    · subst h; rw [upd_same] at e; rw [hl]; exact e
    · rw [upd_ne h] at e; exact R.keep a u e hn
  · have ha : a ≠ l := ne_of_none e h0
    rcases R.new a u e with h | h | h
    · exact .inl h
    · refine .inr (.inl ?_)
      show upd G.Hf l o a = none
      rw [upd_ne ha]; exact h
    · exact .inr (.inr h)
  · have h := R.slot i
    cases e : ρ.sl[i]? with
    | none => exact True.intro
    | some s =>
      rw [e] at h
      cases s with
      | un => exact True.intro
      | val d => exact h
      | own d =>
        obtain ⟨m, h1, h2, h3, h4, h5⟩ := h
        refine ⟨m, h1, h2, h3, ?_, h5⟩
        show upd G.Hf l o m = none
        rw [upd_ne (fun z => hx i ⟨⟨d, e⟩, by rw [← z]; exact h1⟩)]; exact h4
theorem Rel.res_no (R : Rel (G.res l o) H0 ρ σ H) (ht : ∀ xs, o ≠ .tup xs) (hg : G.H0 l = none) (hp : G.pn ≠ some l) : H l = some o ∧ H0 l = none ∧ ∀ j, ¬ OwnS ρ σ j l := by
  have hf : (G.res l o).Hf l = some o := upd_same
  refine ⟨R.keep l o hf hp, ?_, fun j ⟨⟨d, q⟩, q2⟩ => ?_⟩
  · cases e : H0 l with
    | none => rfl
    | some u =>
      rcases R.new l u e with ⟨z, h⟩ | h | ⟨xs, h⟩
      · have h : G.H0 l = some z := h
        rw [hg] at h; cases h
      · rw [hf] at h; cases h
      · have q := R.ex l u e
        rw [R.keep l o hf hp, h] at q
        exact (ht xs (Option.some.inj q)).elim
  · obtain ⟨m, h1, _, _, h4, _⟩ := R.owned q
    rw [q2] at h1
    cases h1
    rw [hf] at h4; cases h4
theorem Rel.res_put (R : Rel (G.res l o) H0 ρ σ H) (ht : ∀ xs, o ≠ .tup xs) (hg : G.H0 l = none) (hp : G.pn ≠ some l) : Rel (G.res l o') H0 ρ σ (upd H l o') := by
  obtain ⟨hl, h0, hx⟩ := R.res_no ht hg hp
  refine ⟨fun a u e => ?_, R.ex0, fun a u e hn => ?_, fun a u e => ?_, R.len, fun i => ?_, R.own, fun q hq => ?_, R.fix⟩
  · rw [upd_ne (ne_of_none e h0)]; exact R.ex a u e
  · have e : upd G.Hf l o' a = some u := e
    by_cases h : a = l
    · subst h; rw [upd_same] at e ⊢; exact e
    · rw [upd_ne h] at e ⊢
      exact R.keep a u (by show upd G.Hf l o a = some u; rw [upd_ne h]; exact e) hn
  · rcases R.new a u e with h | h | h
    · exact .inl h
    · have ha : a ≠ l := ne_of_none e h0
      have h : upd G.Hf l o a = none := h
      rw [upd_ne ha] at h
      refine .inr (.inl ?_)
      show upd G.Hf l o' a = none
      rw [upd_ne ha]; exact h
    · exact .inr (.inr h)
  · have h := R.slot i
    cases e : ρ.sl[i]? with
    | none => exact True.intro
    | some s =>
      rw [e] at h
      cases s with
      | un => exact True.intro
      | val d => exact h
      | own d =>
        obtain ⟨m, h1, h2, h3, h4, h5⟩ := h
        have hm : m ≠ l := fun z => hx i ⟨⟨d, e⟩, by rw [← z]; exact h1⟩
        refine ⟨m, h1, h2.mono (Same.refl _) (upd_ne hm), h3, ?_, h5⟩
        have h4 : upd G.Hf l o m = none := h4
        rw [upd_ne hm] at h4
        show upd G.Hf l o' m = none
        rw [upd_ne hm]; exact h4
  · obtain ⟨q1, c, cs, t, r, q2, q3⟩ := R.pen q hq
    have hql : q ≠ l := fun z => hp (by rw [← z]; exact hq)
    exact ⟨q1, c, cs, t, r, by rw [upd_ne hql]; exact q2, q3⟩
theorem Rel.unres (R : Rel (G.res l o) H0 ρ σ H) (hf : G.Hf l = none) : Rel G H0 ρ σ H := by
  have up : ∀ a, (G.res l o).Hf a = none → G.Hf a = none := fun a h => by
    by_cases ha : a = l
    · rw [ha]; exact hf
    · have h : upd G.Hf l o a = none := h
      rw [upd_ne ha] at h; exact h
  refine ⟨R.ex, R.ex0, fun a u e hn => R.keep a u (by show upd G.Hf l o a = some u; rw [upd_ne (ne_of_none e hf)]; exact e) hn, fun a u e => ?_, R.len, fun i => ?_, R.own, R.pen, R.fix⟩
  · rcases R.new a u e with h | h | h
    · exact .inl h
    · exact .inr (.inl (up a h))
    · exact .inr (.inr h)
  · have h := R.slot i
    cases e : ρ.sl[i]? with
    | none => exact True.intro
    | some s =>
      rw [e] at h
      cases s with
      | un => exact True.intro
      | val d => exact h
      | own d =>
        obtain ⟨m, h1, h2, h3, h4, h5⟩ := h
        exact ⟨m, h1, h2, h3, up m h4, h5⟩
/-- known from now on -/
theorem Rel.tell (R : Rel G H0 ρ σ H) (hl : H l = some o) (h0 : H0 l = none) (hf : G.Hf l = none) (hp : G.pn ≠ some l) (hx : ∀ j, ¬ OwnS ρ σ j l) : Same H0 (upd H0 l o) ∧ Rel G (upd H0 l o) ρ σ H := by
  have s0 : Same H0 (upd H0 l o) := fun a u e => by rw [upd_ne (ne_of_none e h0)]; exact e
  refine ⟨s0, fun a u e => ?_, fun a u e => s0 a u (R.ex0 a u e), R.keep, fun a u e => ?_, R.len, fun i => ?_, R.own, fun q hq => ?_, R.fix⟩
  · by_cases h : a = l
    · subst h; rw [upd_same] at e; rw [hl]; exact e
    · rw [upd_ne h] at e; exact R.ex a u e
  · by_cases h : a = l
    · subst h; exact .inr (.inl hf)
    · rw [upd_ne h] at e; exact R.new a u e
  · have h := R.slot i
    cases e : ρ.sl[i]? with
    | none => exact True.intro
    | some s =>
      rw [e] at h
      cases s with
      | un => exact True.intro
      | val d => obtain ⟨x, h1, h2⟩ := h; exact ⟨x, h1, h2.mono s0⟩
      | own d =>
        obtain ⟨m, h1, h2, h3, h4, h5⟩ := h
        have hm : m ≠ l := fun z => hx i ⟨⟨d, e⟩, by rw [← z]; exact h1⟩
        exact ⟨m, h1, h2.mono s0 rfl, by rw [upd_ne hm]; exact h3, h4, h5⟩
  · obtain ⟨q1, c, cs, t, r, q2, q3, q4⟩ := R.pen q hq
    have hql : q ≠ l := fun z => hp (by rw [← z]; exact hq)
    exact ⟨by rw [upd_ne hql]; exact q1, c, cs, t, r, q2, s0 _ _ q3, q4⟩
/-- a slot set to a datum, or forgotten -/
theorem Rel.sett (R : Rel G H0 ρ σ H) {i : Nat} {s : Slot} {x : Option V} (hs : SlotOk G H0 H (some s) (some x)) (hn : ∀ d, s ≠ .own d) : Rel G H0 (ρ.put i s) (σ.set i x) H := by
  refine ⟨R.ex, R.ex0, R.keep, R.new, ?_, fun j => ?_, fun j k m a b => ?_, R.pen, R.fix.put hn set_off⟩
  · show (σ.set i _).length = (ρ.sl.set i _).length
    rw [List.length_set, List.length_set]; exact R.len
  · by_cases hj : j = i
    · subst hj
      show SlotOk G _ H (ρ.sl.set j s)[j]? (σ.set j x)[j]?
      by_cases hi : j < ρ.sl.length
      · rw [List.getElem?_set_self hi, List.getElem?_set_self (by rw [R.len]; exact hi)]; exact hs
      · rw [List.getElem?_eq_none_iff.mpr (by rw [List.length_set]; omega)]; exact True.intro
    · show SlotOk G _ H (ρ.sl.set i s)[j]? (σ.set i x)[j]?
      rw [List.getElem?_set_ne (Ne.symm hj), List.getElem?_set_ne (Ne.symm hj)]
      exact R.slot j
  · have ob : ∀ j, OwnS (ρ.put i s) (σ.set i x) j m → OwnS ρ σ j m := fun j ⟨⟨d', q⟩, q2⟩ => by
      have q : (ρ.sl.set i s)[j]? = some (.own d') := q
      by_cases hj : j = i
      · subst hj
        have hi : j < ρ.sl.length := by
          have := (List.getElem?_eq_some_iff.mp q).1
          rw [List.length_set] at this; exact this
        rw [List.getElem?_set_self hi] at q
        exact (hn d' (Option.some.inj q)).elim
      · rw [List.getElem?_set_ne (Ne.symm hj)] at q q2; exact ⟨⟨_, q⟩, q2⟩
    exact R.own j k m (ob j a) (ob k b)
theorem Rel.setv (R : Rel G H0 ρ σ H) {i : Nat} {x : V} {d : D} (h : Rep G.pn H0 x d) : Rel G H0 (ρ.put i (.val d)) (σ.set i (some x)) H := R.sett (s := .val d) ⟨x, rfl, h⟩ (fun d z => nomatch z)
end

/-! ### the names of a comprehension -/
def Env3.wipe (ρ : Env3) : List Nat → Env3
  | [] => ρ
  | v :: vs => (ρ.wipe vs).put v .un
def backS (ρ : Env3) (v : Nat) : Slot :=
  match ρ.sl[v]? with
  | some (.val d) => .val d
  | _ => .un
/-- behind a comprehension: its own names are again what they were -/
def Env3.back (ρ ρ2 : Env3) : List Nat → Env3
  | [] => ρ2
  | v :: vs => Env3.back ρ (ρ2.put v (backS ρ v)) vs
section
variable {G : Ent} {H0 H : Hp} {ρ : Env3} {σ : L2.St}
theorem Rel.wipe (R : Rel G H0 ρ σ H) : ∀ vs : List Nat, Rel G H0 (ρ.wipe vs) (L2.wipe σ vs) H
  | [] => R
  | v :: vs => (R.wipe vs).drop v none
theorem Rel.back {ρ1 : Env3} {H01 H1 : Hp} (R1 : Rel G H01 ρ1 σ H1) (s : Same H01 H0) : ∀ (vs : List Nat) (ρ2 : Env3), vs.Nodup → Rel G H0 ρ2 (L2.wipe σ vs) H → Rel G H0 (Env3.back ρ1 ρ2 vs) σ H
  | [], ρ2, _, R => R
  | v :: vs, ρ2, nd, R => by
    have hv : v ∉ vs := (List.nodup_cons.mp nd).1
    refine R1.back s vs _ (List.nodup_cons.mp nd).2 ?_
    have hw := wipe_out (σ := σ) hv
    have R : Rel G H0 ρ2 ((L2.wipe σ vs).set v none) H := R
    cases e : σ[v]? with
    | none =>
      have R2 := R.sett (i := v) (s := backS ρ1 v) (x := none) (by
        unfold backS
        split
        · rename_i d q
          obtain ⟨x, h1, h2⟩ := R1.val q
          rw [e] at h1; cases h1
        · exact True.intro) (fun d z => by unfold backS at z; split at z <;> cases z)
      have hl : ¬ v < (L2.wipe σ vs).length := by rw [wipe_length]; exact fun z => by rw [List.getElem?_eq_getElem z] at e; cases e
      rw [List.set_set, List.set_eq_of_length_le (by omega)] at R2
      exact R2
    | some x =>
      have R2 := R.sett (i := v) (s := backS ρ1 v) (x := x) (by
        unfold backS
        split
        · rename_i d q
          obtain ⟨y, h1, h2⟩ := R1.val q
          rw [e] at h1
          exact ⟨y, h1, h2.mono s⟩
        · exact True.intro) (fun d z => by unfold backS at z; split at z <;> cases z)
      rw [List.set_set] at R2
      rw [e] at hw
      have e3 : (L2.wipe σ vs).set v x = L2.wipe σ vs := by
        apply List.ext_getElem?
        intro j
        by_cases hj : j = v
        · subst hj
          rw [List.getElem?_set_self (List.getElem?_eq_some_iff.mp hw).1, hw]
        · rw [List.getElem?_set_ne (Ne.symm hj)]
      rw [e3] at R2
      exact R2
/-- the slots but some are as they were -/
def StO (ws : List Nat) (σ σ' : L2.St) : Prop := σ'.length = σ.length ∧ ∀ i, i ∉ ws → σ'[i]? = σ[i]?
theorem wipe_none {σ : L2.St} {i : Nat} : ∀ {vs : List Nat}, i ∈ vs → i < σ.length → (L2.wipe σ vs)[i]? = some none
  | [], h, _ => absurd h (by simp)
  | v :: vs, h, hl => by
    show ((L2.wipe σ vs).set v none)[i]? = some none
    by_cases e : i = v
    · subst e; rw [List.getElem?_set_self (by rw [wipe_length]; exact hl)]
    · rw [List.getElem?_set_ne (Ne.symm e)]
      rcases List.mem_cons.mp h with h | h
      · exact (e h).elim
      · exact wipe_none h hl
theorem StO.wipe {ws vs : List Nat} {σ σ' : L2.St} (h : StO ws σ σ') (hs : ∀ i ∈ ws, i ∈ vs) : L2.wipe σ' vs = L2.wipe σ vs := by
  apply List.ext_getElem?
  intro i
  by_cases hi : i < σ.length
  · by_cases hv : i ∈ vs
    · rw [wipe_none hv (by rw [h.1]; exact hi), wipe_none hv hi]
    · rw [wipe_out hv, wipe_out hv]
      exact h.2 i fun z => hv (hs i z)
  · rw [List.getElem?_eq_none_iff.mpr (by rw [wipe_length, h.1]; omega), List.getElem?_eq_none_iff.mpr (by rw [wipe_length]; omega)]
theorem wipe_wipe {σ : L2.St} {vs : List Nat} : L2.wipe (L2.wipe σ vs) vs = L2.wipe σ vs := by
  apply List.ext_getElem?
  intro i
  by_cases hi : i < σ.length
  · by_cases hv : i ∈ vs
    · rw [wipe_none hv (by rw [wipe_length]; exact hi), wipe_none hv hi]
    · rw [wipe_out hv]
  · rw [List.getElem?_eq_none_iff.mpr (by rw [wipe_length, wipe_length]; omega), List.getElem?_eq_none_iff.mpr (by rw [wipe_length]; omega)]
end

/-! ### targets -/
abbrev G3 := D → Env3 → (Env3 → Prop) → Prop
abbrev Gs3 := List D → Env3 → (Env3 → Prop) → Prop
structure P3G (X : Cx) (ws : List Nat) (tg : Expr) (g : G3) : Prop where
  run : PG X tg (fun v σ H Q => ∃ G ρ H0 d, Rel G H0 ρ σ H ∧ Rep G.pn H0 v d ∧ g d ρ (fun ρ' => ∀ σ' H' H0', Same H0 H0' → Rel G H0' ρ' σ' H' → StO ws σ σ' → Q σ' H'))
  mon : ∀ d ρ k k', (∀ ρ', k ρ' → k' ρ') → g d ρ k → g d ρ k'
structure P3Gs (X : Cx) (ws : List Nat) (tg : List Expr) (g : Gs3) : Prop where
  run : PGs X tg (fun vs σ H Q => ∃ G ρ H0 ds, Rel G H0 ρ σ H ∧ RepA G.pn H0 vs ds ∧ g ds ρ (fun ρ' => ∀ σ' H' H0', Same H0 H0' → Rel G H0' ρ' σ' H' → StO ws σ σ' → Q σ' H'))
  mon : ∀ d ρ k k', (∀ ρ', k ρ' → k' ρ') → g d ρ k → g d ρ k'
def gName3 (i : Nat) : G3 := fun d ρ k => k (ρ.put i (.val d))
def gTup3 (n : Nat) (g : Gs3) : G3 := fun d ρ k =>
  match d with
  | .tup ds => ds.length = n ∧ g ds ρ k
  | _ => False
def gNil3 : Gs3 := fun ds ρ k =>
  match ds with
  | [] => k ρ
  | _ => False
def gCons3 (g : G3) (gs : Gs3) : Gs3 := fun ds ρ k =>
  match ds with
  | d :: r => g d ρ fun ρ1 => gs r ρ1 k
  | [] => False
theorem PG.imp {X : Cx} {e : Expr} {t t' : TG} (h : PG X e t) (q : ∀ v σ H Q, t' v σ H Q → t v σ H Q) : PG X e t' := ⟨fun pins s σ H v u Q I r z => h.run pins s σ H v u Q I r (q v σ H Q z)⟩
theorem PGs.imp {X : Cx} {e : List Expr} {t t' : TGs} (h : PGs X e t) (q : ∀ v σ H Q, t' v σ H Q → t v σ H Q) : PGs X e t' := ⟨fun pins s σ H v u Q I r z => h.run pins s σ H v u Q I r (q v σ H Q z)⟩
section
variable {X : Cx} {pos : Pos}
theorem StO.refl {ws : List Nat} {σ : L2.St} : StO ws σ σ := ⟨rfl, fun _ _ => rfl⟩
theorem StO.set {σ : L2.St} {i : Nat} {x : Option V} : StO [i] σ (σ.set i x) := ⟨by rw [List.length_set], fun j hj => by rw [List.getElem?_set_ne (fun z => hj (by simp [z]))]⟩
theorem StO.trans {ws vs : List Nat} {σ σ1 σ2 : L2.St} (a : StO ws σ σ1) (b : StO vs σ1 σ2) : StO (ws ++ vs) σ σ2 := ⟨b.1.trans a.1, fun i hi => (b.2 i fun z => hi (List.mem_append_right _ z)).trans (a.2 i fun z => hi (List.mem_append_left _ z))⟩
theorem gn3 (i : Nat) {x : Str} (hN : X.N.Nodup) (hi : X.N[i]? = some x := by rfl) (hx : Loc X.env.scope x := by first | exact .inl rfl | exact .inr rfl) (hf : X.fn x = true ∨ X.env.scope.names.lookup x = some .local := by first | exact .inl rfl | exact .inr rfl | assumption) : P3G X [i] (.Name x pos) (gName3 i) :=
  ⟨PG.imp (pg_name hN hi hx hf) fun v σ H Q ⟨G, ρ, H0, d, R, r, k⟩ => k _ H H0 (Same.refl _) (R.setv r) StO.set, fun d ρ k k' f h => f _ h⟩
theorem gnil3 : P3Gs X [] [] gNil3 := by
  refine ⟨PGs.imp pgs_nil fun v σ H Q ⟨G, ρ, H0, ds, R, r, k⟩ => ?_, fun d ρ k k' f h => by cases d <;> first | exact f _ h | exact h⟩
  cases r with
  | nil => exact ⟨rfl, k σ H H0 (Same.refl _) R StO.refl⟩
  | cons _ _ => exact k.elim
theorem gcons3 {e : Expr} {es : List Expr} {g : G3} {gs : Gs3} {ws vs : List Nat} (h1 : P3G X ws e g) (h2 : P3Gs X vs es gs) (hs : (assignEach (e :: es) X.env).map (·.2) = assign e X.env :: (assignEach es X.env).map (·.2) := by rfl) : P3Gs X (ws ++ vs) (e :: es) (gCons3 g gs) := by
  refine ⟨PGs.imp (pgs_cons h1.run h2.run hs) fun v σ H Q ⟨G, ρ, H0, ds, R, r, k⟩ => ?_, fun d ρ k k' f h => ?_⟩
  · cases r with
    | nil => exact k.elim
    | cons r1 r2 =>
      refine ⟨_, _, rfl, G, ρ, H0, _, R, r1, h1.mon _ _ _ _ (fun ρ1 q σ1 H1 H01 s1 R1 o1 => ?_) k⟩
      exact ⟨G, ρ1, H01, _, R1, r2.mono s1, h2.mon _ _ _ _ (fun ρ2 q2 σ2 H2 H02 s2 R2 o2 => q2 σ2 H2 H02 (s1.trans s2) R2 (o1.trans o2)) q⟩
  · cases d with
    | nil => exact h
    | cons d r => exact h1.mon _ _ _ _ (fun ρ1 q => h2.mon _ _ _ _ f q) h
theorem gtup3 {es : List Expr} {kk n : Nat} {gs : Gs3} {ws : List Nat} (hc : X.calm = true) (h : P3Gs X ws es gs) (hn : (assignEach es X.env).length = n := by rfl) (hst : (assignEach es X.env).findIdx? (·.1) = none := by rfl) : P3G X ws (.Tuple es kk pos) (gTup3 n gs) := by
  refine ⟨PG.imp (pg_tup hc h.run hn hst) fun v σ H Q ⟨G, ρ, H0, d, R, r, k⟩ => ?_, fun d ρ k k' f h' => by cases d <;> first | exact mon_and (h.mon _ _ _ _ f) h' | exact h'⟩
  cases r with
  | tup ha ra => exact ⟨_, _, rfl, SqT.of (R.ex _ _ ha), by rw [ra.length]; exact k.1, G, ρ, H0, _, R, ra, k.2⟩
  | _ => exact k.elim
end

/-! ### statements -/
structure Lk (G : Ent) (H0 : Hp) (W : WX) (Z : Ends) (E : Ends3) : Prop where
  nx : ∀ ρ' σ' H' H0', Same H0 H0' → Rel G H0' ρ' σ' H' → E.nx ρ' → Z.nx σ' H'
  rt : ∀ d ρ' σ' v H' H0', Same H0 H0' → Rel G H0' ρ' σ' H' → Rep G.pn H0' v d → E.rt d ρ' → Z.rt v H'
  bk : ∀ ρ' σ' H' H0', Same H0 H0' → Rel G H0' ρ' σ' H' → E.bk ρ' → Z.bk σ' H'
  ct : ∀ ρ' σ' H' H0', Same H0 H0' → Rel G H0' ρ' σ' H' → E.ct ρ' → Z.ct σ' H'
  xc : ∀ x ρ' σ' cls dx H' H0', Same H0 H0' → Rel G H0' ρ' σ' H' → RepX G.pn H0' cls dx x → E.xc x ρ' → W cls dx σ' H'
theorem Lk.up {G : Ent} {H0 H0' : Hp} {W : WX} {Z : Ends} {E : Ends3} (L : Lk G H0 W Z E) (s : Same H0 H0') : Lk G H0' W Z E :=
  ⟨fun a b c d e => L.nx a b c d (s.trans e), fun a b c d e f g => L.rt a b c d e f (s.trans g), fun a b c d e => L.bk a b c d (s.trans e), fun a b c d e => L.ct a b c d (s.trans e), fun a b c d e f g h => L.xc a b c d e f g (s.trans h)⟩
theorem Lk.kx {G : Ent} {H0 : Hp} {W : WX} {Z : Ends} {E : Ends3} (L : Lk G H0 W Z E) {σ : L2.St} {x : D} {ρ' : Env3} (h : E.xc x ρ') : KX G H0 σ W x ρ' := fun cls dx H' H0' s R r => L.xc x ρ' σ cls dx H' H0' s R r h
def lS (W : WX) (t : S3) : TS := fun D σ H => ∃ G ρ H0 E, Rel G H0 ρ σ H ∧ t E ρ ∧ Lk G H0 W D E
structure LeE (E E' : Ends3) : Prop where
  nx : ∀ ρ, E.nx ρ → E'.nx ρ
  rt : ∀ d ρ, E.rt d ρ → E'.rt d ρ
  bk : ∀ ρ, E.bk ρ → E'.bk ρ
  ct : ∀ ρ, E.ct ρ → E'.ct ρ
  xc : ∀ d ρ, E.xc d ρ → E'.xc d ρ
def MonS (t : S3) : Prop := ∀ E E' ρ, LeE E E' → t E ρ → t E' ρ
structure P3S (X : Cx) (W : WX) (st : Stmt) (t : S3) : Prop where
  run : PS X st (lS W t)
  mon : MonS t
structure P3Ss (X : Cx) (W : WX) (st : List Stmt) (t : S3) : Prop where
  run : PSs X st (lS W t)
  mon : MonS t
section
variable {X : Cx} {W : WX} {st : Stmt} {rest : List Stmt} {t u : S3} {e : Expr} {te : E3} {pos : Pos}
def tNext3 : S3 := fun E ρ => E.nx ρ
def tSeq3 (t u : S3) : S3 := fun E ρ => t { E with nx := u E } ρ
theorem snil : P3Ss X W [] tNext3 := ⟨PSs.imp pss_nil fun D σ H ⟨G, ρ, H0, E, R, h, L⟩ => L.nx ρ σ H H0 (Same.refl _) R h, fun E E' ρ l h => l.nx _ h⟩
theorem scons (h1 : P3S X W st t) (h2 : P3Ss X W rest u) : P3Ss X W (st :: rest) (tSeq3 t u) := by
  refine ⟨PSs.imp (pss_cons h1.run h2.run) fun D σ H ⟨G, ρ, H0, E, R, h, L⟩ => ?_, fun E E' ρ l h => h1.mon { E with nx := u E } { E' with nx := u E' } ρ ⟨fun ρ q => h2.mon _ _ _ l q, l.rt, l.bk, l.ct, l.xc⟩ h⟩
  exact ⟨G, ρ, H0, _, R, h, fun ρ' σ' H' H0' s R' q => ⟨G, ρ', H0', E, R', q, L.up s⟩, L.rt, L.bk, L.ct, L.xc⟩
theorem sone (h1 : P3S X W st t) : P3Ss X W [st] t := ⟨pss_one h1.run, h1.mon⟩
def tBreak3 : S3 := fun E ρ => E.bk ρ
def tCont3 : S3 := fun E ρ => E.ct ρ
theorem sbreak : P3S X W (.Break pos) tBreak3 := ⟨PS.imp ps_break fun D σ H ⟨G, ρ, H0, E, R, h, L⟩ => L.bk ρ σ H H0 (Same.refl _) R h, fun E E' ρ l h => l.bk _ h⟩
theorem scont : P3S X W (.Continue pos) tCont3 := ⟨PS.imp ps_continue fun D σ H ⟨G, ρ, H0, E, R, h, L⟩ => L.ct ρ σ H H0 (Same.refl _) R h, fun E E' ρ l h => l.ct _ h⟩
theorem spass : P3S X W (.Pass pos) tNext3 := ⟨PS.imp ps_pass fun D σ H ⟨G, ρ, H0, E, R, h, L⟩ => L.nx ρ σ H H0 (Same.refl _) R h, fun E E' ρ l h => l.nx _ h⟩
def tRet3 (te : E3) : S3 := fun E ρ => te ρ E.rt E.xc
theorem sret (h1 : P3 X W e te) : P3S X W (.Return (some e) pos) (tRet3 te) := by
  refine ⟨PS.imp (ps_ret h1.run) fun D σ H ⟨G, ρ, H0, E, R, h, L⟩ => ?_, fun E E' ρ l h => h1.mon _ _ _ _ _ l.rt l.xc h⟩
  exact ⟨G, ρ, H0, R, h1.mon _ _ _ _ _ (fun d ρ' q v H' H0' s R' r => L.rt d ρ' σ v H' H0' s R' r q) (fun x ρ' q => L.kx q) h⟩
def tRetN3 : S3 := fun E ρ => E.rt .non ρ
theorem sretN : P3S X W (.Return none pos) tRetN3 := ⟨PS.imp ps_retN fun D σ H ⟨G, ρ, H0, E, R, h, L⟩ => L.rt .non ρ σ .non H H0 (Same.refl _) R .non h, fun E E' ρ l h => l.rt _ _ h⟩
def tDrop3 (te : E3) : S3 := fun E ρ => te ρ (fun _ ρ' => E.nx ρ') E.xc
theorem sexpr (h1 : P3 X W e te) (hs : swapsWith e none pos.line X.env = pure false := by rfl) : P3S X W (.Expr e pos) (tDrop3 te) := by
  refine ⟨PS.imp (ps_expr h1.run hs) fun D σ H ⟨G, ρ, H0, E, R, h, L⟩ => ?_, fun E E' ρ l h => h1.mon _ _ _ _ _ (fun _ _ => l.nx _) l.xc h⟩
  exact ⟨G, ρ, H0, R, h1.mon _ _ _ _ _ (fun d ρ' q v H' H0' s R' r => L.nx ρ' σ H' H0' s R' q) (fun x ρ' q => L.kx q) h⟩
def tAsg3 (te : E3) (g : G3) : S3 := fun E ρ => te ρ (fun d ρ1 => g d ρ1 E.nx) E.xc
theorem asg_mon {g : G3} (m : MonE te) (mg : ∀ d ρ k k', (∀ ρ', k ρ' → k' ρ') → g d ρ k → g d ρ k') : MonS (tAsg3 te g) := fun E E' ρ l h => m _ _ _ _ _ (fun d ρ1 q => mg _ _ _ _ l.nx q) l.xc h
theorem sasg {tg : Expr} {g : G3} {ws : List Nat} (h1 : P3 X W e te) (h2 : P3G X ws tg g) (hs : swapsWithSole [tg] e pos.line X.env = pure false := by rfl) (hw : swappedStores [tg] e X.env = pure none := by rfl)
    (hh : (assignEach [tg] X.env).map (·.2) = [assign tg X.env] := by rfl) : P3S X W (.Assign [tg] e pos) (tAsg3 te g) := by
  refine ⟨PS.imp (ps_asg h1.run h2.run hs hw hh) fun D σ H ⟨G, ρ, H0, E, R, h, L⟩ => ?_, asg_mon h1.mon h2.mon⟩
  refine ⟨G, ρ, H0, R, h1.mon _ _ _ _ _ (fun d ρ1 q v H1 H01 s1 R1 r1 => ?_) (fun x ρ' q => L.kx q) h⟩
  exact ⟨G, ρ1, H01, d, R1, r1, h2.mon _ _ _ _ (fun ρ2 q2 σ2 H2 H02 s2 R2 _ => L.nx ρ2 σ2 H2 H02 (s1.trans s2) R2 q2) q⟩
def tIfS3 (c : T3) (t u : S3) : S3 := fun E ρ => c ρ (fun b ρ' => match b with | true => t E ρ' | false => u E ρ') E.xc
theorem sif {c : Expr} {a b : List Stmt} {tc : T3} (h : P3T X W c tc) (h1 : P3Ss X W a t) (h2 : P3Ss X W b u) : P3S X W (.If c a b pos) (tIfS3 tc t u) := by
  refine ⟨PS.imp (ps_if h.run h1.run h2.run) fun D σ H ⟨G, ρ, H0, E, R, q, L⟩ => ?_, fun E E' ρ l q => h.mon _ _ _ _ _ (fun b ρ' q => ?_) l.xc q⟩
  · refine ⟨G, ρ, H0, R, h.mon _ _ _ _ _ (fun b ρ' q H' H0' s R' => ?_) (fun x ρ' q => L.kx q) q⟩
    cases b with
    | true => exact iteT ⟨G, ρ', H0', E, R', q, L.up s⟩
    | false => exact iteF ⟨G, ρ', H0', E, R', q, L.up s⟩
  · cases b with
    | true => exact h1.mon _ _ _ l q
    | false => exact h2.mon _ _ _ l q
/-- x, y = e, f: both first -/
def tPar3 (i j : Nat) (tr : A3) : S3 := fun E ρ => tr ρ (fun ds ρ' => match ds with | [d, d'] => E.nx ((ρ'.put i (.val d)).put j (.val d')) | _ => False) E.xc
theorem spar {i j : Nat} {x y : Str} {a b : Expr} {tr : A3} {px py pt : Pos} {kt k2 pt2} (hc : X.calm = true) (hN : X.N.Nodup) (hi : X.N[i]? = some x) (hj : X.N[j]? = some y) (hij : i ≠ j)
    (hx : X.env.scope.names.lookup x = some .local) (hy : X.env.scope.names.lookup y = some .local) (h : P3A X W [a, b] tr)
    (hw : swappedStores [.Tuple [.Name x px, .Name y py] kt pt] (.Tuple [a, b] k2 pt2) X.env = pure (some [x, y]))
    (hs : swapsWithSole [.Tuple [.Name x px, .Name y py] kt pt] (.Tuple [a, b] k2 pt2) pos.line X.env = pure false := by rfl) :
    P3S X W (.Assign [.Tuple [.Name x px, .Name y py] kt pt] (.Tuple [a, b] k2 pt2) pos) (tPar3 i j tr) := by
  refine ⟨PS.imp (ps_par hc hN hi hj hij hx hy h.run hw hs) fun D σ H ⟨G, ρ, H0, E, R, q, L⟩ => ?_, fun E E' ρ l q => h.mon _ _ _ _ _ (fun ds ρ' q => ?_) l.xc q⟩
  · refine ⟨G, ρ, H0, R, h.mon _ _ _ _ _ (fun ds ρ' q vs H' H0' s R' r => ?_) (fun x ρ' q => L.kx q) q⟩
    rcases ds with _ | ⟨d, _ | ⟨d', _ | ⟨d2, l⟩⟩⟩
    · exact q.elim
    · exact q.elim
    · obtain ⟨v, w, rfl, r1, r2⟩ := rep2 r
      exact ⟨v, w, rfl, L.nx _ _ H' H0' s ((R'.setv r1).setv r2) q⟩
    · exact q.elim
  · rcases ds with _ | ⟨d, _ | ⟨d', _ | ⟨d2, l⟩⟩⟩
    · exact q
    · exact q
    · exact l.nx _ q
    · exact q

/-! ### what is walked -/
def Walk (pn : Option Addr) (J : It) (H0b : Hp) (ds : List D) : Prop := ∀ (i : Nat) (G : Ent) (H0 : Hp) (ρ : Env3) (σ : L2.St) (H : Hp), G.pn = pn → Same H0b H0 → Rel G H0 ρ σ H →
  (∀ d, ds[i]? = some d → J.go i H ∧ ∀ x H', J.yld i H x H' → ∃ H0', Same H0 H0' ∧ Rel G H0' ρ σ H' ∧ Rep pn H0' x d) ∧ (ds.length ≤ i → J.stop i H)
abbrev I3 := Env3 → (List D → Env3 → Prop) → K3 → Prop
def lI (W : WX) (w : I3) : TI := fun σ H R => ∃ G ρ H0, Rel G H0 ρ σ H ∧ w ρ (fun ds ρ' => ∀ J H' H0', Same H0 H0' → Rel G H0' ρ' σ H' → Walk G.pn J H0' ds → R J H') (KX G H0 σ W)
structure P3I (X : Cx) (W : WX) (tg it : Expr) (w : I3) : Prop where
  run : PI X tg it (lI W w)
  mon : MonE w
theorem PI.imp {X : Cx} {tg e : Expr} {t t' : TI} (h : PI X tg e t) (q : ∀ σ H R, t' σ H R → t σ H R) : PI X tg e t' := ⟨fun pins s σ H R I z => h.run pins s σ H R I (q σ H R z)⟩
theorem PI.or {X : Cx} {tg e : Expr} {t t' : TI} (h : PI X tg e t) (h' : PI X tg e t') : PI X tg e (fun σ H R => t σ H R ∨ t' σ H R) := ⟨fun pins s σ H R I z => z.elim (h.run pins s σ H R I) (h'.run pins s σ H R I)⟩
theorem walk_list {K : PySem.W.Frag} {pn : Option Addr} {H0 : Hp} {a : Addr} {vs : List V} {ds : List D} (h : H0 a = some (.lst vs)) (r : RepA pn H0 vs ds) : Walk pn (Itl K a) H0 ds := fun i G H1 ρ σ H hp s R => by
  have hq : SqL K H a vs := SqL.of (R.ex _ _ (s _ _ h))
  refine ⟨fun d hd => ?_, fun hi => ⟨vs, hq, by rw [r.length]; exact hi⟩⟩
  obtain ⟨v, h1, h2⟩ := r.get hd
  refine ⟨⟨vs, v, hq, h1⟩, fun x H' ⟨e, y⟩ => ?_⟩
  subst e
  have := y vs hq
  rw [h1] at this
  cases this
  exact ⟨H1, Same.refl _, R, h2.mono s⟩
theorem walk_tup {K : PySem.W.Frag} {pn : Option Addr} {H0 : Hp} {a : Addr} {vs : List V} {ds : List D} (h : H0 a = some (.tup vs)) (r : RepA pn H0 vs ds) : Walk pn (Itt K a) H0 ds := fun i G H1 ρ σ H hp s R => by
  have hq : SqT K H a vs := SqT.of (R.ex _ _ (s _ _ h))
  refine ⟨fun d hd => ?_, fun hi => ⟨vs, hq, by rw [r.length]; exact hi⟩⟩
  obtain ⟨v, h1, h2⟩ := r.get hd
  refine ⟨⟨vs, v, hq, h1⟩, fun x H' ⟨e, y⟩ => ?_⟩
  subst e
  have := y vs hq
  rw [h1] at this
  cases this
  exact ⟨H1, Same.refl _, R, h2.mono s⟩
def iSeq3 (te : E3) : I3 := fun ρ k x => te ρ (fun d ρ' => match d with | .lst ds => k ds ρ' | .tup ds => k ds ρ' | _ => False) x
/-- a list or a tuple, whichever comes out -/
def iBoth (K : PySem.W.Frag) (tl : TE) : TI := fun σ H R => tl σ H fun x H1 => ∃ a, x = .ref a ∧ ((∃ xs, SqL K H1 a xs ∧ R (Itl K a) H1) ∨ ∃ xs, SqT K H1 a xs ∧ R (Itt K a) H1)
theorem new_it {pins : List (Addr × Obj)} {σ : L2.St} {H : Hp} {s : Shared} {tg : Expr} {R : It → Hp → Prop} {J : It} {o : Obj} {tn : Nat → Heap → Prop} (I : Inv X pins σ H s) (T : Turn X.prog X.w X.K tg J [s.heap.objs.size] s.heap.objs.size tn)
    (h : tn 0 (s.heap.push o)) (q : R J H) : PIE X pins σ tg R (.ref s.heap.objs.size) { s with heap := s.heap.push o } := by
  have I' := I.kept (h' := s.heap.push o) (t' := s.toks) fun _ _ z => Heap.get?_push_of_some _ z
  refine ⟨_, [s.heap.objs.size], tn, J, H, rfl, I', T, h, fun b hb => ?_, q⟩
  rw [List.mem_singleton.mp hb]
  exact I.fpOk (Nat.le_refl _) (I.hok.fresh (Nat.le_refl _))
theorem pi_both {tg l : Expr} {tl : TE} (hl : PE X l tl) : PI X tg l (iBoth X.K tl) := ⟨fun pins s σ H R I h => by
  refine wpAny_mono (hl.run pins s σ H _ I h) (fun u s1 hu => ?_) fun _ _ z => z
  obtain ⟨x, H1, I1, r, a, rfl, hq⟩ := hu
  cases r
  rcases hq with ⟨xs, hq, q⟩ | ⟨xs, hq, q⟩
  · obtain ⟨its, _, pl, _⟩ := I1.list hq
    exact wpAny_pyIter_list pl.isList (new_it I1 (turn_list a _) ⟨_, Heap.get?_push_size _ rfl, rfl, rfl⟩ q)
  · obtain ⟨its, _, pl, _⟩ := I1.tuple hq
    exact wpAny_pyIter_tuple pl (new_it I1 (turn_tuple a _) ⟨_, Heap.get?_push_size _ rfl, rfl, rfl⟩ q)⟩
theorem iseq {tg : Expr} (h : P3 X W e te) : P3I X W tg e (iSeq3 te) := by
  refine ⟨PI.imp (pi_both h.run) fun σ H R ⟨G, ρ, H0, R0, q⟩ => ?_, fun ρ k k' x x' hk hx q => h.mon _ _ _ _ _ (fun d ρ' q => by cases d <;> first | exact hk _ _ q | exact q) hx q⟩
  refine ⟨G, ρ, H0, R0, h.mon _ _ _ _ _ (fun d ρ' q v H' H0' s R' r => ?_) (fun _ _ z => z) q⟩
  cases r with
  | lst ha ra => exact ⟨_, rfl, .inl ⟨_, SqL.of (R'.ex _ _ ha), q _ H' H0' s R' (walk_list ha ra)⟩⟩
  | tup ha ra => exact ⟨_, rfl, .inr ⟨_, SqT.of (R'.ex _ _ ha), q _ H' H0' s R' (walk_tup ha ra)⟩⟩
  | _ => exact q.elim
/-- range(n), range(a, b) -/
def upto (lo : Int) (n : Nat) : List D := (List.range n).map fun (i : Nat) => D.int (lo + (i : Int))
theorem walk_rng {pn : Option Addr} {H0 : Hp} {lo : Int} {n : Nat} : Walk pn (Itr lo n) H0 (upto lo n) := fun i G H1 ρ σ H hp s R => by
  have hl : (upto lo n).length = n := by unfold upto; rw [List.length_map, List.length_range]
  refine ⟨fun d hd => ?_, fun hi => by rw [hl] at hi; exact hi⟩
  unfold upto at hd
  rw [List.getElem?_map] at hd
  obtain ⟨j, h1, rfl⟩ := Option.map_eq_some_iff.mp hd
  obtain ⟨h2, h3⟩ := List.getElem?_eq_some_iff.mp h1
  rw [List.length_range] at h2
  rw [List.getElem_range] at h3
  subst h3
  exact ⟨h2, fun x H' ⟨e1, e2⟩ => ⟨H1, Same.refl _, by rw [e1]; exact R, by rw [e2]; exact .int _⟩⟩
def iRng3 (te : E3) : I3 := fun ρ k x => te ρ (fun d ρ' => match d with | .int n => (-(2 ^ 62) ≤ n ∧ n < 2 ^ 62) ∧ k (upto 0 n.toNat) ρ' | _ => False) x
theorem irng {tg : Expr} {p : Pos} (hg : Gl X "range") (hm : X.mg "range" = none) (h : P3 X W e te) (hs : starEach [e] X.env = [(false, eval e X.env)] := by rfl) : P3I X W tg (.Call (.Name "range" p) [e] [] pos) (iRng3 te) := by
  refine ⟨PI.imp (pi_range1 hg hm (acons h anil hs).run hs) fun σ H R ⟨G, ρ, H0, R0, q⟩ => ?_, fun ρ k k' x x' hk hx q => h.mon _ _ _ _ _ (fun d ρ' q => by cases d <;> first | exact mon_and (hk _ _) q | exact q) hx q⟩
  refine ⟨G, ρ, H0, R0, h.mon _ _ _ _ _ (fun d ρ' q vs H' H0' s R' r => ?_) (fun _ _ z => z) q⟩
  obtain ⟨v, rfl, rv⟩ := rep1 r
  cases rv with
  | int n => exact ⟨n, rfl, q.1.1, q.1.2, q.2 _ H' H0' s R' walk_rng⟩
  | _ => exact q.elim
def iRng23 (ta tb : E3) : I3 := fun ρ k x => ta ρ (fun d ρ1 => tb ρ1 (fun e ρ2 => match d, e with | .int m, .int n => (-(2 ^ 62) ≤ m ∧ m < 2 ^ 62 ∧ -(2 ^ 62) ≤ n ∧ n < 2 ^ 62) ∧ k (upto m (n - m).toNat) ρ2 | _, _ => False) x) x
theorem irng2 {tg a b : Expr} {ta tb : E3} {p : Pos} (hg : Gl X "range") (hm : X.mg "range" = none) (h : P3 X W a ta) (h2 : P3 X W b tb) (hs : starEach [a, b] X.env = [(false, eval a X.env), (false, eval b X.env)] := by rfl) (hs2 : starEach [b] X.env = [(false, eval b X.env)] := by rfl)
    (hs3 : starEach [a, b] X.env = (false, eval a X.env) :: starEach [b] X.env := by rfl) : P3I X W tg (.Call (.Name "range" p) [a, b] [] pos) (iRng23 ta tb) := by
  refine ⟨PI.imp (pi_range2 hg hm (acons h (acons h2 anil hs2) hs3).run hs hs2) fun σ H R ⟨G, ρ, H0, R0, q⟩ => ?_, fun ρ k k' x x' hk hx q =>
    h.mon _ _ _ _ _ (fun d ρ1 q => h2.mon _ _ _ _ _ (fun e ρ2 q => by cases d <;> cases e <;> first | exact mon_and (hk _ _) q | exact q) hx q) hx q⟩
  refine ⟨G, ρ, H0, R0, h.mon _ _ _ _ _ (fun d ρ' q => h2.mon _ _ _ _ _ (fun e ρ2 q vs H' H0' s R' r => ?_) (fun _ _ z => z) q) (fun _ _ z => z) q⟩
  obtain ⟨v, w, rfl, rv, rw'⟩ := rep2 r
  cases rv with
  | int m =>
    cases rw' with
    | int n => exact ⟨m, n, rfl, q.1, q.2 _ H' H0' s R' walk_rng⟩
    | _ => exact q.elim
  | _ => cases rw' <;> exact q.elim
/-- zip of two lists, of two tuples; the target names both -/
def pairUp : List D → List D → List D
  | x :: xs, y :: ys => .tup [x, y] :: pairUp xs ys
  | _, _ => []
theorem pairUp_get : ∀ {xs ys : List D} {i : Nat} {d : D}, (pairUp xs ys)[i]? = some d → ∃ x y, xs[i]? = some x ∧ ys[i]? = some y ∧ d = .tup [x, y]
  | [], _, _, _, h => by simp [pairUp] at h
  | _ :: _, [], _, _, h => by simp [pairUp] at h
  | x :: xs, y :: ys, 0, d, h => by simp [pairUp] at h; exact ⟨x, y, rfl, rfl, h.symm⟩
  | x :: xs, y :: ys, i + 1, d, h => by
    obtain ⟨a, b, h1, h2, h3⟩ := pairUp_get (i := i) (d := d) (by simpa [pairUp] using h)
    exact ⟨a, b, by simpa using h1, by simpa using h2, h3⟩
theorem pairUp_len : ∀ {xs ys : List D}, (pairUp xs ys).length = min xs.length ys.length
  | [], _ => by simp [pairUp]
  | _ :: _, [] => by simp [pairUp]
  | x :: xs, y :: ys => by simp only [pairUp, List.length_cons, pairUp_len]; omega
theorem grow_pair {G : Ent} {H0 H : Hp} {ρ : Env3} {σ : L2.St} {T : Addr} {x y : V} {dx dy : D} (R : Rel G H0 ρ σ H) (hT : H T = none) (r1 : Rep G.pn H0 x dx) (r2 : Rep G.pn H0 y dy) : ∃ H0', Same H0 H0' ∧ Rel G H0' ρ σ (upd H T (.tup [x, y])) ∧ Rep G.pn H0' (.ref T) (.tup [dx, dy]) := by
  have g := Grow.one (H0 := H0) (o := .tup [x, y]) hT
  have s := (g.same R.ex).1
  exact ⟨_, s, g.rel R, .tup upd_same (.cons (r1.mono s) (.cons (r2.mono s) .nil))⟩
theorem walk_zipL {K : PySem.W.Frag} {pn : Option Addr} {H0 : Hp} {a b : Addr} {vs ws : List V} {ds es : List D} (h : H0 a = some (.lst vs)) (r : RepA pn H0 vs ds) (h' : H0 b = some (.lst ws)) (r' : RepA pn H0 ws es) : Walk pn (Itz K a b) H0 (pairUp ds es) := fun i G H1 ρ σ H hp s R => by
  have hq : SqL K H a vs := SqL.of (R.ex _ _ (s _ _ h))
  have hq' : SqL K H b ws := SqL.of (R.ex _ _ (s _ _ h'))
  refine ⟨fun d hd => ?_, fun hi => ⟨vs, ws, hq, hq', by rw [r.length, r'.length]; rw [pairUp_len] at hi; omega⟩⟩
  obtain ⟨x, y, e1, e2, rfl⟩ := pairUp_get hd
  obtain ⟨v, h1, h2⟩ := r.get e1
  obtain ⟨w, h3, h4⟩ := r'.get e2
  refine ⟨⟨vs, ws, v, w, hq, hq', h1, h3⟩, ?_⟩
  rintro z H' ⟨T, x', y', rfl, hT, rfl, y1, y2⟩
  have z1 := y1 vs hq
  have z2 := y2 ws hq'
  rw [h1] at z1
  rw [h3] at z2
  cases z1
  cases z2
  subst hp
  exact grow_pair R hT (h2.mono s) (h4.mono s)
theorem walk_zipT {K : PySem.W.Frag} {pn : Option Addr} {H0 : Hp} {a b : Addr} {vs ws : List V} {ds es : List D} (h : H0 a = some (.tup vs)) (r : RepA pn H0 vs ds) (h' : H0 b = some (.tup ws)) (r' : RepA pn H0 ws es) : Walk pn (RZ.ItzT K a b) H0 (pairUp ds es) := fun i G H1 ρ σ H hp s R => by
  have hq : SqT K H a vs := SqT.of (R.ex _ _ (s _ _ h))
  have hq' : SqT K H b ws := SqT.of (R.ex _ _ (s _ _ h'))
  refine ⟨fun d hd => ?_, fun hi => ⟨vs, ws, hq, hq', by rw [r.length, r'.length]; rw [pairUp_len] at hi; omega⟩⟩
  obtain ⟨x, y, e1, e2, rfl⟩ := pairUp_get hd
  obtain ⟨v, h1, h2⟩ := r.get e1
  obtain ⟨w, h3, h4⟩ := r'.get e2
  refine ⟨⟨vs, ws, v, w, hq, hq', h1, h3⟩, ?_⟩
  rintro z H' ⟨T, x', y', rfl, hT, rfl, y1, y2⟩
  have z1 := y1 vs hq
  have z2 := y2 ws hq'
  rw [h1] at z1
  rw [h3] at z2
  cases z1
  cases z2
  subst hp
  exact grow_pair R hT (h2.mono s) (h4.mono s)
def iZip3 (ta tb : E3) : I3 := fun ρ k x => ta ρ (fun d ρ1 => tb ρ1 (fun e ρ2 => match d, e with | .lst xs, .lst ys => k (pairUp xs ys) ρ2 | .tup xs, .tup ys => k (pairUp xs ys) ρ2 | _, _ => False) x) x
theorem izip {a b : Expr} {ta tb : E3} {p tpos : Pos} {elts : List Expr} {kk : Nat} (hg : Gl X "zip") (hm : X.mg "zip" = none) (h : P3 X W a ta) (h2 : P3 X W b tb) (hs : starEach [a, b] X.env = (false, eval a X.env) :: starEach [b] X.env := by rfl) (hs2 : starEach [b] X.env = (false, eval b X.env) :: starEach [] X.env := by rfl)
    (hpl : (backTo pos (starEach [b] X.env)).any (·.1) = false := by rfl) : P3I X W (.Tuple elts kk tpos) (.Call (.Name "zip" p) [a, b] [] pos) (iZip3 ta tb) := by
  refine ⟨PI.imp (RZ.pi_zipA hg hm (acons h (acons h2 anil hs2) hs).run hs hpl) fun σ H R ⟨G, ρ, H0, R0, q⟩ => ?_, fun ρ k k' x x' hk hx q =>
    h.mon _ _ _ _ _ (fun d ρ1 q => h2.mon _ _ _ _ _ (fun e ρ2 q => by cases d <;> cases e <;> first | exact hk _ _ q | exact q) hx q) hx q⟩
  refine ⟨G, ρ, H0, R0, h.mon _ _ _ _ _ (fun d ρ' q => h2.mon _ _ _ _ _ (fun e ρ2 q vs H' H0' s R' r => ?_) (fun _ _ z => z) q) (fun _ _ z => z) q⟩
  obtain ⟨v, w, rfl, rv, rw'⟩ := rep2 r
  cases rv with
  | lst ha ra =>
    cases rw' with
    | lst hb rb => exact ⟨_, _, _, _, rfl, .inl ⟨SqL.of (R'.ex _ _ ha), SqL.of (R'.ex _ _ hb), q _ H' H0' s R' (walk_zipL ha ra hb rb)⟩⟩
    | _ => exact q.elim
  | tup ha ra =>
    cases rw' with
    | tup hb rb => exact ⟨_, _, _, _, rfl, .inr ⟨SqT.of (R'.ex _ _ ha), SqT.of (R'.ex _ _ hb), q _ H' H0' s R' (walk_zipT ha ra hb rb)⟩⟩
    | _ => exact q.elim
  | _ => cases rw' <;> exact q.elim

/-! ### for -/
def loop3 (g : G3) (t : S3) : List D → Ends3 → Env3 → Prop
  | [], E, ρ => E.nx ρ
  | d :: r, E, ρ => g d ρ fun ρ1 => t { E with nx := loop3 g t r E, ct := loop3 g t r E, bk := E.nx } ρ1
def tFor3 (w : I3) (g : G3) (t : S3) : S3 := fun E ρ => w ρ (fun ds ρ' => loop3 g t ds E ρ') E.xc
theorem loop_mon {g : G3} (mg : ∀ d ρ k k', (∀ ρ', k ρ' → k' ρ') → g d ρ k → g d ρ k') (m : MonS t) {E E' : Ends3} (l : LeE E E') : ∀ (ds : List D) (ρ : Env3), loop3 g t ds E ρ → loop3 g t ds E' ρ
  | [], ρ, h => l.nx _ h
  | d :: r, ρ, h => mg _ _ _ _ (fun ρ1 q => m { E with nx := loop3 g t r E, ct := loop3 g t r E, bk := E.nx } { E' with nx := loop3 g t r E', ct := loop3 g t r E', bk := E'.nx } ρ1 ⟨loop_mon mg m l r, l.rt, l.nx, loop_mon mg m l r, l.xc⟩ q) h
theorem sfor {tg it : Expr} {body : List Stmt} {w : I3} {g : G3} {ws : List Nat} (hp : PassesOwn (model X.prog X.w) X.A X.env X.xe) (hc : X.calm = true) (hi : P3I X W tg it w) (hg : P3G X ws tg g) (hb : P3Ss X W body t)
    (hs : ∀ x, foldedSetIterable it X.env x = pure x := by intro _; rfl) : P3S X W (.For tg it body [] pos) (tFor3 w g t) := by
  refine ⟨PS.imp (ps_for hp hc hi.run hg.run hb.run hs) fun D σ H ⟨G, ρ, H0, E, R, h, L⟩ => ?_, fun E E' ρ l h => hi.mon _ _ _ _ _ (fun ds ρ' q => loop_mon hg.mon hb.mon l ds ρ' q) l.xc h⟩
  refine ⟨G, ρ, H0, R, hi.mon _ _ _ _ _ (fun ds ρ1 q J H1 H01 s1 R1 Wk => ?_) (fun x ρ' q => L.kx q) h⟩
  refine ⟨fun i m σ' H' => m = ds.length - i ∧ i ≤ ds.length ∧ ∃ ρ' H0', Same H01 H0' ∧ Rel G H0' ρ' σ' H' ∧ loop3 g t (ds.drop i) E ρ', ⟨_, rfl, Nat.zero_le _, ρ1, H01, Same.refl _, R1, q⟩, ?_⟩
  rintro i m σ2 H2 ⟨rfl, hi', ρ2, H02, s2, R2, q2⟩
  by_cases hlt : i < ds.length
  · rw [List.drop_eq_getElem_cons hlt] at q2
    obtain ⟨wg, wy⟩ := (Wk i G H02 ρ2 σ2 H2 rfl s2 R2).1 ds[i] (List.getElem?_eq_getElem hlt)
    refine .inr ⟨wg, fun σ' H' => i + 1 ≤ ds.length ∧ ∃ ρ' H0', Same H01 H0' ∧ Rel G H0' ρ' σ' H' ∧ loop3 g t (ds.drop (i + 1)) E ρ', fun σ' H' z => ⟨_, by omega, rfl, z⟩, fun x H3 y => ?_⟩
    obtain ⟨H03, s3, R3, r3⟩ := wy x H3 y
    refine ⟨G, ρ2, H03, ds[i], R3, r3, hg.mon _ _ _ _ (fun ρ4 q4 σ4 H4 H04 s4 R4 _ => ?_) q2⟩
    have su := (s2.trans s3).trans s4
    refine ⟨G, ρ4, H04, _, R4, q4, fun ρ' σ' H' H0' s' R' z => ⟨by omega, ρ', H0', su.trans s', R', z⟩, fun d ρ' σ' v H' H0' s' R' r z => L.rt d ρ' σ' v H' H0' ((s1.trans su).trans s') R' r z,
      fun ρ' σ' H' H0' s' R' z => L.nx ρ' σ' H' H0' ((s1.trans su).trans s') R' z, fun ρ' σ' H' H0' s' R' z => ⟨by omega, ρ', H0', su.trans s', R', z⟩,
      fun x ρ' σ' cls dx H' H0' s' R' r z => L.xc x ρ' σ' cls dx H' H0' ((s1.trans su).trans s') R' r z⟩
  · have e : i = ds.length := by omega
    subst e
    rw [List.drop_length] at q2
    exact .inl ⟨(Wk ds.length G H02 ρ2 σ2 H2 rfl s2 R2).2 (Nat.le_refl _), L.nx ρ2 σ2 H2 H02 (s1.trans s2) R2 q2⟩

/-! ### while, by a measure and a word of one's own -/
def tWhile3 (c : T3) (t : S3) : S3 := fun E ρ => ∃ Iv : Nat → Env3 → Prop, (∃ m, Iv m ρ) ∧ ∀ m ρ, Iv m ρ → c ρ (fun b ρ' => match b with | true => t { E with nx := fun ρ2 => ∃ m', m' < m ∧ Iv m' ρ2, ct := fun ρ2 => ∃ m', m' < m ∧ Iv m' ρ2, bk := E.nx } ρ' | false => E.nx ρ') E.xc
theorem swhile {c : Expr} {body : List Stmt} {tc : T3} (hp : PassesOwn (model X.prog X.w) X.A X.env X.xe) (hc : P3T X W c tc) (hb : P3Ss X W body t) : P3S X W (.While c body [] pos) (tWhile3 tc t) := by
  refine ⟨PS.imp (ps_while hp hc.run hb.run) fun D σ H ⟨G, ρ, H0, E, R, ⟨Iv, ⟨m0, h0⟩, h⟩, L⟩ => ?_, fun E E' ρ l ⟨Iv, h0, h⟩ => ⟨Iv, h0, fun m ρ hi => hc.mon _ _ _ _ _ (fun b ρ' q => ?_) l.xc (h m ρ hi)⟩⟩
  · refine ⟨fun m σ' H' => ∃ ρ' H0', Same H0 H0' ∧ Rel G H0' ρ' σ' H' ∧ Iv m ρ', ⟨m0, ρ, H0, Same.refl _, R, h0⟩, ?_⟩
    rintro m σ2 H2 ⟨ρ2, H02, s2, R2, i2⟩
    refine ⟨G, ρ2, H02, R2, hc.mon _ _ _ _ _ (fun b ρ' q H' H0' s R' => ?_) (fun x ρ' q => (L.up s2).kx q) (h m ρ2 i2)⟩
    have su := s2.trans s
    cases b with
    | true =>
      refine iteT ⟨fun σ' H' => ∃ m', m' < m ∧ ∃ ρ' H0', Same H0 H0' ∧ Rel G H0' ρ' σ' H' ∧ Iv m' ρ', fun σ' H' z => z, G, ρ', H0', _, R', q, ?_⟩
      exact ⟨fun ρ3 σ' H3 H03 s' R3 ⟨m', z1, z2⟩ => ⟨m', z1, ρ3, H03, su.trans s', R3, z2⟩, fun d ρ3 σ' v H3 H03 s' R3 r z => L.rt d ρ3 σ' v H3 H03 (su.trans s') R3 r z, fun ρ3 σ' H3 H03 s' R3 z => L.nx ρ3 σ' H3 H03 (su.trans s') R3 z,
        fun ρ3 σ' H3 H03 s' R3 ⟨m', z1, z2⟩ => ⟨m', z1, ρ3, H03, su.trans s', R3, z2⟩, fun x ρ3 σ' cls dx H3 H03 s' R3 r z => L.xc x ρ3 σ' cls dx H3 H03 (su.trans s') R3 r z⟩
    | false => exact iteF (L.nx ρ' σ2 H' H0' su R' q)
  · cases b with
    | true => exact hb.mon { E with nx := fun ρ2 => ∃ m', m' < m ∧ Iv m' ρ2, ct := fun ρ2 => ∃ m', m' < m ∧ Iv m' ρ2, bk := E.nx } { E' with nx := fun ρ2 => ∃ m', m' < m ∧ Iv m' ρ2, ct := fun ρ2 => ∃ m', m' < m ∧ Iv m' ρ2, bk := E'.nx } _ ⟨fun _ z => z, l.rt, l.nx, fun _ z => z, l.xc⟩ q
    | false => exact l.nx _ q

/-! ### lists made by a comprehension -/
structure P3Ts (X : Cx) (cs : List Expr) (t : T3) : Prop where
  run : PTs X cs (lT (fun _ _ _ _ => False) t)
  mon : MonE t
def tYes3 : T3 := fun ρ k _ => k true ρ
theorem tsnil : P3Ts X [] tYes3 := ⟨⟨fun pins s σ H Q I ⟨G, ρ, H0, R, q⟩ => pts_nil.run pins s σ H Q I (q H H0 (Same.refl _) R)⟩, fun ρ k k' x x' hk _ h => hk _ _ h⟩
theorem tsone {c : Expr} {t : T3} (h : P3T X (fun _ _ _ _ => False) c t) : P3Ts X [c] t := ⟨pts_one h.run, h.mon⟩
def lcGo (g : G3) (tt : T3) (te : E3) (vs : List Nat) : List D → List D → Env3 → (List D → Env3 → Prop) → Prop
  | [], acc, ρ, k => k acc ρ
  | d :: r, acc, ρ, k => g d ρ fun ρ1 => tt ρ1 (fun b ρ2 => match b with
    | true => te ρ2 (fun y ρ3 => acc.length < sizeLine ∧ lcGo g tt te vs r (acc ++ [y]) (ρ3.wipe vs) k) (fun _ _ => False)
    | false => lcGo g tt te vs r acc (ρ2.wipe vs) k) (fun _ _ => False)
def tLc3 (w : I3) (g : G3) (tt : T3) (te : E3) (vs : List Nat) : E3 := fun ρ k x => w ρ (fun ds ρ1 => lcGo g tt te vs ds [] (ρ1.wipe vs) fun acc ρ2 => k (.lst acc) (Env3.back ρ1 ρ2 vs)) x
theorem lcGo_mon {g : G3} {tt : T3} {te : E3} {vs : List Nat} (mg : ∀ d ρ k k', (∀ ρ', k ρ' → k' ρ') → g d ρ k → g d ρ k') (mt : MonE tt) (me : MonE te) {k k' : List D → Env3 → Prop} (f : ∀ a ρ, k a ρ → k' a ρ) :
    ∀ (ds acc : List D) (ρ : Env3), lcGo g tt te vs ds acc ρ k → lcGo g tt te vs ds acc ρ k'
  | [], acc, ρ, h => f _ _ h
  | d :: r, acc, ρ, h => mg _ _ _ _ (fun ρ1 q => mt _ _ _ _ _ (fun b ρ2 q => by
      cases b with
      | true => exact me _ _ _ _ _ (fun y ρ3 q => mon_and (lcGo_mon mg mt me f r _ _) q) (fun _ _ z => z) q
      | false => exact lcGo_mon mg mt me f r _ _ q) (fun _ _ z => z) q) h
theorem lc_mon {w : I3} {g : G3} {tt : T3} {te : E3} {vs : List Nat} (mw : MonE w) (mg : ∀ d ρ k k', (∀ ρ', k ρ' → k' ρ') → g d ρ k → g d ρ k') (mt : MonE tt) (me : MonE te) : MonE (tLc3 w g tt te vs) := fun ρ k k' x x' hk hx h =>
  mw _ _ _ _ _ (fun ds ρ1 q => lcGo_mon mg mt me (fun acc ρ2 => hk _ _) ds [] _ q) hx h
abbrev W0 : WX := fun _ _ _ _ => False
abbrev lG (ws : List Nat) (g : G3) : TG := fun v σ H Q => ∃ G ρ H0 d, Rel G H0 ρ σ H ∧ Rep G.pn H0 v d ∧ g d ρ (fun ρ' => ∀ σ' H' H0', Same H0 H0' → Rel G H0' ρ' σ' H' → StO ws σ σ' → Q σ' H')
theorem lc_read {w : I3} {g : G3} {tt : T3} {te : E3} {vs ws : List Nat} (mw : MonE w) (mg : ∀ d ρ k k', (∀ ρ', k ρ' → k' ρ') → g d ρ k → g d ρ k') (mt : MonE tt) (me : MonE te) (hws : ∀ i ∈ ws, i ∈ vs) (nd : vs.Nodup) {σ : L2.St} {H : Hp} {Q : VK}
    (h : lE W (tLc3 w g tt te vs) σ H Q) : tLc (lI W w) (lG ws g) (lT W0 tt) (lE W0 te) vs σ H Q := by
  obtain ⟨G, ρ, H0, R, h⟩ := h
  refine ⟨G, ρ, H0, R, mw _ _ _ _ _ (fun ds ρ1 q J H1 H01 s1 R1 Wk Dl hD => ?_) (fun _ _ z => z) h⟩
  have nf := R1.noHf hD
  have h0D : H01 Dl = none := by
    cases e : H01 Dl with
    | none => rfl
    | some u => have := R1.ex _ _ e; rw [hD] at this; cases this
  have hgD : G.H0 Dl = none := by
    cases e : G.H0 Dl with
    | none => rfl
    | some u => have := R1.ex0 _ _ e; rw [h0D] at this; cases this
  -- what holds at each turn: the list at Dl holds what is made so far
  refine ⟨fun i m H' => m = ds.length - i ∧ i ≤ ds.length ∧ ∃ ρ' H0' xs acc, Same H01 H0' ∧ Rel (G.res Dl (.lst xs)) H0' ρ' (L2.wipe σ vs) H' ∧ RepA G.pn H0' xs acc ∧
    lcGo g tt te vs (ds.drop i) acc ρ' (fun acc ρ2 => KQ G H0 σ Q (.lst acc) (Env3.back ρ1 ρ2 vs)), ⟨_, rfl, Nat.zero_le _, ρ1.wipe vs, H01, [], [], Same.refl _, ?_, .nil, q⟩, ?_⟩
  · exact ((R1.wipe vs).grow' hD).res upd_same h0D ((R1.wipe vs).fresh hD)
  rintro i m H2 ⟨rfl, hi', ρ2, H02, xs, acc, s2, R2, ra, q2⟩
  by_cases hlt : i < ds.length
  · rw [List.drop_eq_getElem_cons hlt] at q2
    obtain ⟨wg, wy⟩ := (Wk i (G.res Dl (.lst xs)) H02 ρ2 (L2.wipe σ vs) H2 rfl s2 R2).1 ds[i] (List.getElem?_eq_getElem hlt)
    refine .inr ⟨wg, fun H' => i + 1 ≤ ds.length ∧ ∃ ρ' H0' xs acc, Same H01 H0' ∧ Rel (G.res Dl (.lst xs)) H0' ρ' (L2.wipe σ vs) H' ∧ RepA G.pn H0' xs acc ∧ lcGo g tt te vs (ds.drop (i + 1)) acc ρ' (fun acc ρ2 => KQ G H0 σ Q (.lst acc) (Env3.back ρ1 ρ2 vs)),
      fun H' z => ⟨_, by omega, rfl, z⟩, fun x H3 y => ?_⟩
    obtain ⟨H03, s3, R3, r3⟩ := wy x H3 y
    refine ⟨G.res Dl (.lst xs), ρ2, H03, ds[i], R3, r3, mg _ _ _ _ (fun ρ4 q4 σ4 H4 H04 s4 R4 o4 => ?_) q2⟩
    have e4 : L2.wipe σ4 vs = L2.wipe σ vs := (o4.wipe hws).trans wipe_wipe
    refine ⟨e4, G.res Dl (.lst xs), ρ4, H04, R4, mt _ _ _ _ _ (fun b ρ5 q5 H5 H05 s5 R5 => ?_) (fun _ _ z => z.elim) q4⟩
    have s5' := ((s2.trans s3).trans s4).trans s5
    cases b with
    | true =>
      refine iteT ⟨G.res Dl (.lst xs), ρ5, H05, R5, me _ _ _ _ _ (fun yd ρ6 q6 yv H6 H06 s6 R6 r6 => ?_) (fun _ _ z => z.elim) q5⟩
      have hl := R6.res_no (fun _ z => nomatch z) hgD nf.2
      have sa := ((s3.trans s4).trans s5).trans s6
      have ra6 := ra.mono sa
      refine ⟨xs, hl.1, by rw [ra6.length]; exact q6.1, by omega, ρ6.wipe vs, H06, xs ++ [yv], acc ++ [yd], s5'.trans s6, ?_, ra6.append (.cons r6 .nil), q6.2⟩
      have R7 := (R6.wipe vs).res_put (o' := .lst (xs ++ [yv])) (fun _ z => nomatch z) hgD nf.2
      rw [e4] at R7
      exact R7
    | false =>
      refine iteF ⟨by omega, ρ5.wipe vs, H05, xs, acc, s5', ?_, ra.mono ((s3.trans s4).trans s5), q5⟩
      have R7 := R5.wipe vs
      rw [e4] at R7
      exact R7
  · have e : i = ds.length := by omega
    subst e
    rw [List.drop_length] at q2
    refine .inl ⟨(Wk ds.length (G.res Dl (.lst xs)) H02 ρ2 (L2.wipe σ vs) H2 rfl s2 R2).2 (Nat.le_refl _), ?_⟩
    obtain ⟨hl, h0, hx⟩ := R2.res_no (fun _ z => nomatch z) hgD nf.2
    have R3 := R2.unres nf.1
    obtain ⟨st, R4⟩ := R3.tell hl h0 nf.1 nf.2 hx
    have R5 := R1.back (s2.trans st) vs ρ2 nd R4
    exact q2 (.ref Dl) H2 _ ((s1.trans s2).trans st) R5 (.lst upd_same (ra.mono st))
theorem lc3 {elt tg it : Expr} {ifs : List Expr} {scope : Scope} {own : List (Str × Nat)} {w : I3} {g : G3} {tt : T3} {te : E3} {ws : List Nat} (hc : X.calm = true) (hN : X.N.Nodup) (hi : P3I X W tg it w) (ok : BlkOk X.N X.env.scope scope own)
    (hg : ∀ (s : Shared) (H : Hp) (C : Addr) (cl : List (Str × Addr)) (fp : List Addr), P3G (X.blk s H scope (compEnvC scope cl C X.env) fp) ws tg g) (ht : ∀ (s : Shared) (H : Hp) (C : Addr) (cl : List (Str × Addr)) (fp : List Addr), P3Ts (X.blk s H scope (compEnvC scope cl C X.env) fp) ifs tt)
    (he : ∀ (s : Shared) (H : Hp) (C : Addr) (cl : List (Str × Addr)) (fp : List Addr), P3 (X.blk s H scope (compEnvC scope cl C X.env) fp) W0 elt te) (hws : ∀ i ∈ ws, i ∈ own.map (·.2) := by decide) (nd : (own.map (·.2)).Nodup := by decide)
    (hs : ∀ x, foldedSetIterable it X.env x = pure x := by intro _; rfl) : P3 X W (.ListComp elt [⟨tg, it, ifs, 0⟩] scope pos) (tLc3 w g tt te (own.map (·.2))) := by
  have s0 : Shared := {}
  exact ⟨PE.imp (pe_lc hc hN hi.run ok (fun s H C cl fp => (hg s H C cl fp).run) (fun s H C cl fp => (ht s H C cl fp).run) (fun s H C cl fp => (he s H C cl fp).run) hs) fun σ H Q h => lc_read hi.mon (hg s0 (fun _ => none) 0 [] []).mon (ht s0 (fun _ => none) 0 [] []).mon (he s0 (fun _ => none) 0 [] []).mon hws nd h,
    lc_mon hi.mon (hg s0 (fun _ => none) 0 [] []).mon (ht s0 (fun _ => none) 0 [] []).mon (he s0 (fun _ => none) 0 [] []).mon⟩
/-- y = [..] -/
theorem ssetLc {i : Nat} {y : Str} {py : Pos} {elt tg it : Expr} {ifs : List Expr} {scope : Scope} {own : List (Str × Nat)} {spos : Pos} {w : I3} {g : G3} {tt : T3} {te : E3} {ws : List Nat} (hc : X.calm = true) (hN : X.N.Nodup) (hy : X.N[i]? = some y) (hyl : X.env.scope.names.lookup y = some .local)
    (hsw : swapsWith (.ListComp elt [⟨tg, it, ifs, 0⟩] scope pos) (some (.Name y py)) spos.line X.env = pure true) (hi : P3I X W tg it w) (ok : BlkOk X.N X.env.scope scope own)
    (hg : ∀ (s : Shared) (H : Hp) (C : Addr) (cl : List (Str × Addr)) (fp : List Addr), P3G (X.blk s H scope (compEnvC scope cl C X.env) fp) ws tg g) (ht : ∀ (s : Shared) (H : Hp) (C : Addr) (cl : List (Str × Addr)) (fp : List Addr), P3Ts (X.blk s H scope (compEnvC scope cl C X.env) fp) ifs tt)
    (he : ∀ (s : Shared) (H : Hp) (C : Addr) (cl : List (Str × Addr)) (fp : List Addr), P3 (X.blk s H scope (compEnvC scope cl C X.env) fp) W0 elt te) (hws : ∀ i ∈ ws, i ∈ own.map (·.2) := by decide) (nd : (own.map (·.2)).Nodup := by decide)
    (hs : ∀ x, foldedSetIterable it X.env x = pure x := by intro _; rfl) : P3S X W (.Assign [.Name y py] (.ListComp elt [⟨tg, it, ifs, 0⟩] scope pos) spos) (tAsg3 (tLc3 w g tt te (own.map (·.2))) (gName3 i)) := by
  have s0 : Shared := {}
  have m := lc_mon (vs := own.map (·.2)) hi.mon (hg s0 (fun _ => none) 0 [] []).mon (ht s0 (fun _ => none) 0 [] []).mon (he s0 (fun _ => none) 0 [] []).mon
  refine ⟨PS.imp (ps_setLc hc hN hy hyl hsw hi.run ok (fun s H C cl fp => (hg s H C cl fp).run) (fun s H C cl fp => (ht s H C cl fp).run) (fun s H C cl fp => (he s H C cl fp).run) hs) fun D σ H ⟨G, ρ, H0, E, R, h, L⟩ => ?_, asg_mon m fun d ρ k k' f h => f _ h⟩
  refine lc_read hi.mon (hg s0 (fun _ => none) 0 [] []).mon (ht s0 (fun _ => none) 0 [] []).mon (he s0 (fun _ => none) 0 [] []).mon hws nd ⟨G, ρ, H0, R, m _ _ _ _ _ (fun d ρ1 q v H1 H01 s1 R1 r1 => ?_) (fun x ρ' q => L.kx q) h⟩
  exact L.nx _ _ H1 H01 s1 (R1.setv r1) q
end
end L3
/-! L3: functions -/
namespace L3
open PySem PySem.Spec PyProof.Rows L2

/-! ### a call: what is behind it -/
structure After (pn : Option Addr) (H0 H H0' H' : Hp) (T' : Nat) : Prop where
  ex0 : Same H0 H0'
  ex : Same H0' H'
  keep : ∀ a o, H a = some o → pn ≠ some a → H' a = some o
  new : ∀ a o, H0' a = some o → (∃ u, H0 a = some u) ∨ H a = none ∨ ∃ xs, o = .tup xs
  pen : ∀ p, pn = some p → PenAt H0' H' T' p
theorem Rel.after {G : Ent} {H0 : Hp} {ρ : Env3} {σ : L2.St} {H : Hp} (R : Rel G H0 ρ σ H) : After G.pn G.H0 G.Hf H0 H ρ.T := ⟨R.ex0, R.ex, R.keep, R.new, R.pen⟩
def Env3.at (ρ : Env3) (T : Nat) : Env3 := ⟨ρ.sl, T⟩
theorem Rel.call {G : Ent} {H0 H0' : Hp} {ρ : Env3} {σ : L2.St} {H H' : Hp} {T : Nat} (R : Rel G H0 ρ σ H) (A : After G.pn H0 H H0' H' T) : Rel G H0' (ρ.at T) σ H' := by
  refine ⟨A.ex, R.ex0.trans A.ex0, fun a o e hn => A.keep a o (R.keep a o e hn) hn, fun a o e => ?_, R.len, fun i => ?_, R.own, fun p hp => A.pen p hp, R.fix⟩
  · rcases A.new a o e with ⟨u, h⟩ | h | h
    · have q := A.ex0 a u h
      rw [e] at q
      cases q
      exact R.new a o h
    · exact .inr (.inl (R.noHf h).1)
    · exact .inr (.inr h)
  · have h := R.slot i
    show SlotOk G H0' H' ρ.sl[i]? σ[i]?
    cases e : ρ.sl[i]? with
    | none => exact True.intro
    | some s =>
      rw [e] at h
      cases s with
      | un => exact True.intro
      | val d => obtain ⟨x, h1, h2⟩ := h; exact ⟨x, h1, h2.mono A.ex0⟩
      | own d =>
        obtain ⟨l, h1, h2, h3, h4, h5⟩ := h
        obtain ⟨o, ho⟩ := h2.there
        refine ⟨l, h1, h2.mono A.ex0 ((A.keep l o ho h5).trans ho.symm), ?_, h4, h5⟩
        cases e0 : H0' l with
        | none => rfl
        | some u =>
          rcases A.new l u e0 with ⟨z, q⟩ | q | ⟨xs, q⟩
          · rw [h3] at q; cases q
          · rw [ho] at q; cases q
          · have q2 := A.ex l u e0
            rw [A.keep l o ho h5, q] at q2
            rw [Option.some.inj q2] at ho
            cases d with
            | lst ds => obtain ⟨vs, q, _⟩ := h2; rw [ho] at q; cases q
            | dT ds => obtain ⟨vs, q, _⟩ := h2; rw [ho] at q; cases q
            | _ => exact h2.elim

/-! ### promises over data -/
/-- arguments, draws so far, what is wanted of the result -/
abbrev Sp3 := List D → Nat → (D → Nat → Prop) → Prop
def spL (n : Nat) (s : Sp3) : Sp := fun vs H Q _ => ∃ pn H0 ds T, vs.length = n ∧ Same H0 H ∧ RepA pn H0 vs ds ∧ (∀ p, pn = some p → PenAt H0 H T p) ∧ s ds T fun d T' => ∀ v H' H0', After pn H0 H H0' H' T' → Rep pn H0' v d → Q v H'
def mon3 (s : Sp3) : Prop := ∀ ds T k k', (∀ d T', k d T' → k' d T') → s ds T k → s ds T k'
section
variable {P : Program} {w : World} {K : PySem.W.Frag} {mg : Str → Option Value} {base : Heap}
theorem get_start {N : List Str} {vs : List V} {i : Nat} {v : V} (h : vs[i]? = some v) : (L2.start N vs)[i]? = some (some v) := by
  unfold L2.start
  have hi : i < vs.length := (List.getElem?_eq_some_iff.mp h).1
  rw [List.getElem?_append_left (by rw [List.length_map]; exact hi), List.getElem?_map, h]
  rfl
theorem fn3 {x qual : Str} {st : Stmt} {f : Addr} {fd : FuncData} {N ps : List Str} {k n m : Nat} {s3 : Sp3} {t : S3} (F : Fun K x qual st f fd) (S : FnScope N ps (defScope st)) (hn : ps.length = n) (hm : N.length = n + m)
    (hbody : ∀ (cdv : Value) (A : Around) (outer : List Env) (s : Shared) (H : Hp) (E : XK), Room k (A.deeper (envOfC qual (defScope st) s.heap.objs.size f cdv)) → P3Ss (cxOf CX0 P w K mg base N qual (defScope st) f cdv A outer s H E).nox W0 (defBody st) t)
    (hs : ∀ ds T kk, ds.length = n → s3 ds T kk → t { nx := fun ρ => kk .non ρ.T, rt := fun d ρ => kk d ρ.T } ⟨ds.map .val ++ List.replicate m .un, T⟩) : FnOk P w K mg base CX0 (k + 1) f fd ps (spL n s3) := by
  refine F.ok S (fun vs H Q E h => ?_) (fun cdv A outer s H vs Q E hr h => ?_)
  · obtain ⟨pn, H0, ds, T, hl, _⟩ := h
    rw [hl, hn]
  · obtain ⟨pn, H0, ds, T, hl, hS, hr', hp, h⟩ := h
    refine ⟨_, (hbody cdv A outer s H E hr).run, ⟨H, H0, pn, none⟩, _, H0, _, ?_, hs ds T _ (by rw [← hr'.length]; exact hl) h, ?_⟩
    · refine ⟨hS, Same.refl _, fun a o e _ => e, fun a o e => .inl ⟨o, e⟩, ?_, fun i => ?_, fun i j l a b => ?_, hp, fun _ z => by cases z⟩
      · unfold L2.start
        simp only [List.length_append, List.length_map, List.length_replicate]
        rw [← hr'.length, hl, hm]
        omega
      · show SlotOk _ H0 H (ds.map Slot.val ++ List.replicate m .un)[i]? (L2.start N vs)[i]?
        by_cases hi : i < ds.length
        · rw [List.getElem?_append_left (by rw [List.length_map]; exact hi), List.getElem?_map, List.getElem?_eq_getElem hi]
          obtain ⟨v, h1, h2⟩ := hr'.get (List.getElem?_eq_getElem hi)
          exact ⟨v, get_start h1, h2⟩
        · rw [List.getElem?_append_right (by rw [List.length_map]; omega), List.getElem?_replicate]
          split <;> exact True.intro
      · obtain ⟨⟨d, q⟩, _⟩ := a
        have q : (ds.map Slot.val ++ List.replicate m .un)[i]? = some (.own d) := q
        by_cases hi : i < ds.length
        · rw [List.getElem?_append_left (by rw [List.length_map]; exact hi), List.getElem?_map, List.getElem?_eq_getElem hi] at q
          cases q
        · rw [List.getElem?_append_right (by rw [List.length_map]; omega), List.getElem?_replicate] at q
          split at q <;> cases q
    · refine ⟨fun ρ' σ' H' H0' s' R' q => ?_, fun d ρ' σ' v H' H0' s' R' r q => ?_, fun _ _ _ _ _ _ z => z.elim, fun _ _ _ _ _ _ z => z.elim, fun _ _ _ _ _ _ _ _ _ _ z => z.elim⟩
      · exact q .non H' H0' R'.after .non
      · exact q v H' H0' R'.after r
end

/-! ### calls -/
section
variable {X : Cx} {W : WX} {e : Expr} {es : List Expr} {tr tk : A3} {k n : Nat} {f : Addr} {fd : FuncData} {ps : List Str} {s3 : Sp3} {x : Str} {p pos : Pos}
def tFn3 (n : Nat) (s : Sp3) (tr : A3) : E3 := fun ρ k x => tr ρ (fun ds ρ' => ds.length = n ∧ s ds ρ'.T fun d T' => k d (ρ'.at T')) x
theorem monFn (hm : mon3 s3) (m : MonE tr) : MonE (tFn3 n s3 tr) := fun ρ k k' x x' hk hx h => m _ _ _ _ _ (fun ds ρ' q => mon_and (hm _ _ _ _ fun d T' => hk _ _) q) hx h
theorem fn_read {G : Ent} {H0 H01 : Hp} {σ : L2.St} {Q : VK} {ρ1 : Env3} {vs : List V} {H1 : Hp} {ds : List D} {E : XK} (hm : mon3 s3) (s1 : Same H0 H01) (R1 : Rel G H01 ρ1 σ H1) (r1 : RepA G.pn H01 vs ds) (hl : ds.length = n)
    (q : s3 ds ρ1.T fun d T' => KQ G H0 σ Q d (ρ1.at T')) : spL n s3 vs H1 Q E := by
  refine ⟨G.pn, H01, ds, ρ1.T, by rw [r1.length]; exact hl, R1.ex, r1, R1.pen, hm _ _ _ _ (fun d T' q v H' H0' A r => ?_) q⟩
  exact q v H' H0' (s1.trans A.ex0) (R1.call A) r
theorem call3 (hm3 : mon3 s3) (F : FnOk X.prog X.w X.K X.mg X.base CX0 k f fd ps (spL n s3)) (hr : Room k X.A) (hg : Gl X x) (hm : X.mg x = some (.ref f)) (hk : PySem.W.keepIn X.K (.ref f) = true) (hb : Binds X.K fd ps [])
    (ha : P3A X W (e :: es) tr) (hdb : (x == ("__debug__" : Str)) = false := by decide) (he : starEach (e :: es) X.env = (false, eval e X.env) :: starEach es X.env := by rfl) (hpl : (backTo pos (starEach es X.env)).any (·.1) = false := by rfl) :
    P3 X W (.Call (.Name x p) (e :: es) [] pos) (tFn3 n s3 tr) := by
  refine ⟨PE.imp (pe_call F hr hg hm hk hb .nil pass0 ha.run hdb he hpl) fun σ H Q ⟨G, ρ, H0, R, q⟩ => ?_, monFn hm3 ha.mon⟩
  refine ⟨G, ρ, H0, R, ha.mon _ _ _ _ _ (fun ds ρ1 q vs H1 H01 s1 R1 r1 => ?_) (fun _ _ z => z) q⟩
  show spL n s3 (vs ++ []) H1 Q E0
  rw [List.append_nil]
  exact fn_read hm3 s1 R1 r1 q.1 q.2

/-! ### keywords -/
structure P3K (X : Cx) (W : WX) (kws : List Keyword) (t : A3) : Prop where
  run : PK X kws (lA W t)
  mon : MonE t
theorem PK.imp {X : Cx} {e : List Keyword} {t t' : TA} (h : PK X e t) (q : ∀ σ H Q, t' σ H Q → t σ H Q) : PK X e t' := ⟨fun p pins s σ H Q I z => h.run p pins s σ H Q I (q σ H Q z)⟩
theorem knil : P3K X W [] tNil3 := ⟨PK.imp pk_nil fun σ H Q ⟨G, ρ, H0, R, q⟩ => q [] H H0 (Same.refl _) R .nil, monNil⟩
theorem kcons {nm : Option Str} {kpos : Pos} {kws : List Keyword} {te : E3} (h1 : P3 X W e te) (h2 : P3K X W kws tr) : P3K X W (⟨nm, e, kpos⟩ :: kws) (tCons3 te tr) := by
  refine ⟨PK.imp (pk_cons h1.run h2.run) fun σ H Q h => ?_, monCons h1.mon h2.mon⟩
  obtain ⟨G, ρ, H0, R, h⟩ := h
  refine ⟨G, ρ, H0, R, h1.mon ρ _ _ _ _ (fun d ρ1 q => ?_) (fun _ _ z => z) h⟩
  intro v H1 H01 s1 R1 r1
  refine ⟨G, ρ1, H01, R1, h2.mon ρ1 _ _ _ _ (fun ds ρ2 q => ?_) (fun _ _ z => KX.up z s1) q⟩
  intro vs H2 H02 s2 R2 r2
  exact q (v :: vs) H2 H02 (s1.trans s2) R2 (.cons (r1.mono s2) r2)
/-- m by place, c by name, put in the parameters' order -/
def order {α : Type} (m c : Nat) (ix : List Nat) (us ws : List α) : List α := if us.length = m ∧ ws.length = c then ix.filterMap fun i => (us ++ ws)[i]? else []
theorem RepA.pick {pn : Option Addr} {H : Hp} {vs : List V} {ds : List D} (r : RepA pn H vs ds) : ∀ ix : List Nat, RepA pn H (ix.filterMap fun i => vs[i]?) (ix.filterMap fun i => ds[i]?)
  | [] => .nil
  | i :: ix => by
    rw [List.filterMap_cons, List.filterMap_cons]
    cases e : ds[i]? with
    | none =>
      have : vs[i]? = none := by rw [List.getElem?_eq_none_iff] at e ⊢; rw [r.length]; exact e
      rw [this]
      exact r.pick ix
    | some d =>
      obtain ⟨v, h1, h2⟩ := r.get e
      rw [h1]
      exact .cons h2 (r.pick ix)
theorem vals_pick {vs : List V} {us : List Value} (r : Vals vs us) : ∀ ix : List Nat, Vals (ix.filterMap fun i => vs[i]?) (ix.filterMap fun i => us[i]?)
  | [] => .nil
  | i :: ix => by
    rw [List.filterMap_cons, List.filterMap_cons]
    cases e : vs[i]? with
    | none =>
      rw [r.none_of e]
      exact vals_pick r ix
    | some d =>
      obtain ⟨v, h1, h2⟩ := r.get e
      rw [h1]
      exact .cons h2 (vals_pick r ix)
theorem order_rep {pn : Option Addr} {H : Hp} {m c : Nat} {ix : List Nat} {vs ws : List V} {ds es : List D} (r : RepA pn H vs ds) (q : RepA pn H ws es) : RepA pn H (order m c ix vs ws) (order m c ix ds es) := by
  unfold order
  rw [r.length, q.length]
  split
  · exact (r.append q).pick ix
  · exact .nil
theorem Fun.kbinds {K : PySem.W.Frag} {qual : Str} {st : Stmt} {ks : List Str} {m c : Nat} {ix : List Nat} (hps : 0 < ps.length) (F : Fun K x qual st f fd)
    (h : ∀ (kV doc pm : Value) (an : Option Addr) (cdv ct : Value) (us ws : List Value), us.length = m → ws.length = c → bindArgs (PySem.W.fnOf x qual (defArgs st) (defBody st) (defScope st) .none kV doc pm an cdv ct) ⟨us, ks.zip ws⟩ = pure (ps.zip (order m c ix us ws))) : KBinds K fd ps ks (order m c ix) (order m c ix) := by
  obtain ⟨oc, od, kV, doc, pm, an, cdv, ct, osl, rfl, lk, hcd⟩ := F.ex
  refine ⟨fun s us ws _ hl => ?_, fun {vs us zs ws} r q => ?_⟩
  · by_cases hc : us.length = m ∧ ws.length = c
    · exact .of_eq (h kV doc pm an cdv ct us ws hc.1 hc.2)
    · unfold order at hl
      rw [if_neg hc] at hl
      simp at hl
      omega
  · unfold order
    rw [r.length, q.length]
    split
    · exact vals_pick (r.append q) ix
    · exact .nil
def tFnK3 (n m c : Nat) (ix : List Nat) (s : Sp3) (tr tk : A3) : E3 := fun ρ k x => tr ρ (fun ds ρ1 => tk ρ1 (fun es ρ2 => (order m c ix ds es).length = n ∧ s (order m c ix ds es) ρ2.T fun d T' => k d (ρ2.at T')) x) x
theorem monFnK {m c : Nat} {ix : List Nat} (hm : mon3 s3) (m1 : MonE tr) (m2 : MonE tk) : MonE (tFnK3 n m c ix s3 tr tk) := fun ρ k k' x x' hk hx h => m1 _ _ _ _ _ (fun ds ρ1 q => m2 _ _ _ _ _ (fun es ρ2 q => mon_and (hm _ _ _ _ fun d T' => hk _ _) q) hx q) hx h
theorem callK3 {m c : Nat} {ix : List Nat} {kws : List Keyword} {ks : List Str} (hm3 : mon3 s3) (F : FnOk X.prog X.w X.K X.mg X.base CX0 k f fd ps (spL n s3)) (hr : Room k X.A) (hg : Gl X x) (hm : X.mg x = some (.ref f)) (hk : PySem.W.keepIn X.K (.ref f) = true)
    (hb : KBinds X.K fd ps ks (order m c ix) (order m c ix)) (ha : P3A X W (e :: es) tr) (hkw : P3K X W kws tk) (hall : (backToKw pos (keywordEach kws X.env)).all (·.1.isSome) = true := by rfl) (hks : (backToKw pos (keywordEach kws X.env)).filterMap (·.1) = ks := by rfl)
    (hdb : (x == ("__debug__" : Str)) = false := by decide) (he : starEach (e :: es) X.env = (false, eval e X.env) :: starEach es X.env := by rfl)
    (hpl : ((backTo pos (starEach (e :: es) X.env)).any (·.1) || (backToKw pos (keywordEach kws X.env)).any (·.1.isNone)) = false := by rfl) :
    P3 X W (.Call (.Name x p) (e :: es) kws pos) (tFnK3 n m c ix s3 tr tk) := by
  refine ⟨PE.imp (pe_callK F hr hg hm hk hb pass0 ha.run hkw.run hall hks hdb he hpl) fun σ H Q ⟨G, ρ, H0, R, q⟩ => ?_, monFnK hm3 ha.mon hkw.mon⟩
  refine ⟨G, ρ, H0, R, ha.mon _ _ _ _ _ (fun ds ρ1 q vs H1 H01 s1 R1 r1 => ?_) (fun _ _ z => z) q⟩
  refine ⟨G, ρ1, H01, R1, hkw.mon _ _ _ _ _ (fun es ρ2 q ws H2 H02 s2 R2 r2 => ?_) (fun _ _ z => KX.up z s1) q⟩
  exact fn_read hm3 (s1.trans s2) R2 (order_rep (r1.mono s2) r2) q.1 q.2
theorem pe_callK0 {sp : Sp} {kws : List Keyword} {ks : List Str} {E : XK} {CX : CXT} {tk : TA} {g : List Value → List Value → List Value} {gV : List V → List V → List V} (F : FnOk X.prog X.w X.K X.mg X.base CX k f fd ps sp) (hr : Room k X.A) (hg : Gl X x) (hm : X.mg x = some (.ref f)) (hk : PySem.W.keepIn X.K (.ref f) = true)
    (hb : KBinds X.K fd ps ks g gV) (hx : Passes CX X E) (hkw : PK X kws tk) (hall : (backToKw pos (keywordEach kws X.env)).all (·.1.isSome) = true := by rfl) (hks : (backToKw pos (keywordEach kws X.env)).filterMap (·.1) = ks := by rfl)
    (hdb : (x == ("__debug__" : Str)) = false := by decide)
    (hpl : ((backTo pos (starEach [] X.env)).any (·.1) || (backToKw pos (keywordEach kws X.env)).any (·.1.isNone)) = false := by rfl) :
    PE X (.Call (.Name x p) [] kws pos) (tCallK sp gV E tNil tk) := by
  refine ⟨fun pins s σ H Q I h => ?_⟩
  refine wpAny_Call_Name_kw (ld_glob I hg hm ?_ hdb)
  refine PySem.W.callWith_KW0 (h₀ := X.base) I.ok.mod.kin hk hall (thn (hkw.run pos pins s σ H _ I h) fun ws s2 ⟨zs, H2, I2, rz, q2⟩ => ⟨I2.kIn, ?_⟩) hpl
  rw [hks]
  exact run_fnk F hr hb hx I2 .nil rz q2
theorem callK03 {c : Nat} {ix : List Nat} {kws : List Keyword} {ks : List Str} (hm3 : mon3 s3) (F : FnOk X.prog X.w X.K X.mg X.base CX0 k f fd ps (spL n s3)) (hr : Room k X.A) (hg : Gl X x) (hm : X.mg x = some (.ref f)) (hk : PySem.W.keepIn X.K (.ref f) = true)
    (hb : KBinds X.K fd ps ks (order 0 c ix) (order 0 c ix)) (hkw : P3K X W kws tk) (hall : (backToKw pos (keywordEach kws X.env)).all (·.1.isSome) = true := by rfl) (hks : (backToKw pos (keywordEach kws X.env)).filterMap (·.1) = ks := by rfl)
    (hdb : (x == ("__debug__" : Str)) = false := by decide)
    (hpl : ((backTo pos (starEach [] X.env)).any (·.1) || (backToKw pos (keywordEach kws X.env)).any (·.1.isNone)) = false := by rfl) :
    P3 X W (.Call (.Name x p) [] kws pos) (tFnK3 n 0 c ix s3 tNil3 tk) := by
  refine ⟨PE.imp (pe_callK0 F hr hg hm hk hb pass0 hkw.run hall hks hdb hpl) fun σ H Q ⟨G, ρ, H0, R, q⟩ => ?_, monFnK hm3 monNil hkw.mon⟩
  refine ⟨G, ρ, H0, R, hkw.mon _ _ _ _ _ (fun es ρ2 q ws H2 H02 s2 R2 r2 => ?_) (fun _ _ z => z) q⟩
  exact fn_read hm3 s2 R2 (order_rep (.nil) r2) q.1 q.2
end
end L3
/-! L3: lists and dicts of a frame's own -/
namespace L3
open PySem PySem.Spec PyProof.Rows L2

/-- a new object that the frame alone knows -/
structure Fresh (G : Ent) (H0 : Hp) (ρ : Env3) (σ : L2.St) (H : Hp) (l : Addr) (d : D) : Prop where
  own : Own G.pn H0 H l d
  h0 : H0 l = none
  hf : G.Hf l = none
  pn : G.pn ≠ some l
  no : ∀ j, ¬ OwnS ρ σ j l
def KF (G : Ent) (H0 : Hp) (σ : L2.St) (Q : VK) : K3 := fun d ρ' => ∀ l H' H0', Same H0 H0' → Rel G H0' ρ' σ H' → Fresh G H0' ρ' σ H' l d → Q (.ref l) H'
theorem KF.up {G : Ent} {H0 H0' : Hp} {σ : L2.St} {d : D} {ρ : Env3} {Q : VK} (k : KF G H0 σ Q d ρ) (e : Same H0 H0') : KF G H0' σ Q d ρ := fun v H' H1 s R r => k v H' H1 (e.trans s) R r
def lF (W : WX) (t : E3) : TE := fun σ H Q => ∃ G ρ H0, Rel G H0 ρ σ H ∧ t ρ (KF G H0 σ Q) (KX G H0 σ W)
structure P3F (X : Cx) (W : WX) (e : Expr) (t : E3) : Prop where
  run : PE X e (lF W t)
  mon : MonE t
theorem Rel.make {G : Ent} {H0 H : Hp} {ρ : Env3} {σ : L2.St} {p : Addr} {o : HO} {d : D} (R : Rel G H0 ρ σ H) (hp : H p = none) (h : Own G.pn H0 (upd H p o) p d) : Rel G H0 ρ σ (upd H p o) ∧ Fresh G H0 ρ σ (upd H p o) p d := by
  have nf := R.noHf hp
  refine ⟨R.grow' hp, h, ?_, nf.1, nf.2, R.fresh hp⟩
  cases e : H0 p with
  | none => rfl
  | some u => have := R.ex _ _ e; rw [hp] at this; cases this
section
variable {X : Cx} {W : WX} {e : Expr} {es : List Expr} {pos : Pos} {te tf tg : E3} {tr : A3}
theorem flst (h1 : P3A X W es tr) : P3F X W (.List es pos) (tLst3 tr) := by
  refine ⟨PE.imp (pe_lst h1.run) fun σ H Q h => ?_, (lst3 (pos := pos) h1).mon⟩
  obtain ⟨G, ρ, H0, R, h⟩ := h
  refine ⟨G, ρ, H0, R, h1.mon ρ _ _ _ _ (fun ds ρ' q => ?_) (fun _ _ z => z) h⟩
  intro vs H' H0' s R' r
  refine ⟨by rw [r.length]; exact q.1, fun p hp => ?_⟩
  obtain ⟨R2, f⟩ := R'.make (o := .lst vs) (d := .lst ds) hp ⟨vs, upd_same, r⟩
  exact q.2 _ _ _ s R2 f
def tEmptyT : E3 := fun ρ k _ => k (.dT []) ρ
theorem fdict : P3F X W (.Dict [] [] pos) tEmptyT := by
  refine ⟨PE.imp pe_dnewT fun σ H Q ⟨G, ρ, H0, R, q⟩ p hp => ?_, fun ρ k k' x x' hk _ h => hk _ _ h⟩
  obtain ⟨R2, f⟩ := R.make (o := .dT []) (d := .dT []) hp ⟨[], upd_same, .nil⟩
  exact q _ _ _ (Same.refl _) R2 f
/-- list(xs) -/
def tListF (te : E3) : E3 := tCB3 gList (tCons3 te tNil3)
theorem flist {p : Pos} (hg : Gl X "list") (hn : X.mg "list" = none) (h : P3 X W e te) (he : starEach [e] X.env = (false, eval e X.env) :: starEach [] X.env := by rfl) (hpl : (backTo pos (starEach [] X.env)).any (·.1) = false := by rfl) : P3F X W (.Call (.Name "list" p) [e] [] pos) (tCB3 gList (tCons3 te tNil3)) := by
  have ha : P3A X W [e] (tCons3 te tNil3) := acons h anil he
  refine ⟨PE.imp (pe_callTy call_list_of hg hn (by decide +kernel) ha.run (by decide) (by decide) he hpl) fun σ H Q h => ?_, monCB mc_list ha.mon⟩
  obtain ⟨G, ρ, H0, R, h⟩ := h
  refine ⟨G, ρ, H0, R, ha.mon ρ _ _ _ _ (fun ds ρ' q => ?_) (fun _ _ z => z) h⟩
  intro vs H' H0' s R' r
  rcases ds with _ | ⟨d, _ | ⟨d2, l⟩⟩
  · exact q.elim
  · obtain ⟨v, rfl, rv⟩ := rep1 r
    cases rv with
    | @lst a vs ds hx rx =>
      refine ⟨_, _, rfl, .inl (SqL.of (R'.ex _ _ hx)), fun p hp => ?_⟩
      obtain ⟨R2, f⟩ := R'.make (o := .lst vs) (d := .lst ds) hp ⟨vs, upd_same, rx⟩
      exact q _ _ _ s R2 f
    | @tup a vs ds hx rx =>
      refine ⟨_, _, rfl, .inr (SqT.of (R'.ex _ _ hx)), fun p hp => ?_⟩
      obtain ⟨R2, f⟩ := R'.make (o := .lst vs) (d := .lst ds) hp ⟨vs, upd_same, rx⟩
      exact q _ _ _ s R2 f
    | _ => exact q.elim
  · cases d <;> exact q.elim

/-- x = a new list of one's own -/
def tOwn3 (i : Nat) (tf : E3) : S3 := fun E ρ => tf ρ (fun d ρ1 => (i ≠ 0 ∧ i < ρ1.sl.length) ∧ E.nx (ρ1.put i (.own d))) E.xc
theorem sown {i : Nat} {x : Str} {px : Pos} (hN : X.N.Nodup) (hi : X.N[i]? = some x) (hx : Loc X.env.scope x := by first | exact .inl rfl | exact .inr rfl) (h1 : P3F X W e tf) (hs : swapsWith e (some (.Name x px)) pos.line X.env = pure false := by rfl)
    (hf : X.fn x = true ∨ X.env.scope.names.lookup x = some .local := by first | exact .inl rfl | exact .inr rfl | assumption) : P3S X W (.Assign [.Name x px] e pos) (tOwn3 i tf) := by
  refine ⟨PS.imp (ps_set hN hi hx h1.run hs hf) fun D σ H ⟨G, ρ, H0, E, R, h, L⟩ => ?_, fun E E' ρ l h => h1.mon _ _ _ _ _ (fun d ρ1 q => mon_and (l.nx _) q) l.xc h⟩
  refine ⟨G, ρ, H0, R, h1.mon _ _ _ _ _ (fun d ρ1 q l H1 H01 s1 R1 f => ?_) (fun x ρ' q => L.kx q) h⟩
  exact L.nx _ _ H1 H01 s1 (R1.putOwn f.own f.h0 f.hf f.pn f.no q.1) q.2
/-- x, y = two new ones -/
def tOwn23 (i j : Nat) (tf tg : E3) : S3 := fun E ρ => tf ρ (fun d ρ1 => tg ρ1 (fun d' ρ2 => ((i ≠ 0 ∧ i < ρ2.sl.length) ∧ j ≠ 0 ∧ j < ρ2.sl.length) ∧ E.nx ((ρ2.put i (.own d)).put j (.own d'))) E.xc) E.xc
theorem sown2 {i j : Nat} {x y : Str} {a b : Expr} {px py pt : Pos} {kt k2 pt2} (hc : X.calm = true) (hN : X.N.Nodup) (hi : X.N[i]? = some x) (hj : X.N[j]? = some y) (hij : i ≠ j)
    (hx : X.env.scope.names.lookup x = some .local) (hy : X.env.scope.names.lookup y = some .local) (h1 : P3F X W a tf) (h2 : P3F X W b tg)
    (hw : swappedStores [.Tuple [.Name x px, .Name y py] kt pt] (.Tuple [a, b] k2 pt2) X.env = pure (some [x, y]))
    (hs : swapsWithSole [.Tuple [.Name x px, .Name y py] kt pt] (.Tuple [a, b] k2 pt2) pos.line X.env = pure false := by rfl)
    (e1 : starEach [a, b] X.env = (false, eval a X.env) :: starEach [b] X.env := by rfl) (e2 : starEach [b] X.env = (false, eval b X.env) :: starEach [] X.env := by rfl) :
    P3S X W (.Assign [.Tuple [.Name x px, .Name y py] kt pt] (.Tuple [a, b] k2 pt2) pos) (tOwn23 i j tf tg) := by
  refine ⟨PS.imp (ps_par hc hN hi hj hij hx hy (pa_cons h1.run (pa_cons h2.run pa_nil e2) e1) hw hs) fun D σ H ⟨G, ρ, H0, E, R, h, L⟩ => ?_, fun E E' ρ l h => h1.mon _ _ _ _ _ (fun d ρ1 q => h2.mon _ _ _ _ _ (fun d' ρ2 q => mon_and (l.nx _) q) l.xc q) l.xc h⟩
  refine ⟨G, ρ, H0, R, h1.mon _ _ _ _ _ (fun d ρ1 q l H1 H01 s1 R1 f => ?_) (fun x ρ' q => L.kx q) h⟩
  obtain ⟨o, ho⟩ := f.own.there
  have R1' := R1.res ho f.h0 f.no
  have hg0 : G.H0 l = none := by
    cases e : G.H0 l with
    | none => rfl
    | some u => have := R1.ex0 _ _ e; rw [f.h0] at this; cases this
  refine ⟨G.res l o, ρ1, H01, R1', h2.mon _ _ _ _ _ (fun d' ρ2 q l' H2 H02 s2 R2 f' => ?_) (fun x ρ' q => ?_) q⟩
  · have ht : ∀ xs, o ≠ .tup xs := fun xs z => by
      subst z
      have w := f.own
      cases d with
      | lst ds => obtain ⟨vs, q, _⟩ := w; rw [ho] at q; cases q
      | dT ds => obtain ⟨vs, q, _⟩ := w; rw [ho] at q; cases q
      | _ => exact w.elim
    obtain ⟨hl, hl0, hx'⟩ := R2.res_no ht hg0 f.pn
    have hf' : upd G.Hf l o l' = none := f'.hf
    have hne : l' ≠ l := fun z => by rw [z, upd_same] at hf'; cases hf'
    rw [upd_ne hne] at hf'
    have R3 := R2.unres f.hf
    have own1 : Own G.pn H02 H2 l d := f.own.mono s2 (hl.trans ho.symm)
    have R4 := R3.putOwn own1 hl0 f.hf f.pn hx' q.1.1
    refine ⟨_, _, rfl, L.nx _ _ H2 H02 (s1.trans s2) (R4.putOwn (i := j) f'.own f'.h0 hf' f'.pn (fun m hm => ?_) ⟨q.1.2.1, by show j < (ρ2.sl.set i _).length; rw [List.length_set]; exact q.1.2.2⟩) q.2⟩
    obtain ⟨⟨dm, hm1⟩, hm2⟩ := hm
    by_cases hmi : m = i
    · subst hmi
      by_cases hlt : m < σ.length
      · rw [List.getElem?_set_self hlt] at hm2
        cases hm2
        exact hne rfl
      · rw [List.getElem?_eq_none_iff.mpr (by rw [List.length_set]; omega)] at hm2
        cases hm2
    · have hm1 : (ρ2.sl.set i (.own d))[m]? = some (.own dm) := hm1
      rw [List.getElem?_set_ne (Ne.symm hmi)] at hm1 hm2
      exact f'.no m ⟨⟨dm, hm1⟩, hm2⟩
  · intro cls dx H' H0' s R' r
    exact L.xc x ρ' σ cls dx H' H0' (s1.trans s) (R'.unres f.hf) r q

/-- the i-th slot is an own list, an own dict -/
def ownA (ρ : Env3) (i : Nat) (f : List D → Prop) : Prop :=
  match ρ.sl[i]? with
  | some (.own (.lst xs)) => f xs
  | _ => False
def ownT (ρ : Env3) (i : Nat) (f : List (List Key × D) → Prop) : Prop :=
  match ρ.sl[i]? with
  | some (.own (.dT xs)) => f xs
  | _ => False
def isI (d : D) (f : Int → Prop) : Prop :=
  match d with
  | .int j => f j
  | _ => False
def isT (d : D) (f : List D → Prop) : Prop :=
  match d with
  | .tup j => f j
  | _ => False
theorem ownA_get {ρ : Env3} {i : Nat} {f : List D → Prop} (h : ownA ρ i f) : ∃ xs, ρ.sl[i]? = some (.own (.lst xs)) ∧ f xs := by
  unfold ownA at h
  split at h
  · exact ⟨_, ‹_›, h⟩
  · exact h.elim
theorem ownT_get {ρ : Env3} {i : Nat} {f : List (List Key × D) → Prop} (h : ownT ρ i f) : ∃ xs, ρ.sl[i]? = some (.own (.dT xs)) ∧ f xs := by
  unfold ownT at h
  split at h
  · exact ⟨_, ‹_›, h⟩
  · exact h.elim
theorem isI_get {d : D} {f : Int → Prop} (h : isI d f) : ∃ j, d = .int j ∧ f j := by
  cases d <;> first | exact ⟨_, rfl, h⟩ | exact h.elim
theorem isT_get {d : D} {f : List D → Prop} (h : isT d f) : ∃ j, d = .tup j ∧ f j := by
  cases d <;> first | exact ⟨_, rfl, h⟩ | exact h.elim
theorem ownA_mono {ρ : Env3} {i : Nat} {f f' : List D → Prop} (m : ∀ xs, f xs → f' xs) (h : ownA ρ i f) : ownA ρ i f' := by
  unfold ownA at h ⊢
  split at h
  · exact m _ h
  · exact h.elim
theorem ownT_mono {ρ : Env3} {i : Nat} {f f' : List (List Key × D) → Prop} (m : ∀ xs, f xs → f' xs) (h : ownT ρ i f) : ownT ρ i f' := by
  unfold ownT at h ⊢
  split at h
  · exact m _ h
  · exact h.elim
theorem isI_mono {d : D} {f f' : Int → Prop} (m : ∀ xs, f xs → f' xs) (h : isI d f) : isI d f' := by
  cases d <;> first | exact m _ h | exact h
theorem isT_mono {d : D} {f f' : List D → Prop} (m : ∀ xs, f xs → f' xs) (h : isT d f) : isT d f' := by
  cases d <;> first | exact m _ h | exact h

/-! ### an own list read, written -/
/-- x[e] of an own list, which stays own -/
def tIxO (i : Nat) (te : E3) : E3 := fun ρ k x => ownA ρ i fun _ => te ρ (fun d ρ1 => ownA ρ1 i fun xs => isI d fun j => optK (atI xs j) fun y => k y ρ1) x
theorem monIxO {i : Nat} (m : MonE te) : MonE (tIxO i te) := fun ρ k k' x x' hk hx h => ownA_mono (fun _ => m _ _ _ _ _ (fun d ρ1 => ownA_mono fun xs => isI_mono fun j => optK_mono fun y => hk y ρ1) hx) h
theorem ixo3 (i : Nat) {x : Str} {px : Pos} (hi : P3 X W e te) (hs : PlainIx e := by exact fun _ _ => rfl) (hN : X.N[i]? = some x := by rfl) (hv : Vis X.env.scope x := by first | exact Or.inl rfl | exact Or.inr (Or.inl rfl) | exact Or.inr (Or.inr rfl)) (hd : (x == ("__debug__" : Str)) = false := by decide)
    (hcd : (x == ("__classdict__" : Str)) = false := by decide) : P3 X W (.Subscript (.Name x px) e pos) (tIxO i te) := by
  refine ⟨PE.imp (pe_ix ix_list (pe_var hN hv hd hcd) hi.run hs) fun σ H Q ⟨G, ρ, H0, R, q⟩ => ?_, monIxO hi.mon⟩
  obtain ⟨xs0, e0, q⟩ := ownA_get q
  obtain ⟨l, h1, _⟩ := R.owned e0
  refine ⟨_, h1, G, ρ, H0, R, hi.mon _ _ _ _ _ (fun d ρ1 q v H1 H01 s1 R1 r1 => ?_) (fun _ _ z => z) q⟩
  obtain ⟨xs, e1, q⟩ := ownA_get q
  obtain ⟨j, rfl, q⟩ := isI_get q
  obtain ⟨y, hy, q⟩ := optK_some q
  cases r1
  obtain ⟨l', h1', ow, _⟩ := R1.owned e1
  rw [h1] at h1'
  cases h1'
  obtain ⟨vs, hl, ra⟩ := ow
  obtain ⟨v, hv1, hv2⟩ := atI_rep ra hy
  exact ⟨_, _, _, _, rfl, rfl, SqL.of hl, hv1, q v H1 H01 s1 R1 hv2⟩
/-- x[e] = y of an own list -/
def tSetO (i : Nat) (ti tv : E3) : S3 := fun E ρ => tv ρ (fun y ρ1 => ownA ρ1 i fun _ => ti ρ1 (fun d ρ2 => ownA ρ2 i fun xs => isI d fun j => optK (ixN xs.length j) fun n => E.nx (ρ2.put i (.own (.lst (xs.set n y))))) E.xc) E.xc
theorem sset (i : Nat) {x : Str} {px p2 : Pos} {v : Expr} {ti tv : E3} (hi : P3 X W e ti) (hv : P3 X W v tv) (hN : X.N[i]? = some x := by rfl) (hvs : Vis X.env.scope x := by first | exact Or.inl rfl | exact Or.inr (Or.inl rfl) | exact Or.inr (Or.inr rfl)) (hd : (x == ("__debug__" : Str)) = false := by decide)
    (hcd : (x == ("__classdict__" : Str)) = false := by decide)
    (ha : ∀ v, assign (.Subscript (.Name x px) e p2) X.env v = (do
      let ov ← holding [v] (eval (.Name x px) X.env)
      let iv ← holding [v, ov] (eval e X.env)
      standAt p2
      holding [v, ov, iv] (setItem ov iv v)
      release [v, ov, iv] []) := by intro _; rfl)
    (hs : swapsWithSole [.Subscript (.Name x px) e p2] v pos.line X.env = pure false := by rfl) (hw : swappedStores [.Subscript (.Name x px) e p2] v X.env = pure none := by rfl)
    (hh : (assignEach [.Subscript (.Name x px) e p2] X.env).map (·.2) = [assign (.Subscript (.Name x px) e p2) X.env] := by rfl) : P3S X W (.Assign [.Subscript (.Name x px) e p2] v pos) (tSetO i ti tv) := by
  refine ⟨PS.imp (ps_asg hv.run (pg_sub (pe_var hN hvs hd hcd) hi.run set_list ha) hs hw hh) fun D σ H ⟨G, ρ, H0, E, R, h, L⟩ => ?_, fun E E' ρ l h => hv.mon _ _ _ _ _ (fun y ρ1 => ownA_mono fun _ => hi.mon _ _ _ _ _ (fun d ρ2 => ownA_mono fun xs => isI_mono fun j => optK_mono fun n => l.nx _) l.xc) l.xc h⟩
  · refine ⟨G, ρ, H0, R, hv.mon _ _ _ _ _ (fun y ρ1 q yv H1 H01 s1 R1 r1 => ?_) (fun x ρ' q => L.kx q) h⟩
    obtain ⟨xs0, e0, q⟩ := ownA_get q
    obtain ⟨l, h1, _⟩ := R1.owned e0
    refine ⟨_, h1, G, ρ1, H01, R1, hi.mon _ _ _ _ _ (fun d ρ2 q iv H2 H02 s2 R2 r2 => ?_) (fun x ρ' q => (L.up s1).kx q) q⟩
    obtain ⟨xs, e1, q⟩ := ownA_get q
    obtain ⟨j, rfl, q⟩ := isI_get q
    obtain ⟨n, hn, q⟩ := optK_some q
    cases r2
    obtain ⟨l', h1', ow, _⟩ := R2.owned e1
    rw [h1] at h1'
    cases h1'
    obtain ⟨vs, hl, ra⟩ := ow
    refine ⟨_, _, _, n, rfl, rfl, hl, by rw [ra.length]; exact hn, ?_⟩
    exact L.nx _ _ _ H02 (s1.trans s2) (R2.chg (d' := .lst (xs.set n y)) e1 h1 ⟨_, upd_same, ra.setI (r1.mono s2) n⟩) q
/-- x.append(e) -/
def tAppO (i : Nat) (te : E3) : S3 := fun E ρ => ownA ρ i fun _ => te ρ (fun y ρ1 => ownA ρ1 i fun xs => xs.length < sizeLine ∧ E.nx (ρ1.put i (.own (.lst (xs ++ [y]))))) E.xc
theorem sapp (i : Nat) {x : Str} {px apos cpos : Pos} (hi : P3 X W e te) (hN : X.N[i]? = some x := by rfl) (hv : Vis X.env.scope x := by first | exact Or.inl rfl | exact Or.inr (Or.inl rfl) | exact Or.inr (Or.inr rfl)) (hd : (x == ("__debug__" : Str)) = false := by decide)
    (hcd : (x == ("__classdict__" : Str)) = false := by decide)
    (hbase : attributeBase (.Name x px) "append" X.env (eval (.Name x px) X.env) = eval (.Name x px) X.env := by rfl)
    (hfew : ((backTo cpos (starEach [e] X.env)).all (fun x => !x.1) && (backToKw cpos (keywordEach [] X.env)).all (fun x => x.1.isSome)
      && decide ([e].length + ([] : List Keyword).length + (if ([] : List Keyword).isEmpty then 0 else 1) < 30)) = true := by rfl)
    (hline : (apos.endLine == cpos.line) = true := by rfl) (hst : starEach [e] X.env = (false, eval e X.env) :: starEach [] X.env := by rfl) (hplain : (backTo cpos (starEach [] X.env)).any (·.1) = false := by rfl)
    (hsw : swapsWith (.Call (.Attribute (.Name x px) "append" apos) [e] [] cpos) none pos.line X.env = pure false := by rfl) :
    P3S X W (.Expr (.Call (.Attribute (.Name x px) "append" apos) [e] [] cpos) pos) (tAppO i te) := by
  refine ⟨PS.imp (ps_expr (pe_bm PySem.F.plainAttrs_list PySem.F.slot_list_append PySem.F.type_list_append mt_append (pe_var hN hv hd hcd) (pa_cons hi.run pa_nil hst) hbase hfew hline hst hplain) hsw) fun D σ H ⟨G, ρ, H0, E, R, q, L⟩ => ?_, fun E E' ρ l => ownA_mono fun _ => hi.mon _ _ _ _ _ (fun y ρ1 => ownA_mono fun xs => mon_and (l.nx _)) l.xc⟩
  · obtain ⟨xs0, e0, q⟩ := ownA_get q
    obtain ⟨l, h1, ow0, _⟩ := R.owned e0
    obtain ⟨vs0, hl0, _⟩ := ow0
    refine ⟨_, h1, .inl ⟨rfl, _, SqL.of hl0⟩, G, ρ, H0, R, hi.mon _ _ _ _ _ (fun y ρ1 q yv H1 H01 s1 R1 r1 => ?_) (fun x ρ' q => L.kx q) q⟩
    obtain ⟨xs, e1, q⟩ := ownA_get q
    obtain ⟨l', h1', ow, _⟩ := R1.owned e1
    rw [h1] at h1'
    cases h1'
    obtain ⟨vs, hl, ra⟩ := ow
    refine ⟨_, _, _, rfl, rfl, hl, by rw [ra.length]; exact q.1, ?_⟩
    exact L.nx _ _ _ H01 s1 (R1.chg (d' := .lst (xs ++ [y])) e1 h1 ⟨_, upd_same, ra.append (.cons r1 .nil)⟩) q.2
/-- x.pop(e) -/
def tPopO (i : Nat) (te : E3) : E3 := fun ρ k x => ownA ρ i fun _ => te ρ (fun d ρ1 => ownA ρ1 i fun xs => isI d fun j => (-(2 ^ 63) ≤ j ∧ j < 2 ^ 63) ∧ optK (seqIndex? j xs.length) fun n => optK xs[n]? fun y => k y (ρ1.put i (.own (.lst (xs.eraseIdx n))))) x
theorem pop3 (i : Nat) {x : Str} {px apos cpos : Pos} (hi : P3 X W e te) (hN : X.N[i]? = some x := by rfl) (hv : Vis X.env.scope x := by first | exact Or.inl rfl | exact Or.inr (Or.inl rfl) | exact Or.inr (Or.inr rfl)) (hd : (x == ("__debug__" : Str)) = false := by decide)
    (hcd : (x == ("__classdict__" : Str)) = false := by decide)
    (hbase : attributeBase (.Name x px) "pop" X.env (eval (.Name x px) X.env) = eval (.Name x px) X.env := by rfl)
    (hfew : ((backTo cpos (starEach [e] X.env)).all (fun x => !x.1) && (backToKw cpos (keywordEach [] X.env)).all (fun x => x.1.isSome)
      && decide ([e].length + ([] : List Keyword).length + (if ([] : List Keyword).isEmpty then 0 else 1) < 30)) = true := by rfl)
    (hline : (apos.endLine == cpos.line) = true := by rfl) (hst : starEach [e] X.env = (false, eval e X.env) :: starEach [] X.env := by rfl) (hplain : (backTo cpos (starEach [] X.env)).any (·.1) = false := by rfl) :
    P3 X W (.Call (.Attribute (.Name x px) "pop" apos) [e] [] cpos) (tPopO i te) := by
  refine ⟨PE.imp (pe_bm PySem.F.plainAttrs_list PySem.F.slot_list_pop PySem.F.type_list_pop mt_popAt (pe_var hN hv hd hcd) (pa_cons hi.run pa_nil hst) hbase hfew hline hst hplain) fun σ H Q ⟨G, ρ, H0, R, q⟩ => ?_, fun ρ k k' x x' hk hx => ownA_mono fun _ => hi.mon _ _ _ _ _ (fun y ρ1 => ownA_mono fun xs => isI_mono fun j => mon_and (optK_mono fun n => optK_mono fun y => hk _ _)) hx⟩
  · obtain ⟨xs0, e0, q⟩ := ownA_get q
    obtain ⟨l, h1, ow0, _⟩ := R.owned e0
    obtain ⟨vs0, hl0, _⟩ := ow0
    refine ⟨_, h1, .inl ⟨rfl, _, SqL.of hl0⟩, G, ρ, H0, R, hi.mon _ _ _ _ _ (fun d ρ1 q yv H1 H01 s1 R1 r1 => ?_) (fun x ρ' q => q) q⟩
    obtain ⟨xs, e1, q⟩ := ownA_get q
    obtain ⟨j, rfl, q⟩ := isI_get q
    obtain ⟨n, hn, q2⟩ := optK_some q.2
    obtain ⟨y, hy, q3⟩ := optK_some q2
    cases r1
    obtain ⟨l', h1', ow, _⟩ := R1.owned e1
    rw [h1] at h1'
    cases h1'
    obtain ⟨vs, hl, ra⟩ := ow
    obtain ⟨v, hv1, hv2⟩ := ra.get hy
    refine ⟨_, _, _, n, v, rfl, rfl, hl, q.1.1, q.1.2, by rw [ra.length]; exact hn, hv1, ?_⟩
    exact q3 v _ H01 s1 (R1.chg (d' := .lst (xs.eraseIdx n)) e1 h1 ⟨_, upd_same, ra.erase n⟩) hv2
end

/-! ### dicts with tuples for keys -/
def keyI : D → Option Key
  | .int i => some (.inl i)
  | .str x => some (.inr x)
  | _ => none
def keyA : List D → Option (List Key)
  | [] => some []
  | d :: r => (keyI d).bind fun k => (keyA r).map (k :: ·)
theorem keyA_rep {pn : Option Addr} {H : Hp} : ∀ {vs : List V} {ds : List D} {ks : List Key}, RepA pn H vs ds → keyA ds = some ks → vs = ks.map kV
  | _, _, ks, .nil, h => by cases h; rfl
  | _, _, ks, .cons (d := d) r q, h => by
    simp only [keyA, Option.bind_eq_some_iff, Option.map_eq_some_iff] at h
    obtain ⟨k, h1, ks', h2, rfl⟩ := h
    rw [List.map_cons, ← keyA_rep q h2]
    cases r <;> first | (cases h1; rfl) | cases h1
def valD (kds : List (List Key × D)) (k : List Key) : Option D := (kds.find? fun kv => decide (kv.1 = k)).map (·.2)
def putD (kds : List (List Key × D)) (k : List Key) (d : D) : List (List Key × D) := if (kds.any fun kv => decide (kv.1 = k)) = true then kds.map (fun kv => if kv.1 = k then (kv.1, d) else kv) else kds ++ [(k, d)]
section
variable {pn : Option Addr} {H : Hp}
theorem RepK.val {k : List Key} : ∀ {vs : List (List Key × V)} {ds : List (List Key × D)} {d : D}, RepK pn H vs ds → valD ds k = some d → ∃ v, valV vs k = some v ∧ Rep pn H v d
  | _, _, d, .nil, h => by cases h
  | _, _, d, .cons (k := k') r q, h => by
    by_cases e : k' = k
    · unfold valD at h
      rw [List.find?_cons_of_pos (by simpa using e)] at h
      cases h
      exact ⟨_, valV_pos e, r⟩
    · unfold valD at h
      rw [List.find?_cons_of_neg (by simpa using e)] at h
      obtain ⟨v, h1, h2⟩ := RepK.val q h
      exact ⟨v, (valV_neg e).trans h1, h2⟩
theorem RepK.any {k : List Key} : ∀ {vs : List (List Key × V)} {ds : List (List Key × D)}, RepK pn H vs ds → (vs.any fun kv => decide (kv.1 = k)) = ds.any fun kv => decide (kv.1 = k)
  | _, _, .nil => rfl
  | _, _, .cons r q => by rw [List.any_cons, List.any_cons, q.any]
theorem RepK.length : ∀ {vs : List (List Key × V)} {ds : List (List Key × D)}, RepK pn H vs ds → vs.length = ds.length
  | _, _, .nil => rfl
  | _, _, .cons r q => by rw [List.length_cons, List.length_cons, q.length]
theorem RepK.over {k : List Key} {v : V} {d : D} (h : Rep pn H v d) : ∀ {vs : List (List Key × V)} {ds : List (List Key × D)}, RepK pn H vs ds → RepK pn H (vs.map fun kv => if kv.1 = k then (kv.1, v) else kv) (ds.map fun kv => if kv.1 = k then (kv.1, d) else kv)
  | _, _, .nil => .nil
  | _, _, .cons (k := k') r q => by
    rw [List.map_cons, List.map_cons]
    by_cases e : k' = k
    · rw [if_pos e, if_pos e]
      exact .cons h (q.over h)
    · rw [if_neg e, if_neg e]
      exact .cons r (q.over h)
theorem RepK.snoc {k : List Key} {v : V} {d : D} (h : Rep pn H v d) : ∀ {vs : List (List Key × V)} {ds : List (List Key × D)}, RepK pn H vs ds → RepK pn H (vs ++ [(k, v)]) (ds ++ [(k, d)])
  | _, _, .nil => .cons h .nil
  | _, _, .cons r q => .cons r (q.snoc h)
theorem RepK.put {k : List Key} {v : V} {d : D} {vs : List (List Key × V)} {ds : List (List Key × D)} (h : Rep pn H v d) (q : RepK pn H vs ds) : RepK pn H (putK vs k v) (putD ds k d) := by
  unfold putK putD
  rw [q.any]
  split
  · exact q.over h
  · exact q.snoc h
end
section
variable {X : Cx} {W : WX} {e a : Expr} {pos : Pos} {te ta : E3}
/-- d[k] -/
def gDG : G2
  | .dT kds, .tup ds, k => optK (keyA ds) fun ks => optK (valD kds ks) k
  | _, _, _ => False
theorem dget3 (hu : X.A.units + 1 < cLine) (pa : P3 X W a ta) (pb : P3 X W e te) (hs : NoSl e := by exact fun _ _ => rfl) : P3 X W (.Subscript a e pos) (b3 gDG ta te) := by
  refine ⟨PE.imp (pe_dget hu pa.run pb.run hs) fun σ H Q h => ?_, monB (fun d e k k' f h => ?_) pa.mon pb.mon⟩
  · obtain ⟨G, ρ, H0, R, h⟩ := h
    refine ⟨G, ρ, H0, R, pa.mon ρ _ _ _ _ (fun d ρ1 q => ?_) (fun _ _ z => z) h⟩
    intro x H1 H01 s1 R1 r1
    refine ⟨G, ρ1, H01, R1, pb.mon ρ1 _ _ _ _ (fun e ρ2 q => ?_) (fun _ _ z => KX.up z s1) q⟩
    intro y H2 H02 s2 R2 r2
    cases r1 with
    | dT ha ra =>
      cases r2 with
      | tup hb rb =>
        obtain ⟨ks, hk, q⟩ := optK_some q
        obtain ⟨d, hd, q⟩ := optK_some q
        obtain ⟨v, hv, rv⟩ := ra.val hd
        have rk := keyA_rep rb hk
        subst rk
        refine ⟨_, v, rfl, ?_, q v H2 H02 (s1.trans s2) R2 (rv.mono s2)⟩
        have g := DGet.t (R2.ex _ _ (s2 _ _ ha)) (R2.ex _ _ hb)
        rw [hv] at g
        exact g
      | _ => exact q.elim
    | _ => cases r2 <;> exact q.elim
  · cases d <;> cases e <;> first | exact optK_mono (fun _ => optK_mono f) h | exact h
/-- d[k] = v of an own dict -/
def tDPutO (i : Nat) (ti tv : E3) : S3 := fun E ρ => tv ρ (fun y ρ1 => ownT ρ1 i fun _ => ti ρ1 (fun d ρ2 => ownT ρ2 i fun kds => isT d fun ds => optK (keyA ds) fun ks => kds.length < sizeLine ∧ E.nx (ρ2.put i (.own (.dT (putD kds ks y))))) E.xc) E.xc
theorem sdput (i : Nat) {x : Str} {px p2 : Pos} {v : Expr} {ti tv : E3} (hu : X.A.units + 1 < cLine) (hi : P3 X W e ti) (hv : P3 X W v tv) (hN : X.N[i]? = some x := by rfl) (hvs : Vis X.env.scope x := by first | exact Or.inl rfl | exact Or.inr (Or.inl rfl) | exact Or.inr (Or.inr rfl)) (hd : (x == ("__debug__" : Str)) = false := by decide)
    (hcd : (x == ("__classdict__" : Str)) = false := by decide) (hs : swapsWith v (some (.Subscript (.Name x px) e p2)) pos.line X.env = pure false := by rfl) : P3S X W (.Assign [.Subscript (.Name x px) e p2] v pos) (tDPutO i ti tv) := by
  refine ⟨PS.imp (ps_dput hu (pe_var hN hvs hd hcd) hi.run hv.run hs) fun D σ H ⟨G, ρ, H0, E, R, h, L⟩ => ?_, fun E E' ρ l h => hv.mon _ _ _ _ _ (fun y ρ1 => ownT_mono fun _ => hi.mon _ _ _ _ _ (fun d ρ2 => ownT_mono fun xs => isT_mono fun j => optK_mono fun n => mon_and (l.nx _)) l.xc) l.xc h⟩
  · refine ⟨G, ρ, H0, R, hv.mon _ _ _ _ _ (fun y ρ1 q yv H1 H01 s1 R1 r1 => ?_) (fun x ρ' q => L.kx q) h⟩
    obtain ⟨xs0, e0, q⟩ := ownT_get q
    obtain ⟨l, h1, _⟩ := R1.owned e0
    refine ⟨_, h1, G, ρ1, H01, R1, hi.mon _ _ _ _ _ (fun d ρ2 q iv H2 H02 s2 R2 r2 => ?_) (fun x ρ' q => (L.up s1).kx q) q⟩
    obtain ⟨kds, e1, q⟩ := ownT_get q
    obtain ⟨ds, rfl, q⟩ := isT_get q
    obtain ⟨ks, hk, q⟩ := optK_some q
    cases r2 with
    | tup hb rb =>
      obtain ⟨l', h1', ow, _⟩ := R2.owned e1
      rw [h1] at h1'
      cases h1'
      obtain ⟨vs, hl, ra⟩ := ow
      have rk := keyA_rep rb hk
      subst rk
      refine ⟨l, _, rfl, DPut.t hl (R2.ex _ _ hb) (by rw [ra.length]; exact q.1), ?_⟩
      exact L.nx _ _ _ H02 (s1.trans s2) (R2.chg (d' := .dT (putD kds ks y)) e1 h1 ⟨_, upd_same, ra.put (r1.mono s2)⟩) q.2
end
end L3
/-! L3: what a walk is told of a def -/
namespace L3
open PySem PySem.Spec PyProof.Rows L2
theorem hu64_of {A : Around} {k : Nat} (hr : Room k A) : A.units + 64 < cLine := by have := hr.un; omega
/-- a def that keeps its promise -/
structure Has (P : Program) (w : World) (K : PySem.W.Frag) (mg : Str → Option Value) (base : Heap) (k : Nat) (x : Str) (ps : List Str) (n : Nat) (s3 : Sp3) (st : Stmt) (f : Addr) (fd : FuncData) : Prop where
  ok : FnOk P w K mg base CX0 k f fd ps (spL n s3)
  mg : mg x = some (.ref f)
  fn : Fun K x x st f fd
  bd : Binds K fd ps []
theorem Has.kp {P : Program} {w : World} {K : PySem.W.Frag} {mg : Str → Option Value} {base : Heap} {k : Nat} {x : Str} {ps : List Str} {n : Nat} {s3 : Sp3} {st : Stmt} {f : Addr} {fd : FuncData} (h : Has P w K mg base k x ps n s3 st f fd) : PySem.W.keepIn K (.ref f) = true := h.fn.kp
/-- len(x) of an own list, which stays own -/
def tLenO (i : Nat) : E3 := fun ρ k _ => ownA ρ i fun xs => k (.int xs.length) ρ
theorem leno3 {X : Cx} {W : WX} {pos p px : Pos} {x : Str} (i : Nat) (hg : Gl X "len") (hn : X.mg "len" = none) (hN : X.N[i]? = some x := by rfl) (hv : Vis X.env.scope x := by first | exact Or.inl rfl | exact Or.inr (Or.inl rfl) | exact Or.inr (Or.inr rfl)) (hd : (x == ("__debug__" : Str)) = false := by decide)
    (hcd : (x == ("__classdict__" : Str)) = false := by decide) (he : starEach [.Name x px] X.env = (false, eval (.Name x px) X.env) :: starEach [] X.env := by rfl) (hpl : (backTo pos (starEach [] X.env)).any (·.1) = false := by rfl) :
    P3 X W (.Call (.Name "len" p) [.Name x px] [] pos) (tLenO i) := by
  refine ⟨PE.imp (pe_callB call_len_seq hg hn PySem.boot_len (pa_cons (pe_var hN hv hd hcd) pa_nil he) (by decide) (by decide) he hpl) fun σ H Q ⟨G, ρ, H0, R, q⟩ => ?_, fun ρ k k' x x' hk hx => ownA_mono fun xs => hk _ _⟩
  obtain ⟨xs, e, q⟩ := ownA_get q
  obtain ⟨l, h1, ⟨vs, h2, h3⟩, _⟩ := R.owned e
  exact ⟨_, h1, l, vs, rfl, .inl (SqL.of h2), q _ H H0 (Same.refl _) R (by rw [h3.length]; exact .int _)⟩
/-! ### a comprehension within one -/
theorem relabel_at {env : Env} : ∀ {names : List (Str × NameKind)} {x : Str}, names.lookup x = some .cell ∨ names.lookup x = some .free →
    (names.map fun (n, k) => if (k == NameKind.free && env.scope.kind == .function && env.kindOf n == some .cell) then (n, NameKind.cell) else (n, k)).lookup x = some .cell ∨
    (names.map fun (n, k) => if (k == NameKind.free && env.scope.kind == .function && env.kindOf n == some .cell) then (n, NameKind.cell) else (n, k)).lookup x = some .free
  | [], _, h => by simp at h
  | (n, k) :: r, x, h => by
    have ih := @relabel_at env r x
    rw [List.map_cons]
    cases hx : x == n with
    | true =>
      simp only [List.lookup_cons, hx] at h
      by_cases c : (k == NameKind.free && env.scope.kind == .function && env.kindOf n == some .cell) = true
      · simp only [c, if_true, List.lookup_cons, hx]
        exact .inl trivial
      · simp only [Bool.eq_false_iff.mpr c, Bool.false_eq_true, if_false, List.lookup_cons, hx]
        exact h
    | false =>
      simp only [List.lookup_cons, hx] at h
      by_cases c : (k == NameKind.free && env.scope.kind == .function && env.kindOf n == some .cell) = true
      · simp only [c, if_true, List.lookup_cons, hx]
        exact ih h
      · simp only [Bool.eq_false_iff.mpr c, Bool.false_eq_true, if_false, List.lookup_cons, hx]
        exact ih h
theorem blkOk_in {N : List Str} {sc scope : Scope} {own : List (Str × Nat)} {env : Env} (h : blkC N sc scope own = true) : BlkOk N (relabel sc env) scope own := by
  have b := blkOk_by h
  exact ⟨b.kind, b.uniq, b.ix, fun y hy e => relabel_at (b.free y hy e), b.own⟩
end L3
/-! L3: sorted, of a dict with tuples of ints for keys -/
namespace L3
open PySem PySem.Spec PyProof.Rows L2 PySem.W
def encT (ns : List Int) : PyData := .tuple (ns.map .int)
theorem encT_le : dataLe false encT = fun p q => decide (p ≤ q) := by
  funext p q
  show (!dataLt (.tuple (q.map .int)) (.tuple (p.map .int))) = _
  rw [dataLt_tuple]
  show (!rowLt (q.map .int) (p.map .int)) = _
  rw [dataLt_ints]
  by_cases h : q < p
  · have h' : ¬ p ≤ q := fun r => List.not_lt.mpr r h
    simp [h, h']
  · have h' : p ≤ q := List.not_lt.mp h
    simp [h, h']
theorem alike_ints : ∀ xs ys : List Int, alikeAll (xs.map .int) (ys.map .int) = true
  | [], _ => by simp [alikeAll]
  | _ :: _, [] => by simp [alikeAll]
  | x :: xs, y :: ys => by simp only [List.map_cons, alikeAll, alike, alike_ints xs ys, Bool.and_self]
theorem depth_ints : ∀ xs : List Int, PyData.depthAll (xs.map .int) ≤ 1
  | [] => by simp [PyData.depthAll]
  | x :: xs => by
    have := depth_ints xs
    simp only [List.map_cons, PyData.depthAll, PyData.depth]
    omega
theorem reads_ints {h : Heap} : ∀ {us : List Value} {ns : List Int}, Vals (ns.map V.int) us → ReadsAll h us (ns.map .int) []
  | _, [], .nil => .nil
  | _, n :: ns, .cons r t => by
    obtain ⟨k, rfl⟩ := r
    exact .cons (as := []) (bs := []) (.int n k) (reads_ints t)
section
variable {X : Cx}
/-- what stands at the keys' places -/
theorem keysT_at {H : Hp} : ∀ {us : List Value} {kvs : List (List Key × V)} {xs : List (List Key × Addr × Value)} {nss : List (List Int)}, L2.KT H kvs xs → kvs.map (·.1) = nss.map (List.map Sum.inl) → us.length = xs.length →
    (∀ (j : Nat) (v : Value), us[j]? = some v → ∃ x, xs[j]? = some x ∧ v = .ref x.2.1) → EachIs (fun u ns => ∃ b, u = Value.ref b ∧ H b = some (.tup (ns.map V.int))) us nss
  | [], _, _, [], _, _, _, _ => .nil
  | [], _, _, n :: ns, .nil, hk, _, _ => by simp at hk
  | [], _, _, n :: ns, .cons _ _, hk, hl, _ => by simp at hl
  | u :: us, _, _, _, .nil, hk, hl, _ => by simp at hl
  | u :: us, _, _, [], .cons _ _, hk, _, _ => by simp at hk
  | u :: us, _, _, n :: ns, .cons r t, hk, hl, h => by
    rw [List.map_cons, List.map_cons] at hk
    obtain ⟨e1, e2⟩ := List.cons.inj hk
    obtain ⟨x, h1, h2⟩ := h 0 u rfl
    have h1 := (Option.some.inj h1).symm
    subst h1
    refine .cons ⟨_, h2, ?_⟩ (keysT_at t e2 (by simpa using hl) fun j v e => ?_)
    · have q := r.2.1
      rw [e1, List.map_map] at q
      exact q
    · obtain ⟨x, a, b⟩ := h (j + 1) v (by simpa using e)
      exact ⟨x, by simpa using a, b⟩
theorem EachIs.mono2 {α β : Type} {R S : α → β → Prop} (f : ∀ a b, R a b → S a b) : ∀ {as : List α} {bs : List β}, EachIs R as bs → EachIs S as bs
  | _, _, .nil => .nil
  | _, _, .cons h t => .cons (f _ _ h) (EachIs.mono2 f t)
theorem vals_each {H : Hp} : ∀ {us : List Value} {nss : List (List Int)}, EachIs (fun u ns => ∃ b, u = Value.ref b ∧ H b = some (.tup (ns.map V.int))) us nss →
    ∃ ys, Vals ys us ∧ Paired (fun y ns => ∃ b, y = V.ref b ∧ H b = some (.tup (ns.map V.int))) ys nss
  | _, _, .nil => ⟨[], .nil, .nil⟩
  | _, _, .cons h t => by
    obtain ⟨b, rfl, hb⟩ := h
    obtain ⟨ys, h1, h2⟩ := vals_each t
    exact ⟨.ref b :: ys, .cons rfl h1, .cons ⟨b, rfl, hb⟩ h2⟩
def leI (p q : List Int) : Bool := decide (p ≤ q)
def rSortedT (hu : Prop) : List V → Hp → VK → Prop := fun xs H Q => ∃ (a : Addr) (kvs : List (List Key × V)) (nss : List (List Int)), xs = [.ref a] ∧ Rd H a (.dT kvs) ∧ kvs.map (·.1) = nss.map (List.map Sum.inl) ∧ (∀ ns ∈ nss, ns ≠ []) ∧
    ∀ p ys, H p = none → Paired (fun y ns => ∃ b, y = V.ref b ∧ H b = some (.tup (ns.map V.int))) ys (nss.mergeSort leI) → Q (.ref p) (upd H p (.lst ys))
theorem call_sortedT (hcalm : X.calm = true) (hu : X.A.units + 64 < cLine) : CallR X (.builtin "sorted") (rSortedT True) := by
  intro pins s σ H xs us Q I r q
  obtain ⟨a, kvs, nss, ex, hd, hks, hne, q⟩ := q
  subst ex
  obtain ⟨u, eu, rx⟩ := vals1 r
  subst eu
  cases rx
  obtain ⟨z, lo, xs, rel, o, es, ep, h1, h2, h3, h4, h5, h6⟩ := dt_rd I.hok hd
  have hraw : s.heap.DictRaw a es ep := ⟨o, h1, h2, h3⟩
  have hlx : es.size = xs.length := by
    have e := congrArg List.length h4
    rw [List.length_map, Array.length_toList] at e
    exact e
  have hlk : kvs.length = xs.length := rel.length
  have hln : nss.length = xs.length := by
    have e := congrArg List.length hks
    rw [List.length_map, List.length_map] at e
    omega
  refine Calls.call_function_entry PyProof.Rows.kind_sorted PyProof.Rows.plain_sorted PyProof.Rows.entry_sorted (PyProof.Rows.args_sorted1 _) ?_
  unfold Builtin.«sorted»
  refine wpAny_bind (m := checkCount "sorted" 1 1 _) (wpAny_pure ?_)
  refine wpAny_bind (PySem.W.kdu_collect (A := X.A.in1) (KdlSrc.rawDict lo) (I.ok.hd hcalm) hraw (by rw [hlx, ← hlk]; exact z) fun h' tk acc hk hacc => ?_)
  have hal : acc.toList.length = xs.length := by rw [Array.length_toList, hacc.1, hlx]
  have hE := keysT_at (us := acc.toList) rel hks hal fun j v e => by
    obtain ⟨hi, ev⟩ := hacc.2 j v (by rw [← Array.getElem?_toList]; exact e)
    have e2 : es.toList[j]? = some es[j] := by rw [Array.getElem?_toList]; simp [hi]
    rw [h4, List.getElem?_map] at e2
    obtain ⟨x, e3, e4⟩ := Option.map_eq_some_iff.mp e2
    refine ⟨x, e3, ?_⟩
    rw [ev, ← e4]
    rfl
  have I1 : Inv X pins σ H { s with heap := h', toks := tk } := I.kept hk
  refine wpAny_bind (wpAny_newList ?_ (by rw [hal, ← hlk]; exact z))
  have hoL : (h'.push (seqObj "list" acc.toList.toArray 0)).get? h'.objs.size = some (seqObj "list" acc.toList.toArray 0) := Heap.get?_push_size _ rfl
  show wpAny _ _ _ _ _ { s with heap := h'.push (seqObj "list" acc.toList.toArray 0), toks := tk }
  have hR : EachIs (fun v ns => ∃ as, Reads (h'.push (seqObj "list" acc.toList.toArray 0)) v (encT ns) as ∧ h'.objs.size ∉ as) acc.toList nss := EachIs.mono2 (fun u ns ⟨b, eb, hb⟩ => by
    subst eb
    obtain ⟨zb, its, rv, ob, e1, e2, e3, e4⟩ := I1.hok b _ hb
    exact ⟨[], .tuple (Heap.get?_push_of_some _ e1) e2 e4 (reads_ints rv), by simp⟩) hE
  refine wpAny_bind (wpAny_holding (list_sort_data (s := { s with heap := h'.push (seqObj "list" acc.toList.toArray 0), toks := tk }) (enc := encT) hoL hE hR (AllAlike.of fun x y => alike_ints x y) (.inl fun d hd => ?_) (by rw [hln, ← hlk]; exact z) (fun b _ => ?_) fun out ho eo => ?_))
  · obtain ⟨ns, hns, rfl⟩ := List.mem_map.mp hd
    cases ns with
    | nil => exact (hne _ hns rfl).elim
    | cons n r => exact ⟨_, _, rfl⟩
  · have := depth_ints b
    show X.A.in1.units + 1 + PyData.depth (.tuple (b.map .int)) < cLine
    have e : X.A.in1.units = X.A.units + 1 := rfl
    simp only [PyData.depth]
    omega
  · rw [encT_le] at eo
    obtain ⟨ys, v1, v2⟩ := vals_each eo
    obtain ⟨e', he'⟩ := PyProof.Rows.sortedHeap_at (vs := acc.toList) (out := out.toArray) hoL
    have hlen : ys.length ≤ sizeLine := by rw [v1.length, ho, hln, ← hlk]; exact z
    refine wpAny_pure ⟨_, rfl, .ref h'.objs.size, upd H h'.objs.size (.lst ys), I1.laid (t' := tk) (fun b u e => ?_) (Nat.le_refl _)
      (show ObjOk X.prog X.w _ _ _ (.lst ys) from ⟨hlen, out, e', v1, he'⟩), rfl, q _ ys (I1.hok.fresh (Nat.le_refl _)) v2⟩
    have hb : b < h'.objs.size := Heap.lt_size e
    rw [PyProof.Rows.sortedHeap_old (Nat.ne_of_lt hb) (by rw [size_push']; exact Nat.lt_succ_of_lt hb)]
    exact Heap.get?_push_of_some _ e
end
end L3
/-! L3: dict comprehensions with tuples for keys -/
namespace L3
open PySem PySem.Spec PyProof.Rows L2
/-- one pair more, the key a tuple -/
theorem d_setT {X : Cx} {pins : List (Addr × Obj)} {σ : L2.St} {H : Hp} {s : Shared} {A : Around} {E : Value → Shared → Prop} {dA kb : Addr} {kvs : List (List Key × V)} {ks : List Key} {v : V} {r : Value} {Q : Unit → Shared → Prop} (hu : A.units + 1 < cLine) (I : Inv X pins σ H s) (hd : H dA = some (.dT kvs)) (hk : H kb = some (.tup (ks.map kV)))
    (hl : kvs.length < sizeLine) (rv : RelV v r) (next : ∀ s', Inv X pins σ (upd H dA (.dT (putK kvs ks v))) s' → Q () s') : wpAny (model X.prog X.w) A (dictSet dA (.ref kb) r) Q E s := by
  obtain ⟨z1, z2, row, rel, ddd⟩ := dt_of I.hok hd
  have z3 : row.length ≤ sizeLine := by have := Paired.length rel; omega
  have z4 : (putK kvs ks v).length ≤ sizeLine := Nat.le_trans (length_putK kvs ks v) (by omega)
  have room : (tupleKind (mixKind X.prog X.w)).room A := show A.units < cLine by omega
  refine wpAny_dictSet_heap (hsz := z3) room (key_of I.hok hk) ddd fun h' after kept => next _ ?_
  obtain ⟨ob, es, ep, g1, g2, g3, g4, _, g5⟩ := after
  have rel' := (rel.put ks hk rv).keeps (H' := upd H dA (.dT (putK kvs ks v))) fun c ys ec => by
    rw [upd_ne (ne_of ec hd (fun z => nomatch z))]; exact ec
  exact d_write I (by rw [hd]; exact True.intro) kept ⟨ob, g1⟩ ⟨z4, z2, _, rel', ob, es, ep, g1, g2, g3, g4, g5⟩
section
variable {X : Cx}
def tDcT (wi : TI) (g : TG) (tt : TT) (tk tv : TE) (vs : List Nat) : TE := fun σ H Q => wi σ H fun J H1 => ∀ dA, H1 dA = none → ∃ Z : Nat → Nat → Hp → Prop, (∃ m, Z 0 m (upd H1 dA (.dT []))) ∧ ∀ i m H, Z i m H →
  (J.stop i H ∧ Q (.ref dA) H) ∨ (J.go i H ∧ ∃ Nx : Hp → Prop, (∀ H', Nx H' → ∃ m', m' < m ∧ Z (i + 1) m' H') ∧ ∀ x H', J.yld i H x H' → g x (L2.wipe σ vs) H' fun σ2 H2 => L2.wipe σ2 vs = L2.wipe σ vs ∧ tt σ2 H2 fun b H3 =>
    if b = true then tk σ2 H3 fun y H4 => tv σ2 H4 fun z H5 => ∃ kvs ks kb, y = .ref kb ∧ H5 kb = some (.tup (ks.map kV)) ∧ H5 dA = some (.dT kvs) ∧ kvs.length < sizeLine ∧ Nx (upd H5 dA (.dT (putK kvs ks z))) else Nx H3)
theorem pe_dcT {kx vx tg iter : Expr} {ifs : List Expr} {scope : Scope} {own : List (Str × Nat)} {pos : Pos} {wi : TI} {g : TG} {tt : TT} {tk tv : TE} (hu : X.A.units + 1 < cLine) (calm : X.calm = true) (nd : X.N.Nodup) (pi : PI X tg iter wi) (ok : BlkOk X.N X.env.scope scope own)
    (pg : ∀ (s : Shared) (H : Hp) (C : Addr) (cl : List (Str × Addr)) (fp : List Addr), PG (X.blk s H scope (compEnvC scope cl C X.env) fp) tg g) (pt : ∀ (s : Shared) (H : Hp) (C : Addr) (cl : List (Str × Addr)) (fp : List Addr), PTs (X.blk s H scope (compEnvC scope cl C X.env) fp) ifs tt)
    (pk : ∀ (s : Shared) (H : Hp) (C : Addr) (cl : List (Str × Addr)) (fp : List Addr), PE (X.blk s H scope (compEnvC scope cl C X.env) fp) kx tk)
    (pv : ∀ (s : Shared) (H : Hp) (C : Addr) (cl : List (Str × Addr)) (fp : List Addr), PE (X.blk s H scope (compEnvC scope cl C X.env) fp) vx tv) (unset : ∀ x, foldedSetIterable iter X.env x = pure x := by intro _; rfl) :
    PE X (.DictComp kx vx [⟨tg, iter, ifs, 0⟩] scope pos) (tDcT wi g tt tk tv (own.map (·.2))) := by
  refine ⟨fun pins s σ H Q inv read => ?_⟩
  rw [arm_eval_DictComp]
  have frees : ∀ y ∈ scope.names, y.2 = .free → ∃ c, X.env.cells.lookup y.1 = some c := fun y hy e => (ok.free y hy e).elim (fun k => inv.ok.has _ (.inl k)) fun k => inv.ok.has _ (.inr k)
  refine wpAny_comprehension_free (use := none) rfl unset (closure_ok frees) ok.kind (fun y hy e => by rw [ok.uniq y hy, e]) ?_
  refine thn (pi.run pins s σ H _ inv read) fun xv s1 walked => thn walked fun itv s2 got => ?_
  obtain ⟨it, fp, tn, J, H2, eit, inv2, T, tn2, fp2, rest⟩ := got
  subst eit
  refine wpAny_newObj_type (newEnv_comp ?_)
  -- the dict is laid
  generalize hdA : s2.heap.objs.size = dA
  have nodA : H2 dA = none := inv2.hok.fresh (Nat.le_of_eq hdA)
  obtain ⟨Z, ⟨m0, z0⟩, each⟩ := rest dA nodA
  generalize hs3 : ({ s2 with heap := s2.heap.push { cls := .type "dict", data := .dict #[] } } : Shared) = s3
  have heap3 : s3.heap = s2.heap.push { cls := .type "dict", data := .dict #[] } := by rw [← hs3]
  have inv3 : Inv X pins σ (upd H2 dA (.dT [])) s3 := by
    have laid := dt_empty (P := X.prog) (w := X.w) (H := upd H2 dA (.dT [])) s2.heap inv2.big
    rw [hdA] at laid
    rw [← hs3]
    exact inv2.laid (t' := s2.toks) (fun b o e => Heap.get?_push_of_some _ e) (Nat.le_of_eq hdA) laid
  have below : ∀ b ∈ fp, b < s2.heap.objs.size := fun b hb => by
    obtain ⟨o, e, _⟩ := T.obj _ _ tn2 b hb
    exact Heap.lt_size e
  have fp3 : ∀ b ∈ fp, FpOk X pins (upd H2 dA (.dT [])) b ∧ b < s3.heap.objs.size := fun b hb => by
    have lt := below b hb
    have ne : b ≠ dA := by rw [← hdA]; exact Nat.ne_of_lt lt
    exact ⟨⟨(upd_ne ne).trans (fp2 b hb).1, (fp2 b hb).2⟩, by rw [heap3, Heap.size_push]; exact Nat.lt_succ_of_lt lt⟩
  have tn3 : tn 0 s3.heap := T.keep _ _ _ tn2 fun b _ o e => by rw [heap3]; exact Heap.get?_push_of_some _ e
  have inv4 := block_start inv3 ok nd fp3
  have pgB := pg s3 (upd H2 dA (.dT [])) s3.heap.objs.size (cellsFrom (s3.heap.objs.size + 1) scope.names (cloFrom X.env.cells scope.names [])) fp
  have ptB := pt s3 (upd H2 dA (.dT [])) s3.heap.objs.size (cellsFrom (s3.heap.objs.size + 1) scope.names (cloFrom X.env.cells scope.names [])) fp
  have pkB := pk s3 (upd H2 dA (.dT [])) s3.heap.objs.size (cellsFrom (s3.heap.objs.size + 1) scope.names (cloFrom X.env.cells scope.names [])) fp
  have pvB := pv s3 (upd H2 dA (.dT [])) s3.heap.objs.size (cellsFrom (s3.heap.objs.size + 1) scope.names (cloFrom X.env.cells scope.names [])) fp
  show codeAny _ _ (.compStart (.DictComp kx vx [⟨tg, iter, ifs, 0⟩] scope pos) 0 (.ref it) (.ref dA) (compEnvC scope (cellsFrom (s3.heap.objs.size + 1) scope.names (cloFrom X.env.cells scope.names [])) s3.heap.objs.size X.env)) (compPost (model X.prog X.w) X.A X.xe none _ (.ref dA) s3.heap.objs.size) { s3 with heap := pushCells (s3.heap.push { cls := .type "dict", data := .dict #[] }) scope.names }
  have fpNo : ∀ b ∈ fp, (upd H2 dA (.dT [])) b = none := fun b hb => (fp3 b hb).1.1
  generalize hen : compEnvC scope (cellsFrom (s3.heap.objs.size + 1) scope.names (cloFrom X.env.cells scope.names [])) s3.heap.objs.size X.env = en at inv4 pgB ptB pkB pvB ⊢
  have enL : en.locals = s3.heap.objs.size := by subst hen; rfl
  generalize hH3 : upd H2 dA (.dT []) = H3 at inv3 inv4 pgB ptB pkB pvB z0 fpNo fp3
  generalize hs4 : ({ s3 with heap := pushCells (s3.heap.push { cls := .type "dict", data := .dict #[] }) scope.names } : Shared) = s4 at inv4 ⊢
  have tn4 : tn 0 s4.heap := T.keep _ _ _ tn3 fun b _ o e => by rw [← hs4]; exact pushCells_keeps _ _ _ _ (Heap.get?_push_of_some _ e)
  have fpB : ∀ {σ' : L2.St} {H' : Hp} {s' : Shared}, Inv (X.blk s3 H3 scope en fp) [] σ' H' s' → (∀ b ∈ fp, H' b = none) → ∀ b ∈ fp, FpOk (X.blk s3 H3 scope en fp) [] H' b := fun {σ' H' s'} i no b hb => by
    have z := i.ok.exf b hb
    exact ⟨no b hb, z.1, i.ok.exfs b hb, .inl hb, fun x c e => z.2 x c e, fun p hp => absurd (show p ∈ ([] : List (Addr × Obj)) ++ [] from hp) (by simp)⟩
  have turns : codeAny (model X.prog X.w) X.A (.compLoop (.DictComp kx vx [⟨tg, iter, ifs, 0⟩] scope pos) 0 (.ref it) (.ref dA) en) (compPost (model X.prog X.w) X.A X.xe none (EP X pins σ Q) (.ref dA) s3.heap.objs.size) s4 := by
    refine compLoop_anyD (fun n s' => ∃ i H', Inv (X.blk s3 H3 scope en fp) [] (L2.wipe σ (own.map (·.2))) H' s' ∧ tn i s'.heap ∧ (∀ b ∈ fp, H' b = none) ∧ Z i n H') ?_ m0 ⟨0, H3, inv4, tn4, fpNo, z0⟩
    rintro n s5 ⟨i, H5, inv5, tn5, no5, z5⟩
    rcases each i n H5 z5 with ⟨stop, final⟩ | ⟨go, Nx, further, step⟩
    · refine thnF (T.done (X.blk s3 H3 scope en fp) rfl rfl rfl calm i [] s5 _ H5 (fun _ _ => False) inv5 (fpB inv5 no5) tn5 stop) fun r s6 ⟨er, inv6⟩ => ?_
      subst er
      have inv7 : Inv X pins σ H5 s6 := by
        refine inv3.call' (ch := fp) inv6.os inv6.base inv6.hok inv6.bare fun b hb => ?_
        obtain ⟨_, y1, y2, y3, y4, y5⟩ := (fp3 b hb).1
        exact ⟨y3, y1, y4, y5⟩
      have noC : H5 s3.heap.objs.size = none := by
        rw [← enL]
        exact inv6.free
      obtain ⟨m, ns, _⟩ := inv6.loc
      have ns : s6.heap.Ns s3.heap.objs.size m := by rw [← enL]; exact ns
      obtain ⟨f0, f1, f2, f3, f4, f5⟩ := inv3.fpOk (Nat.le_refl _) noC
      exact ⟨m, ns, fun h'' sb => ⟨.ref dA, H5, inv7.turned (t' := s6.toks) (fun b o hb e => (sb.2 b hb).trans e) f0 f1 f3 f4 f5, rfl, final⟩⟩
    · refine thnF (T.item (X.blk s3 H3 scope en fp) rfl rfl rfl calm i [] s5 _ H5 (fun _ _ => False) inv5 (fpB inv5 no5) tn5 go) fun r s6 ⟨u, er, h6⟩ => ?_
      subst er
      refine thnF h6 fun _ s7 ⟨x, H7, inv7, rx, yx, tn7, no7⟩ => ?_
      have inv7' := inv7.pinned (fpB inv7 no7) (T.obj _ _ tn7)
      refine thnF (pgB.run _ s7 _ H7 x u _ inv7' rx (step x H7 yx)) fun _ s8 ⟨σ8, H8, inv8, same8, q8⟩ => ?_
      refine thnF (ptB.run _ s8 σ8 H8 _ inv8 q8) fun b s9 ⟨H9, inv9, q9⟩ => ?_
      have again : ∀ {s' : Shared} {H' : Hp}, Inv (X.blk s3 H3 scope en fp) ([] ++ pinsAt fp s7.heap) σ8 H' s' → Nx H' → ∃ m, m < n ∧ ∃ i H', Inv (X.blk s3 H3 scope en fp) [] (L2.wipe σ (own.map (·.2))) H' s' ∧ tn i s'.heap ∧ (∀ b ∈ fp, H' b = none) ∧ Z i m H' := fun {s' H'} inv' nx => by
        obtain ⟨m', less, z'⟩ := further H' nx
        have pinned : ∀ b ∈ fp, ∀ o, s7.heap.get? b = some o → s'.heap.get? b = some o ∧ H' b = none := fun b hb o e => by
          have z := inv'.pin (b, o) (List.mem_append_right _ (List.mem_append_right _ (mem_pinsAt hb e)))
          exact ⟨z.1, z.2.1⟩
        refine ⟨m', less, i + 1, H', (inv'.unpinned (pins := [])).weak ?_ ?_, T.keep _ _ _ tn7 fun b hb o e => (pinned b hb o e).1, ?_, z'⟩
        · rw [← same8, L2.wipe_length]
        · intro j v e
          rw [← same8] at e
          exact (wipe_some e).1
        · intro b hb
          obtain ⟨o, e, _⟩ := T.obj _ _ tn7 b hb
          exact (pinned b hb o e).2
      cases b with
      | false =>
        rw [if_neg Bool.false_ne_true] at q9 ⊢
        exact again inv9 q9
      | true =>
        rw [if_pos rfl] at q9 ⊢
        refine thnF (pkB.run _ s9 σ8 H9 _ inv9 q9) fun kv s10 ⟨yk, H10, inv10, rk, q10⟩ => ?_
        refine thnF (pvB.run _ s10 σ8 H10 _ inv10 q10) fun vv s11 ⟨yv, H11, inv11, rv, kvs, ks, kb, ek, hkb, hdk, small, nx⟩ => ?_
        subst ek
        cases (show kv = Value.ref kb from rk)
        exact d_setT (X := X.blk s3 H3 scope en fp) hu inv11 hdk hkb small rv fun s12 inv12 => again inv12 nx
  exact codeAny_compStart_dict turns (T.self X.A 0 _ _ _ tn4 turns)
end
end L3
/-! L3: dict comprehensions and sorted over data -/
namespace L3
open PySem PySem.Spec PyProof.Rows L2
theorem RepK.mono' {pn : Option Addr} {H H' : Hp} (e : Same H H') {v : List (List Key × V)} {d : List (List Key × D)} (r : RepK pn H v d) : RepK pn H' v d := RepK.mono e r
def dcGo (g : G3) (tt : T3) (tk tv : E3) (vs : List Nat) : List D → List (List Key × D) → Env3 → (List (List Key × D) → Env3 → Prop) → Prop
  | [], acc, ρ, k => k acc ρ
  | d :: r, acc, ρ, k => g d ρ fun ρ1 => tt ρ1 (fun b ρ2 => match b with
    | true => tk ρ2 (fun y ρ3 => tv ρ3 (fun z ρ4 => isT y fun ds => optK (keyA ds) fun ks => acc.length < sizeLine ∧ dcGo g tt tk tv vs r (putD acc ks z) (ρ4.wipe vs) k) (fun _ _ => False)) (fun _ _ => False)
    | false => dcGo g tt tk tv vs r acc (ρ2.wipe vs) k) (fun _ _ => False)
def tDc3 (w : I3) (g : G3) (tt : T3) (tk tv : E3) (vs : List Nat) : E3 := fun ρ k x => w ρ (fun ds ρ1 => dcGo g tt tk tv vs ds [] (ρ1.wipe vs) fun acc ρ2 => k (.dT acc) (Env3.back ρ1 ρ2 vs)) x
theorem dcGo_mon {g : G3} {tt : T3} {tk tv : E3} {vs : List Nat} (mg : ∀ d ρ k k', (∀ ρ', k ρ' → k' ρ') → g d ρ k → g d ρ k') (mt : MonE tt) (mk : MonE tk) (me : MonE tv) {k k' : List (List Key × D) → Env3 → Prop} (f : ∀ a ρ, k a ρ → k' a ρ) :
    ∀ (ds : List D) (acc : List (List Key × D)) (ρ : Env3), dcGo g tt tk tv vs ds acc ρ k → dcGo g tt tk tv vs ds acc ρ k'
  | [], acc, ρ, h => f _ _ h
  | d :: r, acc, ρ, h => mg _ _ _ _ (fun ρ1 q => mt _ _ _ _ _ (fun b ρ2 q => by
      cases b with
      | true => exact mk _ _ _ _ _ (fun y ρ3 q => me _ _ _ _ _ (fun z ρ4 q => isT_mono (fun ds => optK_mono fun ks => mon_and (dcGo_mon mg mt mk me f r _ _)) q) (fun _ _ z => z) q) (fun _ _ z => z) q
      | false => exact dcGo_mon mg mt mk me f r _ _ q) (fun _ _ z => z) q) h
section
variable {X : Cx} {W : WX} {pos : Pos}
theorem dc_read {w : I3} {g : G3} {tt : T3} {tk tv : E3} {vs ws : List Nat} (mw : MonE w) (mg : ∀ d ρ k k', (∀ ρ', k ρ' → k' ρ') → g d ρ k → g d ρ k') (mt : MonE tt) (mk : MonE tk) (me : MonE tv) (hws : ∀ i ∈ ws, i ∈ vs) (nd : vs.Nodup) {σ : L2.St} {H : Hp} {Q : VK}
    (h : lE W (tDc3 w g tt tk tv vs) σ H Q) : tDcT (lI W w) (lG ws g) (lT W0 tt) (lE W0 tk) (lE W0 tv) vs σ H Q := by
  obtain ⟨G, ρ, H0, R, h⟩ := h
  refine ⟨G, ρ, H0, R, mw _ _ _ _ _ (fun ds ρ1 q J H1 H01 s1 R1 Wk Dl hD => ?_) (fun _ _ z => z) h⟩
  have nf := R1.noHf hD
  have h0D : H01 Dl = none := by
    cases e : H01 Dl with
    | none => rfl
    | some u => have := R1.ex _ _ e; rw [hD] at this; cases this
  have hgD : G.H0 Dl = none := by
    cases e : G.H0 Dl with
    | none => rfl
    | some u => have := R1.ex0 _ _ e; rw [h0D] at this; cases this
  refine ⟨fun i m H' => m = ds.length - i ∧ i ≤ ds.length ∧ ∃ ρ' H0' xs acc, Same H01 H0' ∧ Rel (G.res Dl (.dT xs)) H0' ρ' (L2.wipe σ vs) H' ∧ RepK G.pn H0' xs acc ∧
    dcGo g tt tk tv vs (ds.drop i) acc ρ' (fun acc ρ2 => KQ G H0 σ Q (.dT acc) (Env3.back ρ1 ρ2 vs)), ⟨_, rfl, Nat.zero_le _, ρ1.wipe vs, H01, [], [], Same.refl _, ?_, .nil, q⟩, ?_⟩
  · exact ((R1.wipe vs).grow' hD).res upd_same h0D ((R1.wipe vs).fresh hD)
  rintro i m H2 ⟨rfl, hi', ρ2, H02, xs, acc, s2, R2, ra, q2⟩
  by_cases hlt : i < ds.length
  · rw [List.drop_eq_getElem_cons hlt] at q2
    obtain ⟨wg, wy⟩ := (Wk i (G.res Dl (.dT xs)) H02 ρ2 (L2.wipe σ vs) H2 rfl s2 R2).1 ds[i] (List.getElem?_eq_getElem hlt)
    refine .inr ⟨wg, fun H' => i + 1 ≤ ds.length ∧ ∃ ρ' H0' xs acc, Same H01 H0' ∧ Rel (G.res Dl (.dT xs)) H0' ρ' (L2.wipe σ vs) H' ∧ RepK G.pn H0' xs acc ∧ dcGo g tt tk tv vs (ds.drop (i + 1)) acc ρ' (fun acc ρ2 => KQ G H0 σ Q (.dT acc) (Env3.back ρ1 ρ2 vs)),
      fun H' z => ⟨_, by omega, rfl, z⟩, fun x H3 y => ?_⟩
    obtain ⟨H03, s3, R3, r3⟩ := wy x H3 y
    refine ⟨G.res Dl (.dT xs), ρ2, H03, ds[i], R3, r3, mg _ _ _ _ (fun ρ4 q4 σ4 H4 H04 s4 R4 o4 => ?_) q2⟩
    have e4 : L2.wipe σ4 vs = L2.wipe σ vs := (o4.wipe hws).trans wipe_wipe
    refine ⟨e4, G.res Dl (.dT xs), ρ4, H04, R4, mt _ _ _ _ _ (fun b ρ5 q5 H5 H05 s5 R5 => ?_) (fun _ _ z => z.elim) q4⟩
    have s5' := ((s2.trans s3).trans s4).trans s5
    cases b with
    | true =>
      refine iteT ⟨G.res Dl (.dT xs), ρ5, H05, R5, mk _ _ _ _ _ (fun yd ρ6 q6 yv H6 H06 s6 R6 r6 => ?_) (fun _ _ z => z.elim) q5⟩
      refine ⟨G.res Dl (.dT xs), ρ6, H06, R6, me _ _ _ _ _ (fun zd ρ7 q7 zv H7 H07 s7 R7 r7 => ?_) (fun _ _ z => z.elim) q6⟩
      obtain ⟨js, rfl, q7⟩ := isT_get q7
      obtain ⟨ks, hks, q7⟩ := optK_some q7
      have hl := R7.res_no (fun _ z => nomatch z) hgD nf.2
      have sa := (((s3.trans s4).trans s5).trans s6).trans s7
      have ra7 := ra.mono sa
      cases r6 with
      | @tup kb vks _ hb rb =>
        have ek := keyA_rep rb hks
        subst ek
        refine ⟨xs, ks, kb, rfl, R7.ex _ _ (s7 _ _ hb), hl.1, by rw [ra7.length]; exact q7.1, by omega, ρ7.wipe vs, H07, _, _, (s5'.trans s6).trans s7, ?_, ra7.put r7, q7.2⟩
        have R8 := (R7.wipe vs).res_put (o' := .dT (putK xs ks zv)) (fun _ z => nomatch z) hgD nf.2
        rw [e4] at R8
        exact R8
    | false =>
      refine iteF ⟨by omega, ρ5.wipe vs, H05, xs, acc, s5', ?_, ra.mono ((s3.trans s4).trans s5), q5⟩
      have R7 := R5.wipe vs
      rw [e4] at R7
      exact R7
  · have e : i = ds.length := by omega
    subst e
    rw [List.drop_length] at q2
    refine .inl ⟨(Wk ds.length (G.res Dl (.dT xs)) H02 ρ2 (L2.wipe σ vs) H2 rfl s2 R2).2 (Nat.le_refl _), ?_⟩
    obtain ⟨hl, h0, hx⟩ := R2.res_no (fun _ z => nomatch z) hgD nf.2
    have R3 := R2.unres nf.1
    obtain ⟨st, R4⟩ := R3.tell hl h0 nf.1 nf.2 hx
    have R5 := R1.back (s2.trans st) vs ρ2 nd R4
    exact q2 (.ref Dl) H2 _ ((s1.trans s2).trans st) R5 (.dT upd_same (ra.mono st))
theorem dc3 {kx vx tg it : Expr} {ifs : List Expr} {scope : Scope} {own : List (Str × Nat)} {w : I3} {g : G3} {tt : T3} {tk tv : E3} {ws : List Nat} (hu : X.A.units + 1 < cLine) (hc : X.calm = true) (hN : X.N.Nodup) (hi : P3I X W tg it w) (ok : BlkOk X.N X.env.scope scope own)
    (hg : ∀ (s : Shared) (H : Hp) (C : Addr) (cl : List (Str × Addr)) (fp : List Addr), P3G (X.blk s H scope (compEnvC scope cl C X.env) fp) ws tg g) (ht : ∀ (s : Shared) (H : Hp) (C : Addr) (cl : List (Str × Addr)) (fp : List Addr), P3Ts (X.blk s H scope (compEnvC scope cl C X.env) fp) ifs tt)
    (hk : ∀ (s : Shared) (H : Hp) (C : Addr) (cl : List (Str × Addr)) (fp : List Addr), P3 (X.blk s H scope (compEnvC scope cl C X.env) fp) W0 kx tk)
    (hv : ∀ (s : Shared) (H : Hp) (C : Addr) (cl : List (Str × Addr)) (fp : List Addr), P3 (X.blk s H scope (compEnvC scope cl C X.env) fp) W0 vx tv) (hws : ∀ i ∈ ws, i ∈ own.map (·.2) := by decide) (nd : (own.map (·.2)).Nodup := by decide)
    (hs : ∀ x, foldedSetIterable it X.env x = pure x := by intro _; rfl) : P3 X W (.DictComp kx vx [⟨tg, it, ifs, 0⟩] scope pos) (tDc3 w g tt tk tv (own.map (·.2))) := by
  have s0 : Shared := {}
  have mg := (hg s0 (fun _ => none) 0 [] []).mon
  have mt := (ht s0 (fun _ => none) 0 [] []).mon
  have mk := (hk s0 (fun _ => none) 0 [] []).mon
  have mv := (hv s0 (fun _ => none) 0 [] []).mon
  refine ⟨PE.imp (pe_dcT hu hc hN hi.run ok (fun s H C cl fp => (hg s H C cl fp).run) (fun s H C cl fp => (ht s H C cl fp).run) (fun s H C cl fp => (hk s H C cl fp).run) (fun s H C cl fp => (hv s H C cl fp).run) hs) fun σ H Q h => dc_read hi.mon mg mt mk mv hws nd h, ?_⟩
  exact fun ρ k k' x x' f fx h => hi.mon _ _ _ _ _ (fun ds ρ1 q => dcGo_mon mg mt mk mv (fun acc ρ2 => f _ _) ds [] _ q) fx h

/-! ### sorted(d) -/
def keyInts : List Key → Option (List Int)
  | [] => some []
  | .inl i :: r => (keyInts r).map (i :: ·)
  | .inr _ :: _ => none
def keysInts : List (List Key × D) → Option (List (List Int))
  | [] => some []
  | (k, _) :: r => (keyInts k).bind fun ns => (keysInts r).map (ns :: ·)
theorem keyInts_eq : ∀ {k : List Key} {ns : List Int}, keyInts k = some ns → k = ns.map Sum.inl
  | [], ns, h => by cases h; rfl
  | .inl i :: r, ns, h => by
    simp only [keyInts, Option.map_eq_some_iff] at h
    obtain ⟨ms, h1, rfl⟩ := h
    rw [keyInts_eq h1]; rfl
  | .inr _ :: _, ns, h => by cases h
theorem keysInts_eq {pn : Option Addr} {H : Hp} : ∀ {kvs : List (List Key × V)} {kds : List (List Key × D)} {nss : List (List Int)}, RepK pn H kvs kds → keysInts kds = some nss → kvs.map (·.1) = nss.map (List.map Sum.inl)
  | _, _, nss, .nil, h => by cases h; rfl
  | _, _, nss, .cons (k := k) r q, h => by
    simp only [keysInts, Option.bind_eq_some_iff, Option.map_eq_some_iff] at h
    obtain ⟨ns, h1, ms, h2, rfl⟩ := h
    rw [List.map_cons, List.map_cons, ← keysInts_eq q h2, ← keyInts_eq h1]
def tupI (ns : List Int) : D := .tup (ns.map D.int)
def gSortedT : GC
  | [.dT kds], k => optK (keysInts kds) fun nss => (∀ ns ∈ nss, ns ≠ []) ∧ k (.lst ((nss.mergeSort leI).map tupI))
  | _, _ => False
theorem told_all {pn : Option Addr} {H0 H : Hp} : ∀ {ys : List V} {nss : List (List Int)}, Paired (fun y ns => ∃ b, y = V.ref b ∧ H b = some (.tup (ns.map V.int))) ys nss → Same H0 H → ∃ H0', Grow H0 H H0' H ∧ RepA pn H0' ys (nss.map tupI)
  | _, _, .nil, _ => ⟨H0, .refl, .nil⟩
  | _, _, .cons (b := ns) h t, s => by
    obtain ⟨H0', g, r⟩ := told_all t s
    obtain ⟨b, rfl, hb⟩ := h
    have g2 : Grow H0 H (upd H0' b (.tup (ns.map V.int))) H := .told g hb
    have s' : Same H0' (upd H0' b (.tup (ns.map V.int))) := by
      have g3 : Grow H0' H (upd H0' b (.tup (ns.map V.int))) H := .told .refl hb
      exact (g3.same (g.same s).2).1
    exact ⟨_, g2, .cons (.tup upd_same (RepA.ints ns)) (r.mono s')⟩
theorem c3_sortedT : C3 (rSortedT True) gSortedT := by
  refine c3_one (fun ds k h => ?_) (fun pn H0 H v d k Q s r h q => ?_)
  · rcases ds with _ | ⟨d, _ | ⟨e, l⟩⟩
    · exact h.elim
    · exact ⟨d, rfl⟩
    · cases d <;> exact h.elim
  · cases r with
    | dT ha ra =>
      obtain ⟨nss, hn, h⟩ := optK_some h
      refine ⟨_, _, nss, rfl, .inl (s _ _ ha), keysInts_eq ra hn, h.1, fun p ys hp hy => ?_⟩
      obtain ⟨H0', g, ry⟩ := told_all (pn := pn) hy s
      have g2 : Grow H0 H (upd H0' p (.lst ys)) (upd H p (.lst ys)) := .new g hp
      have s2 : Same H0' (upd H0' p (.lst ys)) := by
        have g3 : Grow H0' H (upd H0' p (.lst ys)) (upd H p (.lst ys)) := .new .refl hp
        exact (g3.same (g.same s).2).1
      exact q _ _ _ _ g2 (.lst upd_same (ry.mono s2)) h.2
    | _ => exact h.elim
theorem mc_sortedT : MonC3 gSortedT := mc_of (fun d k k' f q => by cases d <;> first | exact optK_mono (fun _ => mon_and (f _)) q | exact q) (fun _ q => q) (fun d e l k q => by cases d <;> exact q)
theorem sortedT3 {a : Expr} {ta : E3} {p : Pos} (hu : X.A.units + 64 < cLine) (hc : X.calm = true) (hg : Gl X "sorted") (hn : X.mg "sorted" = none) (h : P3 X W a ta) (he : starEach [a] X.env = (false, eval a X.env) :: starEach [] X.env := by rfl) : P3 X W (.Call (.Name "sorted" p) [a] [] pos) (tCB3 gSortedT (tCons3 ta tNil3)) :=
  cb3 (call_sortedT hc hu) c3_sortedT mc_sortedT hg hn (by decide +kernel) (acons h anil he) (he := he)
end
end L3
/-! L3: the pen: what makes it, what draws with it; a law's first statement -/
namespace L3
open PySem PySem.Spec PyProof.Rows L2
/-! ### the pen is made -/
def spPen (K : PySem.W.Frag) : Sp := fun vs H Q _ => ∃ (a : Addr) (ns : List Int), vs = [.ref a] ∧ SqL K H a (ns.map V.int) ∧ ns.length ≤ 63 ∧
  ∀ p c H', Same H H' → H p = none → H c = none → p ≠ c → H' p = some (.lst [.ref c, .int 0, .int 0]) → H' c = some (.lst (ns.map V.int)) → Q (.ref p) H'
theorem cut63 {xs : List V} (h : xs.length ≤ 63) : cutV xs none (some 63) = xs := by
  unfold cutV
  rw [show HT.sIx xs.length xs.length (some 63) = min 63 xs.length from HT.sIx_nat xs.length xs.length 63, HT.sIx_none]
  rw [show min 63 xs.length = xs.length by omega]
  simp
abbrev nPen : List Str := ["script", "cell"]
section
variable {P : Program} {w : World} {K : PySem.W.Frag} {mg : Str → Option Value} {base : Heap}
theorem pen_read {X : Cx} {σ : L2.St} {H : Hp} {Q : VK} {a : Addr} {ns : List Int} (hN : σ = [some (.ref a), none]) (hS : SqL X.K H a (ns.map V.int)) (h63 : ns.length ≤ 63) (q : ∀ p c H', Same H H' → H p = none → H c = none → p ≠ c → H' p = some (.lst [.ref c, .int 0, .int 0]) → H' c = some (.lst (ns.map V.int)) → Q (.ref p) H') :
    tLst (tCons (tLc (iList X.K (tSl (rSlL X.K) (tVar 0) tNoPart (tPart (tC (.int 63))))) (gName 1) tYes (tCB (fun xs H Q => (∃ i, xs = [.int i] ∧ Q (.int i) H) ∨ ∃ k, xs = [.bl k] ∧ Q (.int (if k then 1 else 0)) H) (tCons (tVar 1) tNil)) [1]) (tCons (tC (.int 0)) (tCons (tC (.int 0)) tNil))) σ H Q := by
  subst hN
  refine ⟨.ref a, rfl, 63, rfl, a, _, rfl, hS, fun p hp => ?_⟩
  rw [cut63 (by rw [List.length_map]; exact h63)]
  have s1 : Same H (upd H p (.lst (ns.map V.int))) := fun b o e => by rw [upd_ne (ne_of_none e hp)]; exact e
  refine ⟨p, rfl, ⟨_, .inl (.inl upd_same)⟩, fun D hD => ?_⟩
  have hDp : D ≠ p := fun z => by rw [z, upd_same] at hD; cases hD
  have hD0 : H D = none := by rw [upd_ne hDp] at hD; exact hD
  refine lc_list (K := X.K) (a := p) (xs := ns.map V.int) (fun i H2 => Same H H2 ∧ H2 p = some (.lst (ns.map V.int)) ∧ H2 D = some (.lst ((ns.take i).map V.int))) ⟨fun b o e => ?_, ?_, ?_⟩ (fun i H2 _ z => .inl (.inl z.2.1)) (fun i x H2 hi z => ?_) fun H2 z => ?_
  · rw [upd_ne (ne_of_none (s1 _ _ e) hD)]; exact s1 _ _ e
  · rw [upd_ne hDp.symm]; exact upd_same
  · exact upd_same
  · obtain ⟨z1, z2, z3⟩ := z
    rw [List.getElem?_map] at hi
    obtain ⟨n, hn, rfl⟩ := Option.map_eq_some_iff.mp hi
    have hlt : i < ns.length := (List.getElem?_eq_some_iff.mp hn).1
    refine ⟨rfl, ?_⟩
    dsimp only [tYes]
    rw [if_pos rfl]
    refine ⟨_, rfl, .inl ⟨n, rfl, _, z3, ?_, fun b o e => ?_, ?_, ?_⟩⟩
    · rw [List.length_map, List.length_take]
      exact small1000 (by omega)
    · rw [upd_ne (ne_of_none e hD0)]; exact z1 _ _ e
    · rw [upd_ne hDp.symm]; exact z2
    · rw [upd_same]
      have e2 : ns.take (i + 1) = ns.take i ++ [n] := by
        rw [List.take_add_one, hn]; rfl
      rw [e2, List.map_append]
      rfl
  · obtain ⟨z1, z2, z3⟩ := z
    rw [List.length_map, List.take_length] at z3
    refine ⟨by show 3 ≤ sizeLine; decide, fun l hl => ?_⟩
    have hlD : l ≠ D := fun e => by rw [e, z3] at hl; cases hl
    refine q l D _ (fun b o e => ?_) (z1.free hl) hD0 hlD upd_same ?_
    · rw [upd_ne (ne_of_none (z1 _ _ e) hl)]; exact z1 _ _ e
    · rw [upd_ne hlD.symm]; exact z3
/-! ### a law: pen = .., then all the rest -/
def spLaw (K : PySem.W.Frag) : Sp := fun vs H Q _ => ∃ (a : Addr) (ns : List Int), vs = [.ref a] ∧ SqL K H a (ns.map V.int) ∧ ns.length ≤ 63 ∧ ∀ H', Q (.bl true) H'
def lawStart (m : Nat) : List Slot := .un :: .val .pen :: List.replicate m .un
/-- what a law's rest must do, from the pen on -/
def LawRest (m : Nat) (t : S3) : Prop := t { nx := fun _ => False, rt := fun d _ => d = .bl true } ⟨lawStart m, 0⟩
theorem law_rest {X : Cx} {σ : L2.St} {H : Hp} {Z : Ends} {x : Option V} {p c : Addr} {ns : List Int} {m : Nat} {t : S3} (hp : H p = some (.lst [.ref c, .int 0, .int 0])) (hc : H c = some (.lst (ns.map V.int))) (hpc : p ≠ c) (h63 : ns.length ≤ 63) (hσ : σ = x :: some (.ref p) :: List.replicate m none)
    (hz : ∀ H', Z.rt (.bl true) H') (h : LawRest m t) : lS W0 t Z σ H := by
  subst hσ
  have s0 : Same (fun b => if b = c then H b else none) H := fun b o e => by
    have e : (if b = c then H b else none) = some o := e
    split at e
    · exact e
    · cases e
  have only1 : ∀ i l, ¬ OwnS ⟨lawStart m, 0⟩ (x :: some (.ref p) :: List.replicate m none) i l := fun i l ⟨⟨d, q⟩, _⟩ => by
    have q : (Slot.un :: .val .pen :: List.replicate m .un)[i]? = some (.own d) := q
    rcases i with _ | _ | i
    · cases q
    · cases q
    · rw [List.getElem?_cons_succ, List.getElem?_cons_succ, List.getElem?_replicate] at q
      split at q <;> cases q
  refine ⟨⟨fun _ => none, fun b => if b = c then H b else none, some p, none⟩, ⟨lawStart m, 0⟩, fun b => if b = c then H b else none, _, ?_, h, ?_⟩
  · refine ⟨s0, Same.refl _, (fun a o e => nomatch e), fun a o e => .inl ⟨o, e⟩, ?_, fun i => ?_, fun i j l a _ => (only1 i l a).elim, fun q hq => ?_, (fun l z => nomatch z)⟩
    · simp [lawStart]
    · show SlotOk _ _ H (Slot.un :: .val .pen :: List.replicate m .un)[i]? (x :: some (.ref p) :: List.replicate m none)[i]?
      rcases i with _ | _ | i
      · exact True.intro
      · exact ⟨.ref p, rfl, .pen rfl⟩
      · rw [List.getElem?_cons_succ, List.getElem?_cons_succ, List.getElem?_replicate]
        split <;> exact True.intro
    · cases hq
      exact ⟨if_neg hpc, c, ns, 0, 0, hp, (if_pos rfl).trans hc, h63, Int.le_refl _, Int.le_refl _, Int.le_refl _⟩
  · refine ⟨fun _ _ _ _ _ _ z => z.elim, fun d ρ' σ' v H' H0' s R r z => ?_, fun _ _ _ _ _ _ z => z.elim, fun _ _ _ _ _ _ z => z.elim, fun _ _ _ _ _ _ _ _ _ _ z => z.elim⟩
    subst z
    cases r
    exact hz H'
/-! ### what draws -/
/-- the frame that has the pen for its own list: its first name -/
structure PenSlot (ρ : Env3) (T : Nat) : Prop where
  at0 : ∃ (cs : List Int) (t r : Int), ρ.sl[0]? = some (.own (.lst [.lst (cs.map D.int), .int t, .int r])) ∧ cs.length ≤ 63 ∧ 0 ≤ t ∧ t ≤ (T : Int) ∧ 0 ≤ r
theorem fnPen3 {x qual : Str} {st : Stmt} {f : Addr} {fd : FuncData} {N ps : List Str} {k m : Nat} {s3 : Sp3} {t : S3} (F : Fun K x qual st f fd) (S : FnScope N ps (defScope st)) (hn : ps.length = 2) (hm : N.length = 2 + m)
    (hbody : ∀ (cdv : Value) (A : Around) (outer : List Env) (s : Shared) (H : Hp) (E : XK), Room k (A.deeper (envOfC qual (defScope st) s.heap.objs.size f cdv)) → P3Ss (cxOf CX0 P w K mg base N qual (defScope st) f cdv A outer s H E).nox W0 (defBody st) t)
    (hs : ∀ ds T kk, s3 ds T kk → ∃ many, ds = [.pen, .int many] ∧ ∀ (cs : List Int) (u r : Int), cs.length ≤ 63 → 0 ≤ u → u ≤ (T : Int) → 0 ≤ r →
      t { nx := fun _ => False, rt := fun d ρ => ∃ T' i, d = .int i ∧ PenSlot ρ T' ∧ kk d T' } ⟨[.own (.lst [.lst (cs.map D.int), .int u, .int r]), .val (.int many)] ++ List.replicate m .un, T⟩) : FnOk P w K mg base CX0 (k + 1) f fd ps (spL 2 s3) := by
  refine F.ok S (fun vs H Q E h => ?_) (fun cdv A outer s H vs Q E hr h => ?_)
  · obtain ⟨pn, H0, ds, T, hl, _⟩ := h
    rw [hl, hn]
  · obtain ⟨pn, H0, ds, T, hl, hS, hr', hp, h⟩ := h
    obtain ⟨many, rfl, hq⟩ := hs ds T _ h
    obtain ⟨v, v2, rfl, r1, r2⟩ := rep2 hr'
    cases r2
    cases r1 with
    | @pen p hpn =>
    obtain ⟨hp0, c, cs, u, r, hpl, hcl, h63, hu0, huT, hr0⟩ := hp p hpn
    refine ⟨_, (hbody cdv A outer s H E hr).run, ⟨fun b => if b = p then none else H b, H0, none, some p⟩, _, H0, _, ?_, hq cs u r h63 hu0 huT hr0, ?_⟩
    · refine ⟨hS, Same.refl _, fun a o e _ => ?_, fun a o e => .inl ⟨o, e⟩, ?_, fun i => ?_, fun i j l a b => ?_, (fun p' z => nomatch z), fun l z _ => ?_⟩
      · have e : (if a = p then none else H a) = some o := e
        split at e
        · cases e
        · exact e
      · unfold L2.start
        simp only [List.length_append, List.length_map, List.length_replicate, List.length_cons, List.length_nil]
        omega
      · show SlotOk _ H0 H ([Slot.own (.lst [.lst (cs.map D.int), .int u, .int r]), .val (.int many)] ++ List.replicate m .un)[i]? (L2.start N [.ref p, .int many])[i]?
        rcases i with _ | _ | i
        · refine ⟨p, get_start rfl, ⟨_, hpl, .cons (.lst hcl (RepA.ints cs)) (.cons (.int u) (.cons (.int r) .nil))⟩, hp0, if_pos rfl, fun z => by cases z⟩
        · exact ⟨_, get_start rfl, .int many⟩
        · rw [List.getElem?_append_right (by simp), List.getElem?_replicate]
          split <;> exact True.intro
      · have only0 : ∀ i, OwnS ⟨[Slot.own (.lst [.lst (cs.map D.int), .int u, .int r]), .val (.int many)] ++ List.replicate m .un, T⟩ (L2.start N [.ref p, .int many]) i l → i = 0 := fun i ⟨⟨d, q⟩, _⟩ => by
          have q : ([Slot.own (.lst [.lst (cs.map D.int), .int u, .int r]), .val (.int many)] ++ List.replicate m .un)[i]? = some (.own d) := q
          rcases i with _ | _ | i
          · rfl
          · cases q
          · rw [List.getElem?_append_right (by simp), List.getElem?_replicate] at q
            split at q <;> cases q
        rw [only0 i a, only0 j b]
      · cases z
        exact get_start rfl
    · refine ⟨fun ρ' σ' H' H0' s' R' q => q.elim, fun d ρ' σ' v H' H0' s' R' r q => ?_, fun _ _ _ _ _ _ z => z.elim, fun _ _ _ _ _ _ z => z.elim, fun _ _ _ _ _ _ _ _ _ _ z => z.elim⟩
      obtain ⟨T', i, rfl, ⟨cs', u', r', e0, g1, g2, g3, g4⟩, kk⟩ := q
      cases r
      obtain ⟨l, hl1, ⟨vs', hl2, hl3⟩, hl4, hl5, _⟩ := R'.owned e0
      have hl6 := R'.fix p rfl ⟨_, e0⟩
      rw [hl1] at hl6
      cases hl6
      -- what stands there
      rcases vs' with _ | ⟨v1, _ | ⟨v2, _ | ⟨v3, _ | ⟨v4, l4⟩⟩⟩⟩ <;> try (exfalso; have := hl3.length; simp at this; done)
      obtain ⟨⟨c', ec, hc'⟩, e2, e3⟩ : (∃ c', v1 = .ref c' ∧ H0' c' = some (.lst (cs'.map V.int))) ∧ (v2 = .int u' ∧ v3 = .int r') := by
        cases hl3 with
        | cons r1 t =>
          cases t with
          | cons r2 t =>
            cases t with
            | cons r3 t =>
              cases r2
              cases r3
              cases r1 with
              | @lst c' vv dd hc rc =>
                have := rc.ints_of
                subst this
                exact ⟨⟨c', rfl, hc⟩, rfl, rfl⟩
      subst ec e2 e3
      refine kk (.int i) H' H0' ⟨R'.ex0, R'.ex, fun a o e hn => ?_, fun a o e => ?_, fun p' z => ?_⟩ (.int i)
      · have hap : a ≠ p := fun z => hn (by rw [hpn, z])
        exact R'.keep a o (by show (if a = p then none else H a) = some o; rw [if_neg hap]; exact e) (fun z => nomatch z)
      · rcases R'.new a o e with z | z | z
        · exact .inl z
        · have hap : a ≠ p := fun w => by rw [w, hl4] at e; cases e
          have z : (if a = p then none else H a) = none := z
          rw [if_neg hap] at z
          exact .inr (.inl z)
        · exact .inr (.inr z)
      · rw [hpn] at z
        cases z
        exact ⟨hl4, c', cs', u', r', hl2, hc', g1, g2, g3, g4⟩
end
end L3
/-! L3: comprehensions and loops, read; bounds; data compared -/
namespace L3
open PySem PySem.Spec PyProof.Rows L2
/-- a comprehension whose item is made from the turn's datum alone -/
theorem lcGo_map {α : Type} {g : G3} {tt : T3} {te : E3} {vs : List Nat} {ρ : Env3} {k : List D → Env3 → Prop} (emb f : α → D) : ∀ (xs : List α) (acc : List D),
    (∀ x ∈ xs, ∀ (K : D → Env3 → Prop) (K2 : Env3 → Prop), (∀ ρ3, ρ3.wipe vs = ρ → K (f x) ρ3) → g (emb x) ρ (fun ρ1 => tt ρ1 (fun b ρ2 => match b with | true => te ρ2 K (fun _ _ => False) | false => K2 ρ2) (fun _ _ => False))) →
    acc.length + xs.length ≤ sizeLine → k (acc ++ xs.map f) ρ → lcGo g tt te vs (xs.map emb) acc ρ k
  | [], acc, _, _, q => by
    rw [List.map_nil, List.append_nil] at q
    exact q
  | x :: xs, acc, h, hz, q => by
    rw [List.map_cons]
    refine h x (by simp) _ _ fun ρ3 e => ⟨?_, ?_⟩
    · rw [List.length_cons] at hz; omega
    · rw [e]
      refine lcGo_map emb f xs _ (fun y hy => h y (by simp [hy])) (by rw [List.length_append, List.length_cons, List.length_nil]; rw [List.length_cons] at hz; omega) ?_
      rw [List.append_assoc]
      exact q
/-- the same where drawing goes on: what is known of the draws is D0 -/
theorem lcGo_draw {α : Type} {g : G3} {tt : T3} {te : E3} {vs : List Nat} {sl : List Slot} {k : List D → Env3 → Prop} (emb : α → D) (Ok : α → D → Prop) : ∀ (xs : List α) (acc : List D) (T : Nat),
    (∀ x ∈ xs, ∀ (T : Nat) (K : D → Env3 → Prop) (K2 : Env3 → Prop), (∀ y T' ρ3, Ok x y → T' ≤ T + 1 → ρ3.wipe vs = ⟨sl, T'⟩ → K y ρ3) → g (emb x) ⟨sl, T⟩ (fun ρ1 => tt ρ1 (fun b ρ2 => match b with | true => te ρ2 K (fun _ _ => False) | false => K2 ρ2) (fun _ _ => False))) →
    acc.length + xs.length ≤ sizeLine → (∀ ys T', Paired Ok xs ys → T' ≤ T + xs.length → k (acc ++ ys) ⟨sl, T'⟩) → lcGo g tt te vs (xs.map emb) acc ⟨sl, T⟩ k
  | [], acc, T, _, _, q => by
    have z := q [] T .nil (Nat.le_refl _)
    rw [List.append_nil] at z
    exact z
  | x :: xs, acc, T, h, hz, q => by
    rw [List.map_cons]
    refine h x (by simp) T _ _ fun y T' ρ3 hy hT e => ⟨?_, ?_⟩
    · rw [List.length_cons] at hz; omega
    · rw [e]
      refine lcGo_draw emb Ok xs _ T' (fun z hz => h z (by simp [hz])) (by rw [List.length_append, List.length_cons, List.length_nil]; rw [List.length_cons] at hz; omega) fun ys T2 hp hT2 => ?_
      rw [List.append_assoc]
      exact q (y :: ys) T2 (.cons hy hp) (by rw [List.length_cons]; omega)
/-! ### sizes of ints -/
def Bd (k : Nat) (i : Int) : Prop := i.natAbs < 2 ^ k
theorem Bd.mono {a b : Nat} {i : Int} (h : Bd a i) (l : a ≤ b) : Bd b i := Nat.lt_of_lt_of_le h (Nat.pow_le_pow_right (by decide) l)
theorem Bd.mul {a b : Nat} {i j : Int} (h : Bd a i) (h' : Bd b j) : Bd (a + b) (i * j) := by
  unfold Bd
  rw [Int.natAbs_mul, Nat.pow_add]
  exact Nat.mul_lt_mul'' h h'
theorem Bd.add {a : Nat} {i j : Int} (h : Bd a i) (h' : Bd a j) : Bd (a + 1) (i + j) := by
  have h : i.natAbs < 2 ^ a := h
  have h' : j.natAbs < 2 ^ a := h'
  show (i + j).natAbs < 2 ^ (a + 1)
  rw [Nat.pow_succ]
  omega
theorem Bd.neg {a : Nat} {i : Int} (h : Bd a i) : Bd a (-i) := by
  unfold Bd
  rw [Int.natAbs_neg]; exact h
theorem Bd.sub0 {a : Nat} {i : Int} (h : Bd a i) : Bd a (0 - i) := by rw [Int.zero_sub]; exact h.neg
theorem Bd.log {a : Nat} {i : Int} (h : Bd a i) (ha : 0 < a) : i.natAbs.log2 < a := by
  by_cases h0 : i.natAbs = 0
  · rw [h0]; simpa using ha
  · exact (Nat.log2_lt h0).mpr h
theorem Bd.cmul {a b : Nat} {i j : Int} (h : Bd a i) (h' : Bd b j) (ha : 0 < a) (hb : 0 < b) (l : a + b ≤ 1000000) : CMulW i j ∨ CMul i j := by
  have := h.log ha
  have := h'.log hb
  refine .inl ?_
  unfold CMulW
  omega
theorem Bd.of_le {a : Nat} {i j : Int} (h : Bd a j) (l : i.natAbs ≤ j.natAbs) : Bd a i := Nat.lt_of_le_of_lt l h
theorem bd_nat {a : Nat} {i : Int} (h : i.natAbs < 2 ^ a) : Bd a i := h
/-! ### == of one and the same -/
mutual
theorem eqv_refl : ∀ d : PyData, d.canLay0 = true → PyData.eqv d d = true
  | .none, _ => by simp [PyData.eqv]
  | .bool b, _ => by simp [PyData.eqv]
  | .int i, _ => by simp [PyData.eqv]
  | .str x, _ => by simp [PyData.eqv]
  | .list xs, h => by
    simp only [PyData.eqv]
    exact eqvAll_refl xs (canLay_list h)
  | .tuple xs, h => by
    simp only [PyData.eqv]
    exact eqvAll_refl xs (canLay_tuple h)
  | .dict kvs, h => (canLay_dict h).elim
theorem eqvAll_refl : ∀ xs : List PyData, PyData.canLayAll0 xs = true → PyData.eqvAll xs xs = true
  | [], _ => by simp [PyData.eqvAll]
  | x :: xs, h => by
    simp only [PyData.eqvAll, Bool.and_eq_true]
    exact ⟨eqv_refl x (canLay_cons h).1, eqvAll_refl xs (canLay_cons h).2⟩
end
/-- data of ints in rows, three deep at most -/
def flatI : D → Bool
  | .int _ => true
  | _ => false
theorem pyA_ints : ∀ ns : List Int, pyA (ns.map D.int) = ns.map .int
  | [] => rfl
  | n :: r => by simp only [List.map_cons, pyA, D.py, pyA_ints r]
theorem lay_ints : ∀ ns : List Int, PyData.canLayAll0 (ns.map .int) = true
  | [] => by simp [PyData.canLayAll0]
  | n :: r => by simp only [List.map_cons, PyData.canLayAll0, PyData.canLay0, lay_ints r, Bool.and_self]
theorem depth_ints' : ∀ xs : List Int, PyData.depthAll (xs.map .int) ≤ 1
  | [] => by simp [PyData.depthAll]
  | x :: xs => by
    have := depth_ints' xs
    simp only [List.map_cons, PyData.depthAll, PyData.depth]
    omega
end L3
/-! L3L: enumerate of a tuple; in, not in of data; a sum of lists (rules at the level of HandS) -/
namespace L3
open PySem PySem.Spec PyProof.Rows L2 PySem.W
theorem meets_enumB1 {v : Value} {o : Obj} {H : Heap → Prop} (B : Begins v o H) :
    Meets (Builtin.«enumerate.__new__» ⟨[.type "enumerate", v], []⟩) (fun _ R s => H s.heap ∧
      R (.ok (.ret (.ref (s.heap.push o).objs.size))) { s with heap := (s.heap.push o).push { cls := .type "enumerate", data := .fields #[.none, .bool false, .ref s.heap.objs.size, rawInt 0, .none, .none] } }) :=
  .of_wp fun prog w A R s h => by
    obtain ⟨hp, g, d, tk, os⟩ := s; obtain ⟨h1, h⟩ := h
    have hsub := sub_enumerate
    have q1 : ∀ {A' : Around} {E : Value → Shared → Prop} {Q : Value → Shared → Prop}, Q (.ref hp.objs.size) ⟨hp.push o, g, d, tk, os⟩ → wpAny (model prog w) A' (pyIter v) Q E ⟨hp, g, d, tk, os⟩ :=
      fun q => B.iter prog w _ _ ⟨hp, g, d, tk, os⟩ _ h1 q
    wp_walk using q1
    refine wpAny_stack_any fun st => wpAny_pure ?_
    split
    · rename_i c _ _ _ _ _
      cases (c == Value.type "enumerate")
      · wp_walk using q1
        exact ⟨_, rfl, h⟩
      · wp_walk using q1
        exact ⟨_, rfl, h⟩
    · wp_walk using q1
      exact ⟨_, rfl, h⟩
section
variable {prog : Program} {w : World} {A : Around} {E : Value → Shared → Prop} {s : Shared}
theorem call_enumerate_tup {l : Addr} {items : Array Value} {Q : Value → Shared → Prop} (hL : s.heap.IsTuple l items)
    (h : ∀ h', IsEnum h' (s.heap.objs.size + 1) s.heap.objs.size 0 .none → h'.IsTupleIter s.heap.objs.size l 0 → h'.objs.size = s.heap.objs.size + 2 →
      (∀ b o, s.heap.get? b = some o → h'.get? b = some o) → Q (.ref (s.heap.objs.size + 1)) { s with heap := h' }) :
    wpAny (model prog w) A (call (.type "enumerate") [.ref l]) Q E s := by
  refine callType_new F.called_enumerate (by decide) (F.typeCall_enumerate_1 _) (F.newCall_enumerate_1 _) (fun obj => F.args_object_init_2 obj _) F.entry_enumerate_new
    (meets_enumB1 (begins_tuple l items)) ⟨hL, ?_⟩
  have hz : (s.heap.push { cls := .type "tuple_iterator", data := .fields #[.ref l, .int 0 0] }).objs.size = s.heap.objs.size + 1 := Heap.size_push ..
  show _ ∧ _
  rw [hz]
  have he : IsEnum ((s.heap.push { cls := .type "tuple_iterator", data := .fields #[.ref l, .int 0 0] }).push
      { cls := .type "enumerate", data := .fields #[.none, .bool false, .ref s.heap.objs.size, rawInt 0, .none, .none] }) (s.heap.objs.size + 1) s.heap.objs.size 0 .none := by
    have := Heap.get?_push_size (s.heap.push { cls := .type "tuple_iterator", data := .fields #[.ref l, .int 0 0] })
      (o := { cls := .type "enumerate", data := .fields #[.none, .bool false, .ref s.heap.objs.size, rawInt 0, .none, .none] }) rfl
    rw [hz] at this; exact this
  refine ⟨⟨_, he, rfl⟩, h _ he ⟨_, Heap.get?_push_of_some _ (Heap.get?_push_size _ rfl), rfl, rfl⟩ (by rw [Heap.size_push, hz]) fun b o x => Heap.get?_push_of_some _ (Heap.get?_push_of_some _ x)⟩
end
/-- the tuple at a, each item in a new pair -/
def Itet (K : PySem.W.Frag) (a : Addr) : It :=
  ⟨fun i H => ∃ (xs : List V) (x : V), SqT K H a xs ∧ xs[i]? = some x, fun i H v H' => ∃ T x, v = .ref T ∧ H T = none ∧ H' = upd H T (.tup [.int (i : Nat), x]) ∧ ∀ xs, SqT K H a xs → xs[i]? = some x, fun i H => ∃ xs : List V, SqT K H a xs ∧ xs.length ≤ i⟩
theorem turn_enumT {P : Program} {w : World} {K : PySem.W.Frag} {elts : List Expr} {kk : Nat} {tpos : Pos} (a e it : Addr) (hei : e ≠ it) (hea : a ≠ e) (hia : a ≠ it) :
    Turn P w K (.Tuple elts kk tpos) (Itet K a) [e, it] e (fun i h => (∃ old, IsEnum h e it ((i : Nat) : Int) old) ∧ h.IsTupleIter it a i ∧ e ≠ it) where
  mem := by simp
  obj := fun i h st b hb => by
    obtain ⟨⟨old, he⟩, ⟨o, ho, hc, hd⟩, _⟩ := st
    have e' : b = e ∨ b = it := by simpa using hb
    rcases e' with z | z
    · rw [z]; exact ⟨_, he, fun v q => nomatch q⟩
    · rw [z]; exact ⟨o, ho, fun v q => by rw [hd] at q; cases q⟩
  keep := fun i h h' st k => let ⟨⟨old, he⟩, hi, hne⟩ := st; ⟨⟨old, k e (by simp) _ he⟩, hi.at fun o q => k it (by simp) o q, hne⟩
  item := by
    intro X hP hw hK hc i pins s σ H E I hf st hg
    subst hP hw hK
    obtain ⟨⟨old, he⟩, hit, hne⟩ := st
    obtain ⟨xs, x, hq, hx⟩ := hg
    obtain ⟨its, rv, p, hz⟩ := I.tuple hq
    obtain ⟨u, hu, ru⟩ := rv.get hx
    have hel : e < s.heap.objs.size := Heap.lt_size he
    have hil : it < s.heap.objs.size := by obtain ⟨_, q, _⟩ := hit; exact Heap.lt_size q
    have hli : i < its.toArray.size := by
      obtain ⟨h1, _⟩ := List.getElem?_eq_some_iff.mp hu
      simpa using h1
    refine wpAny_pyNext_enum_itemD (Draws.tuple (A := X.A.in1) (I.ok.hd hc) it a hia its.toArray) he ⟨hit, p⟩ hli hne (by simp [hei]; exact fun z => hea z.symm) fun x' h' tk hP ho hit' hT hsz hk => ?_
    have ex : x' = u := by
      have hu2 : its.toArray[i]? = some u := by simpa using hu
      exact Option.some.inj (hP.symm.trans hu2)
    subst ex
    refine ⟨_, rfl, wpAny_letOwnedTupleGo_enum (s := { s with heap := h', toks := tk + 1 }) ho fun h'' he' sb => ?_⟩
    have hT2 : h''.get? s.heap.objs.size = some { cls := .type "tuple", data := .seq #[.int i tk, x'] } := (sb.2 _ (Nat.ne_of_gt hel)).trans hT
    have new : ObjOk X.prog X.w (upd H s.heap.objs.size (.tup [.int (i : Nat), x])) h'' s.heap.objs.size (.tup [.int (i : Nat), x]) :=
      ⟨by show 2 ≤ sizeLine; decide, [.int i tk, x'], .cons ⟨_, rfl⟩ (.cons ru .nil), ⟨_, hT2, rfl, _, rfl⟩⟩
    have I1 : Inv X pins σ (upd H s.heap.objs.size (.tup [.int (i : Nat), x])) { s with heap := h'', toks := tk + 1 } :=
      I.turnedNew (ch := [e, it]) (fun b ob hb q => (sb.2 b (fun z => hb (by simp [z]))).trans (hk b ob (fun z => hb (by simp [z])) (fun z => hb (by simp [z])) q)) hf (Nat.le_refl _) new
    refine ⟨.ref s.heap.objs.size, _, I1, rfl, ⟨_, x, rfl, I.hok.fresh (Nat.le_refl _), rfl, fun ys hy => by rw [I.tuple_inj hy hq]; exact hx⟩, ⟨⟨x', ?_⟩, hit'.1.at fun o q => (sb.2 it (Ne.symm hne)).trans q, hne⟩, fun b hb => ?_⟩
    · have e1 : ((i + 1 : Nat) : Int) = (i : Int) + 1 := by omega
      rw [e1]; exact he'
    · have hb' : b < s.heap.objs.size := by
        have e' : b = e ∨ b = it := by simpa using hb
        rcases e' with z | z
        · rw [z]; exact hel
        · rw [z]; exact hil
      rw [upd_ne (Nat.ne_of_lt hb')]
      exact (hf b hb).1
  done := by
    intro X hP hw hK hc i pins s σ H E I hf st hg
    subst hP hw hK
    obtain ⟨⟨old, he⟩, hit, hne⟩ := st
    obtain ⟨xs, hq, hx⟩ := hg
    obtain ⟨its, rv, p, hz⟩ := I.tuple hq
    obtain ⟨f0, f1, f2, f3, f4, f5⟩ := hf it (by simp)
    have hl := rv.length
    unfold pyNext
    have hT : s.TypeIs (.ref e) "enumerate" := ⟨_, he, rfl⟩
    refine wpAny_bind (wpAny_attempt (wpAny_callSpecial?_slot (name := Str.ofString "__next__") hT F.slot_enumerate_next
      (wpAny_call_entry F.slot_enumerate_next hT F.entry_enumerate_next ?_ (F.args_enumerate_next_1 _))))
    show wpAny _ _ (field (.ref e) 2 >>= _) _ _ _
    refine wpAny_bind (wpAny_field he rfl (x := .ref it) rfl ?_)
    refine wpAny_bind (wpAny_nextOf_tuple_end (A := X.A.in1) (I.ok.hd hc) hit p (by simp; omega) fun h' y eb hy => ?_)
    obtain ⟨o, ho, hcl⟩ := hy
    refine wpAny_bind (wpAny_isInstance (T := "StopIteration") (b := true) ⟨o, ho, hcl⟩ isSubtype_stop ?_)
    exact wpAny_pure ⟨rfl, I.turned (t' := s.toks) (fun b o hb q => eb b o hb q) f0 f1 f3 f4 f5⟩
  self := fun A i s Q E st h => let ⟨⟨_, he⟩, _⟩ := st; wpAny_pyIter_enum he h
def iEnumT (K : PySem.W.Frag) (ta : TA) : TI := fun σ H R => ta σ H fun vs H1 => ∃ a, vs = [.ref a] ∧ ((∃ xs, SqL K H1 a xs ∧ R (Ite K a) H1) ∨ ∃ xs, SqT K H1 a xs ∧ R (Itet K a) H1)
theorem pi_enumT {X : Cx} {e : Expr} {ta : TA} {p pos tpos : Pos} {elts : List Expr} {kk : Nat} (hg : Gl X "enumerate") (hm : X.mg "enumerate" = none) (ha : PA X [e] ta) (hs : starEach [e] X.env = [(false, eval e X.env)] := by rfl) :
    PI X (.Tuple elts kk tpos) (.Call (.Name "enumerate" p) [e] [] pos) (iEnumT X.K ta) := by
  refine ⟨fun pins s σ H R I h => ?_⟩
  refine Call_ (ld_blt I hg hm boot_enumerate (PyProof.Rows.callWith_type1 (thn (ha.run pos pins s σ H _ I h) fun us s1 ⟨vs, H1, I1, r1, q1⟩ => ?_) hs rfl))
  obtain ⟨a, ex, q⟩ := q1
  subst ex
  have hb2 : ∀ b, b ∈ [s1.heap.objs.size + 1, s1.heap.objs.size] → FpOk X pins H1 b := fun b hb => by
    have e' : b = s1.heap.objs.size + 1 ∨ b = s1.heap.objs.size := by simpa using hb
    have hle : s1.heap.objs.size ≤ b := by
      rcases e' with z | z
      · rw [z]; exact Nat.le_add_right _ _
      · rw [z]; exact Nat.le_refl _
    exact I1.fpOk hle (I1.hok.fresh hle)
  cases r1 with
  | cons r rr =>
    cases rr
    cases r
    rcases q with ⟨xs, hq, q⟩ | ⟨xs, hq, q⟩
    · obtain ⟨its, rv, p', hz⟩ := I1.list hq
      refine call_enumerate_list p'.isList fun h' he hit hsz hk => wpAny_pyIter_enum he ?_
      have I2 : Inv X pins σ H1 { s1 with heap := h' } := I1.kept (t' := s1.toks) hk
      exact ⟨s1.heap.objs.size + 1, [s1.heap.objs.size + 1, s1.heap.objs.size], _, _, H1, rfl, I2, turn_enum a (s1.heap.objs.size + 1) s1.heap.objs.size, ⟨⟨.none, he⟩, hit, Nat.succ_ne_self _⟩, hb2, q⟩
    · obtain ⟨its, rv, p', hz⟩ := I1.tuple hq
      have la : a < s1.heap.objs.size := by obtain ⟨o, ho, _⟩ := p'; exact Heap.lt_size ho
      refine call_enumerate_tup p' fun h' he hit hsz hk => wpAny_pyIter_enum he ?_
      have I2 : Inv X pins σ H1 { s1 with heap := h' } := I1.kept (t' := s1.toks) hk
      exact ⟨s1.heap.objs.size + 1, [s1.heap.objs.size + 1, s1.heap.objs.size], _, _, H1, rfl, I2, turn_enumT a (s1.heap.objs.size + 1) s1.heap.objs.size (Nat.succ_ne_self _) (Nat.ne_of_lt (Nat.lt_succ_of_lt la)) (Nat.ne_of_lt la), ⟨⟨.none, he⟩, hit, Nat.succ_ne_self _⟩, hb2, q⟩
section
variable {X : Cx}
def rInTD (K : PySem.W.Frag) : R2 := fun x y H Q => ∃ d ds, Dp K H x d ∧ Dp K H y (.tuple ds) ∧ SeqAt.shaped d = true ∧ SeqAt.shaped (.tuple ds) = true ∧ Q (.bl (ds.any fun z => PyData.eqv z d)) H
def rNotInTD (K : PySem.W.Frag) : R2 := fun x y H Q => ∃ d ds, Dp K H x d ∧ Dp K H y (.tuple ds) ∧ SeqAt.shaped d = true ∧ SeqAt.shaped (.tuple ds) = true ∧ Q (.bl (!ds.any fun z => PyData.eqv z d)) H
theorem op_inTD (hu : X.A.units + 65 < cLine) : OpR X (compareOp .In) (rInTD X.K) := by
  intro pins s σ H x y v u Q I rx ry h
  obtain ⟨d, ds, hd, he, sd, se, q⟩ := h
  obtain ⟨as, r1⟩ := Dp.reads I d x v hd rx
  obtain ⟨bs, r2⟩ := Dp.reads I (.tuple ds) y u he ry
  exact SeqAt.in_tuple_reads r2 r1 (SeqAt.canLay_of_shaped se) (SeqAt.canLay_of_shaped sd) (room_in_shaped sd hu) ⟨.bl _, H, I, rfl, q⟩
theorem op_notInTD (hu : X.A.units + 65 < cLine) : OpR X (compareOp .NotIn) (rNotInTD X.K) := by
  intro pins s σ H x y v u Q I rx ry h
  obtain ⟨d, ds, hd, he, sd, se, q⟩ := h
  obtain ⟨as, r1⟩ := Dp.reads I d x v hd rx
  obtain ⟨bs, r2⟩ := Dp.reads I (.tuple ds) y u he ry
  exact SeqAt.notIn_tuple_reads r2 r1 (SeqAt.canLay_of_shaped se) (SeqAt.canLay_of_shaped sd) (room_in_shaped sd hu) ⟨.bl _, H, I, rfl, q⟩
end
end L3
/-! L3M: over data: enumerate, reversed by a slice, max, index, in and not in, truth of a list -/
namespace L3
open PySem PySem.Spec PyProof.Rows L2 PySem.W
def nums : Nat → List D → List D
  | _, [] => []
  | i, d :: ds => .tup [.int i, d] :: nums (i + 1) ds
theorem nums_get : ∀ {xs : List D} {j i : Nat} {d : D}, (nums j xs)[i]? = some d → ∃ x, xs[i]? = some x ∧ d = .tup [.int ((j + i : Nat) : Int), x]
  | [], _, _, _, h => by simp [nums] at h
  | x :: xs, j, 0, d, h => by simp [nums] at h; exact ⟨x, rfl, h.symm⟩
  | x :: xs, j, i + 1, d, h => by
    obtain ⟨a, h1, h3⟩ := nums_get (xs := xs) (j := j + 1) (i := i) (d := d) (by simpa [nums] using h)
    exact ⟨a, by simpa using h1, by rw [h3, show j + 1 + i = j + (i + 1) by omega]⟩
theorem nums_len : ∀ {xs : List D} {j : Nat}, (nums j xs).length = xs.length
  | [], _ => rfl
  | x :: xs, j => by simp only [nums, List.length_cons, nums_len]
theorem walk_enumL {K : PySem.W.Frag} {pn : Option Addr} {H0 : Hp} {a : Addr} {vs : List V} {ds : List D} (h : H0 a = some (.lst vs)) (r : RepA pn H0 vs ds) : Walk pn (Ite K a) H0 (nums 0 ds) := fun i G H1 ρ σ H hp s R => by
  have hq : SqL K H a vs := SqL.of (R.ex _ _ (s _ _ h))
  refine ⟨fun d hd => ?_, fun hi => ⟨vs, hq, by rw [r.length]; rw [nums_len] at hi; exact hi⟩⟩
  obtain ⟨x, e1, rfl⟩ := nums_get hd
  obtain ⟨v, h1, h2⟩ := r.get e1
  refine ⟨⟨vs, v, hq, h1⟩, ?_⟩
  rintro z H' ⟨T, x', rfl, hT, rfl, y1⟩
  have z1 := y1 vs hq
  rw [h1] at z1
  cases z1
  subst hp
  rw [Nat.zero_add]
  exact grow_pair R hT (.int _) (h2.mono s)
theorem walk_enumT {K : PySem.W.Frag} {pn : Option Addr} {H0 : Hp} {a : Addr} {vs : List V} {ds : List D} (h : H0 a = some (.tup vs)) (r : RepA pn H0 vs ds) : Walk pn (Itet K a) H0 (nums 0 ds) := fun i G H1 ρ σ H hp s R => by
  have hq : SqT K H a vs := SqT.of (R.ex _ _ (s _ _ h))
  refine ⟨fun d hd => ?_, fun hi => ⟨vs, hq, by rw [r.length]; rw [nums_len] at hi; exact hi⟩⟩
  obtain ⟨x, e1, rfl⟩ := nums_get hd
  obtain ⟨v, h1, h2⟩ := r.get e1
  refine ⟨⟨vs, v, hq, h1⟩, ?_⟩
  rintro z H' ⟨T, x', rfl, hT, rfl, y1⟩
  have z1 := y1 vs hq
  rw [h1] at z1
  cases z1
  subst hp
  rw [Nat.zero_add]
  exact grow_pair R hT (.int _) (h2.mono s)
section
variable {X : Cx} {W : WX} {pos : Pos} {a b e : Expr} {ta tb te : E3}
def iEnum3 (te : E3) : I3 := fun ρ k x => te ρ (fun d ρ' => match d with | .lst ds => k (nums 0 ds) ρ' | .tup ds => k (nums 0 ds) ρ' | _ => False) x
theorem ienum {p tpos : Pos} {elts : List Expr} {kk : Nat} (hg : Gl X "enumerate") (hm : X.mg "enumerate" = none) (h : P3 X W e te) (hs : starEach [e] X.env = [(false, eval e X.env)] := by rfl) (he : starEach [e] X.env = (false, eval e X.env) :: starEach [] X.env := by rfl) :
    P3I X W (.Tuple elts kk tpos) (.Call (.Name "enumerate" p) [e] [] pos) (iEnum3 te) := by
  refine ⟨PI.imp (pi_enumT hg hm (acons h anil he).run hs) fun σ H R ⟨G, ρ, H0, R0, q⟩ => ?_, fun ρ k k' x x' hk hx q => h.mon _ _ _ _ _ (fun d ρ' q => by cases d <;> first | exact hk _ _ q | exact q) hx q⟩
  refine ⟨G, ρ, H0, R0, h.mon _ _ _ _ _ (fun d ρ' q vs H' H0' s R' r => ?_) (fun _ _ z => z) q⟩
  obtain ⟨v, rfl, r'⟩ := rep1 r
  cases r' with
  | lst ha ra => exact ⟨_, rfl, .inl ⟨_, SqL.of (R'.ex _ _ ha), q _ H' H0' s R' (walk_enumL ha ra)⟩⟩
  | tup ha ra => exact ⟨_, rfl, .inr ⟨_, SqT.of (R'.ex _ _ ha), q _ H' H0' s R' (walk_enumT ha ra)⟩⟩
  | _ => exact q.elim
def tRev3 (te : E3) : E3 := fun ρ k x => te ρ (fun d ρ' => match d with | .lst ds => k (.lst ds.reverse) ρ' | _ => False) x
theorem RepA.reverse {pn : Option Addr} {H : Hp} : ∀ {vs : List V} {ds : List D}, RepA pn H vs ds → RepA pn H vs.reverse ds.reverse
  | _, _, .nil => .nil
  | _, _, .cons r t => by
    rw [List.reverse_cons, List.reverse_cons]
    exact (RepA.reverse t).append (.cons r .nil)
theorem rev3 {k : Nat} {p1 p2 p3 : Pos} (h : P3 X W e te) : P3 X W (.Subscript e (.Slice none none (some (.UnaryOp .USub (.Constant (.int 1) k p1) p2)) p3) pos) (tRev3 te) := by
  refine ⟨PE.imp (pe_revL h.run) fun σ H Q ⟨G, ρ, H0, R, q⟩ => ?_, fun ρ k k' x x' hk hx q => h.mon _ _ _ _ _ (fun d ρ' q => by cases d <;> first | exact hk _ _ q | exact q) hx q⟩
  refine ⟨G, ρ, H0, R, h.mon _ _ _ _ _ (fun d ρ' q v H' H0' s R' r => ?_) (fun _ _ z => z) q⟩
  cases r with
  | @lst a vs ds ha ra =>
    refine ⟨_, _, rfl, SqL.of (R'.ex _ _ ha), fun p hp => ?_⟩
    have g := Grow.one (H0 := H0') (o := .lst vs.reverse) hp
    exact q _ _ _ (s.trans (g.same R'.ex).1) (g.rel R') (.lst upd_same (ra.reverse.mono (g.same R'.ex).1))
  | _ => exact q.elim
def gMax : GC
  | [.lst xs], k => ∃ ns, allInts xs = some ns ∧ 0 < ns.length ∧ ∀ m, m ∈ ns → (∀ y, y ∈ ns → y ≤ m) → k (.int m)
  | _, _ => False
theorem c3_max {K : PySem.W.Frag} : C3 (rMax K) gMax := by
  refine c3_one (fun ds k h => ?_) (fun pn H0 H v d k Q s r h q => ?_)
  · rcases ds with _ | ⟨d, _ | ⟨e, l⟩⟩
    · exact h.elim
    · exact ⟨d, rfl⟩
    · cases d <;> exact h.elim
  · cases r with
    | lst ha ra =>
      obtain ⟨ns, h1, h2, h3⟩ := h
      have e := allInts_map h1
      subst e
      have ev := RepA.ints_of ra
      subst ev
      exact ⟨_, ns, rfl, SqL.of (s _ _ ha), h2, fun m hm hle => q _ _ _ _ .refl (.int _) (h3 m hm hle)⟩
    | _ => exact h.elim
theorem mc_max : MonC3 gMax := mc_of (fun d k k' f q => by
    cases d <;> first | exact q | (obtain ⟨ns, h1, h2, h3⟩ := q; exact ⟨ns, h1, h2, fun m hm hle => f _ (h3 m hm hle)⟩)) (fun _ q => q) (fun d e l k q => by cases d <;> exact q)
theorem max3 {p : Pos} (hc : X.calm = true) (hg : Gl X "max") (hn : X.mg "max" = none) (h : P3 X W a ta) (he : starEach [a] X.env = (false, eval a X.env) :: starEach [] X.env := by rfl) : P3 X W (.Call (.Name "max" p) [a] [] pos) (tCB3 gMax (tCons3 ta tNil3)) :=
  cb3 (cr_max hc) c3_max mc_max hg hn (by decide +kernel) (acons h anil he) (he := he)
theorem Rep.dpS {K : PySem.W.Frag} {pn : Option Addr} {H : Hp} {v : V} {d : D} (r : Rep pn H v d) (h : SeqAt.shaped d.py = true) : Dp K H v d.py := r.dp (lay_of h)
/-- xs.index(y) -/
def tIdx3 (ta tb : E3) : E3 := fun ρ k x => ta ρ (fun d ρ1 => match d with
  | .lst ds => tb ρ1 (fun e ρ2 => SeqAt.shaped (D.lst ds).py = true ∧ SeqAt.shaped e.py = true ∧ ∃ (j : Nat) (z : D), ds[j]? = some z ∧ PyData.eqv z.py e.py = true ∧ (∀ (m : Nat) (z' : D), m < j → ds[m]? = some z' → PyData.eqv z'.py e.py = false) ∧ k (.int (j : Nat)) ρ2) x
  | _ => False) x
theorem pyA_get : ∀ {ds : List D} {i : Nat} {z : PyData}, (pyA ds)[i]? = some z → ∃ d, ds[i]? = some d ∧ z = d.py
  | [], _, _, h => by simp [pyA] at h
  | d :: ds, 0, z, h => ⟨d, rfl, by simpa [pyA] using h.symm⟩
  | d :: ds, i + 1, z, h => by
    obtain ⟨e, h1, h2⟩ := pyA_get (ds := ds) (i := i) (z := z) (by simpa [pyA] using h)
    exact ⟨e, by simpa using h1, h2⟩
theorem pyA_get' : ∀ {ds : List D} {i : Nat} {d : D}, ds[i]? = some d → (pyA ds)[i]? = some d.py
  | [], _, _, h => by simp at h
  | d :: ds, 0, e, h => by
    have e1 : d = e := by simpa using h
    subst e1; simp [pyA]
  | d :: ds, i + 1, e, h => by simpa [pyA] using pyA_get' (ds := ds) (i := i) (d := e) (by simpa using h)
theorem idx3 {apos cpos : Pos} (hu : X.A.units + 65 < cLine) (h1 : P3 X W a ta) (h2 : P3 X W b tb)
    (hbase : attributeBase a "index" X.env (eval a X.env) = eval a X.env := by rfl)
    (hfew : ((backTo cpos (starEach [b] X.env)).all (fun x => !x.1) && (backToKw cpos (keywordEach [] X.env)).all (fun x => x.1.isSome)
      && decide ([b].length + ([] : List Keyword).length + (if ([] : List Keyword).isEmpty then 0 else 1) < 30)) = true := by rfl)
    (hline : (apos.endLine == cpos.line) = true := by rfl) (hst : starEach [b] X.env = (false, eval b X.env) :: starEach [] X.env := by rfl) (hplain : (backTo cpos (starEach [] X.env)).any (·.1) = false := by rfl) :
    P3 X W (.Call (.Attribute a "index" apos) [b] [] cpos) (tIdx3 ta tb) := by
  refine ⟨PE.imp (pe_bm PySem.F.plainAttrs_list PySem.F.slot_list_index PySem.F.type_list_index (mt_indexD hu) h1.run (acons h2 anil hst).run hbase hfew hline hst hplain) fun σ H Q ⟨G, ρ, H0, R, q⟩ => ?_,
    fun ρ k k' x x' hk hx q => h1.mon _ _ _ _ _ (fun d ρ1 q => ?_) hx q⟩
  · refine ⟨G, ρ, H0, R, h1.mon _ _ _ _ _ (fun d ρ1 q xv H1 H01 s1 R1 r1 => ?_) (fun _ _ z => z) q⟩
    cases d with
    | lst ds =>
      cases r1 with
      | @lst p vs ds ha ra =>
        refine ⟨.inl ⟨rfl, _, SqL.of (R1.ex _ _ ha)⟩, G, ρ1, H01, R1, h2.mon _ _ _ _ _ (fun e ρ2 q ys H2 H02 s2 R2 r2 => ?_) (fun c ρ' q cls dx H' H0' s => q cls dx H' H0' (s1.trans s)) q⟩
        obtain ⟨y, rfl, ry⟩ := rep1 r2
        obtain ⟨sl, se, j, z, e1, e2, e3, hk⟩ := q
        have rl : Rep G.pn H2 (.ref p) (.lst ds) := (Rep.lst ha ra).mono (s2.trans R2.ex)
        have dl := rl.dpS (K := X.K) sl
        have dy := (ry.mono R2.ex).dpS (K := X.K) se
        exact ⟨p, y, e.py, pyA ds, j, z.py, rfl, rfl, dl, dy, sl, se, pyA_get' e1, e2, fun m z' hm hz => by
          obtain ⟨dz, h1, h2⟩ := pyA_get hz
          rw [h2]; exact e3 m dz hm h1, hk _ H2 H02 (s1.trans s2) R2 (.int _)⟩
    | _ => exact q.elim
  · cases d with
    | lst ds => exact h2.mon _ _ _ _ _ (fun e ρ2 ⟨a1, a2, j, z, a3, a4, a5, a6⟩ => ⟨a1, a2, j, z, a3, a4, a5, hk _ _ a6⟩) hx q
    | _ => exact q.elim
/-- y not in xs, xs an own list, which stays own -/
def tNotInO (i : Nat) (ta : E3) : T3 := fun ρ k x => ta ρ (fun d ρ1 => ownA ρ1 i fun xs => SeqAt.shaped d.py = true ∧ SeqAt.shaped (D.lst xs).py = true ∧ k (!(pyA xs).any fun z => PyData.eqv z d.py) ρ1) x
theorem notino3 (i : Nat) {x : Str} {px : Pos} (hu : X.A.units + 65 < cLine) (h1 : P3 X W a ta) (hN : X.N[i]? = some x := by rfl) (hv : Vis X.env.scope x := by first | exact Or.inl rfl | exact Or.inr (Or.inl rfl) | exact Or.inr (Or.inr rfl)) (hd : (x == ("__debug__" : Str)) = false := by decide)
    (hcd : (x == ("__classdict__" : Str)) = false := by decide) (hb : behindInMarks .NotIn (.Name x px) = false := by rfl) : P3T X W (.Compare a [.NotIn] [.Name x px] pos) (tNotInO i ta) := by
  refine ⟨PT.imp (pt_cmpR (op_notInD hu) h1.run (pe_var hN hv hd hcd) hb) fun σ H Q ⟨G, ρ, H0, R, q⟩ => ?_, fun ρ k k' x x' hk hx => h1.mon _ _ _ _ _ (fun d ρ1 => ownA_mono fun xs => mon_and (mon_and (hk _ _))) hx⟩
  refine ⟨G, ρ, H0, R, h1.mon _ _ _ _ _ (fun d ρ1 q v H1 H01 s1 R1 r1 => ?_) (fun _ _ z => z) q⟩
  obtain ⟨xs, e, sd, sl, q⟩ := ownA_get q
  obtain ⟨l, g1, ⟨vs, g2, g3⟩, _⟩ := R1.owned e
  have rl : RepA G.pn H1 vs xs := g3.mono R1.ex
  exact ⟨_, g1, d.py, pyA xs, (r1.mono R1.ex).dpS sd, .lst (SqL.of g2) (rl.dp (canLay_list (lay_of sl))), sd, sl, _, rfl, q H1 H01 s1 R1⟩
/-- x not in (.., ..) -/
def gNotInT : G2 := fun d e k => match e with
  | .tup xs => SeqAt.shaped d.py = true ∧ SeqAt.shaped (D.tup xs).py = true ∧ k (.bl (!(pyA xs).any fun z => PyData.eqv z d.py))
  | _ => False
theorem o3_notInT {K : PySem.W.Frag} : Op3 (rNotInTD K) gNotInT := fun pn H0 H x y d e k Q s rx ry h q => by
  cases ry with
  | tup ha ra => exact ⟨d.py, _, (rx.mono s).dpS h.1, ((Rep.tup ha ra).mono s).dpS h.2.1, h.1, h.2.1, q _ _ H0 H .refl (.bl _) h.2.2⟩
  | _ => exact h.elim
theorem m_notInT : MonG2 gNotInT := fun d e k k' f h => by cases e <;> first | exact ⟨h.1, h.2.1, f _ h.2.2⟩ | exact h
theorem notint3 (hu : X.A.units + 65 < cLine) (pa : P3 X W a ta) (pb : P3 X W b tb) (hb : behindInMarks .NotIn b = false := by rfl) : P3T X W (.Compare a [.NotIn] [b] pos) (tB3 (b3 gNotInT ta tb)) := cmpT3 (op_notInTD hu) o3_notInT m_notInT pa pb hb
/-- a list as a test -/
def tTru3 (ta : E3) : T3 := fun ρ k x => ta ρ (fun d ρ' => match d with | .lst ds => k (!ds.isEmpty) ρ' | .tup ds => k (!ds.isEmpty) ρ' | _ => False) x
theorem RepA.empty {pn : Option Addr} {H : Hp} {vs : List V} {ds : List D} (r : RepA pn H vs ds) : vs.isEmpty = ds.isEmpty := by cases r <;> rfl
theorem tru3 (h : P3 X W a ta) (he : ∀ whole, isTrue a X.env whole = (do let v ← whole; standAt a.pos; holding [v] (truthy v)) := by exact fun _ => rfl) : P3T X W a (tTru3 ta) := by
  refine ⟨PT.imp (pt_truth h.run he) fun σ H Q ⟨G, ρ, H0, R, q⟩ => ?_, fun ρ k k' x x' hk hx q => h.mon _ _ _ _ _ (fun d ρ' q => by cases d <;> first | exact hk _ _ q | exact q) hx q⟩
  refine ⟨G, ρ, H0, R, h.mon _ _ _ _ _ (fun d ρ' q v H' H0' s R' r => ?_) (fun _ _ z => z) q⟩
  cases r with
  | lst ha ra => exact ⟨_, .inl ⟨_, SqL.of (R'.ex _ _ ha), rfl⟩, by rw [ra.empty]; exact q H' H0' s R'⟩
  | tup ha ra => exact ⟨_, .inr (.inl ⟨_, SqT.of (R'.ex _ _ ha), rfl⟩), by rw [ra.empty]; exact q H' H0' s R'⟩
  | _ => exact q.elim
end
end L3
/-! L3N: sum(lists, []) -/
namespace L3
open PySem PySem.Spec PyProof.Rows L2 PySem.W
theorem args_sum2 (a b : Value) : argsOk "sum" ⟨[a, b], []⟩ := by unfold argsOk; kernel_rfl
theorem sub_list_strS : isSubtype (.type "list") (.type "str") = pure false := by rw [isSubtype_type]; kernel_rfl
theorem sub_list_bytesS : isSubtype (.type "list") (.type "bytes") = pure false := by rw [isSubtype_type]; kernel_rfl
theorem sub_list_bytearrayS : isSubtype (.type "list") (.type "bytearray") = pure false := by rw [isSubtype_type]; kernel_rfl
abbrev LsT := Addr × List Value × Nat
def catL : List LsT → List Value
  | [] => []
  | p :: r => p.2.1 ++ catL r
section
variable {prog : Program} {w : World} {A : Around} {R : Result → Shared → Prop}
theorem code_sum_lists (hh : A.handled = none) (I a S : Addr) (ls0 : List LsT) (h0 : Heap) (hk0 : ∀ p ∈ ls0, h0.get? p.1 = some { cls := .type "list", data := .seq p.2.1.toArray p.2.2 }) (hne : a ≠ I) (hSI : S ≠ I) (hSa : S ≠ a)
    (hS0 : h0.objs.size ≤ S) (hI0 : h0.objs.size ≤ I) :
    ∀ (ls : List LsT) (i : Nat) (s : Shared) (T : Addr) (acc : List Value) (c1 c2 : Nat), ls = ls0.drop i → i ≤ ls0.length →
    s.heap.IsListIter I a i → s.heap.IsList a (ls0.map fun p => Value.ref p.1).toArray → s.heap.get? S = some { cls := .type "list", dict := none, data := .seq #[.ref T] c1, slots := #[] } →
    s.heap.get? T = some { cls := .type "list", data := .seq acc.toArray c2 } → T ≠ S → T ≠ I → (∀ b o, h0.get? b = some o → s.heap.get? b = some o) → acc.length + (catL ls).length ≤ sizeLine →
    (∀ h' tk T' c, (∀ b o, b ≠ I → b ≠ S → s.heap.get? b = some o → h'.get? b = some o) → h'.get? T' = some { cls := .type "list", data := .seq (acc ++ catL ls).toArray c } → ((T' = T ∧ ls = []) ∨ s.heap.objs.size ≤ T') →
      R (.ok (.ret (.ref T'))) { s with heap := h', toks := tk }) →
    codeAny (model prog w) A (.builtin "sum.loop" ⟨[.ref I, .ref S, rawInt 2, rawInt 0], []⟩) R s := by
  intro ls
  induction ls with
  | nil =>
    intro i s T acc c1 c2 hls hi hit hl hS hT hTS hTI hk hsz hR
    have hin : ls0.length ≤ i := by
      have := congrArg List.length hls
      rw [List.length_drop] at this
      simp at this; omega
    refine codeAny_builtin F.entry_sum_loop ?_
    rw [Around.under_plainId F.plain_sum_loop _]
    show wpAny _ A.in1 (seqItems? (.ref S) >>= _) _ _ s
    refine wpAny_bind (wpAny_seqItems hS rfl ?_)
    show wpAny _ A.in1 (tryCatch (pyNext (.ref I)) _ >>= _) _ _ s
    refine wpAny_bind (wpAny_tryCatch (wpAny_pyNext_list_end hh hit hl (by simp; omega) fun h' he' => ?_))
    refine wpAny_pure ?_
    have e1 : catL [] = [] := rfl
    rw [e1, List.append_nil] at hR
    exact hR h' s.toks T c2 (fun b o h1 h2 e => he' b o h1 e) (he' T _ hTI hT) (.inl ⟨rfl, rfl⟩)
  | cons p ls ih =>
    intro i s T acc c1 c2 hls hi hit hl hS hT hTS hTI hk hsz hR
    have hp : ls0[i]? = some p := by
      have : (ls0.drop i)[0]? = some p := by rw [← hls]; rfl
      simpa using this
    have hlt : i < ls0.length := (List.getElem?_eq_some_iff.mp hp).1
    have hpm : p ∈ ls0 := List.mem_of_getElem? hp
    have hls' : ls = ls0.drop (i + 1) := by
      have := congrArg List.tail hls
      simpa [List.tail_drop] using this
    have hob := hk0 p hpm
    refine codeAny_builtin F.entry_sum_loop ?_
    rw [Around.under_plainId F.plain_sum_loop _]
    show wpAny _ A.in1 (seqItems? (.ref S) >>= _) _ _ s
    refine wpAny_bind (wpAny_seqItems hS rfl ?_)
    show wpAny _ A.in1 (tryCatch (pyNext (.ref I)) _ >>= _) _ _ s
    refine wpAny_bind (wpAny_tryCatch (wpAny_pyNext_list_item hit hl (x := .ref p.1) (by simp [hp]) fun h' hit' hs' => ?_))
    have hS' : h'.get? S = _ := (hs'.2 S hSI).trans hS
    have hT' : h'.get? T = _ := (hs'.2 T hTI).trans hT
    have hpI : p.1 ≠ I := fun e => by
      have := Heap.lt_size hob
      rw [e] at this
      exact absurd this (Nat.not_lt.mpr hI0)
    have hpS : p.1 ≠ S := fun e => by
      have := Heap.lt_size hob
      rw [e] at this
      exact absurd this (Nat.not_lt.mpr hS0)
    have hP' : h'.get? p.1 = _ := (hs'.2 p.1 hpI).trans (hk _ _ hob)
    have hSlt : S < h'.objs.size := Heap.lt_size hS'
    have hlen : acc.length + p.2.1.length ≤ sizeLine := by
      have e : catL (p :: ls) = p.2.1 ++ catL ls := rfl
      rw [e, List.length_append] at hsz
      omega
    show wpAny _ A.in1 (Sem.attempt (holding [.ref p.1] (binaryOp .Add (.ref T) (.ref p.1))) >>= _) _ _ _
    refine wpAny_bind (wpAny_attempt (wpAny_holding (PySem.P.add_list (A := A.in1) (items := acc.toArray) (n := c2) (items2 := p.2.1.toArray) (n2 := p.2.2) hT' hP' ?_ (by simpa using hlen))))
    have ea : acc.toArray ++ p.2.1.toArray = (acc ++ p.2.1).toArray := by simp
    rw [ea]
    generalize hN : h'.push { cls := .type "list", data := .seq (acc ++ p.2.1).toArray } = h2
    show wpAny _ A.in1 (updateSeq S (fun _ => #[.ref h'.objs.size]) >>= _) _ _ _
    refine wpAny_bind ?_
    have push : ∀ b o, h'.get? b = some o → h2.get? b = some o := fun b o e => by rw [← hN]; exact Heap.get?_push_of_some _ e
    have hS2 := push S _ hS'
    have hN2 : h2.get? h'.objs.size = some { cls := .type "list", data := .seq (acc ++ p.2.1).toArray } := by rw [← hN]; exact Heap.get?_push_size _ rfl
    have hNS : h'.objs.size ≠ S := Nat.ne_of_gt hSlt
    have hIlt : I < h'.objs.size := by obtain ⟨_, q, _⟩ := hit'; exact Heap.lt_size q
    have hsz' : h'.objs.size = s.heap.objs.size := hs'.1
    refine wpAny_updateSeq hS2 rfl (wpAny_bind (wpAny_letGo ?_))
    have hS3 : (h2.update S (Obj.mapSeq fun _ => #[.ref h'.objs.size])).get? S = some { cls := .type "list", dict := none, data := .seq #[.ref h'.objs.size] c1, slots := #[] } := Heap.get?_update_self _ hS2 rfl
    refine wpAny_bind ?_
    refine wpAny_updateSeq hS3 rfl (wpAny_pure ⟨plainId_quiet F.plain_sum_loop _, ?_⟩)
    have hS4 : ((h2.update S (Obj.mapSeq fun _ => #[.ref h'.objs.size])).update S (Obj.mapSeq fun _ => #[.ref h'.objs.size])).get? S = some { cls := .type "list", dict := none, data := .seq #[.ref h'.objs.size] c1, slots := #[] } := Heap.get?_update_self _ hS3 rfl
    generalize hN5 : (h2.update S (Obj.mapSeq fun _ => #[.ref h'.objs.size])).update S (Obj.mapSeq fun _ => #[.ref h'.objs.size]) = h5 at hS4
    have hz5 : h5.objs.size = h2.objs.size := by rw [← hN5]; exact (Heap.SameBut.update _ S _).1.trans (Heap.SameBut.update h2 S _).1
    have sb : ∀ b o, b ≠ S → h2.get? b = some o → h5.get? b = some o := fun b o hb e => by rw [← hN5]; exact (Heap.get?_update_other _ _ (Ne.symm hb)).trans ((Heap.get?_update_other _ _ (Ne.symm hb)).trans e)
    have old : ∀ b o, b ≠ I → b ≠ S → s.heap.get? b = some o → h5.get? b = some o := fun b o h1 h3 e => sb b o h3 (push b o (hs'.extBut b o h1 e))
    refine ih (i + 1) { s with heap := h5 } h'.objs.size (acc ++ p.2.1) c1 0 hls' hlt ?_ ?_ hS4 (sb _ _ hNS hN2) hNS (Nat.ne_of_gt hIlt) (fun b o e => ?_) ?_ fun h'' tk T' c k1 k2 k3 => ?_
    · exact hit'.at fun o e => sb I o (Ne.symm hSI) (push I o e)
    · obtain ⟨o, q1, q2⟩ := hl
      exact ⟨o, old a o hne (Ne.symm hSa) q1, q2⟩
    · have hb : b < h0.objs.size := Heap.lt_size e
      exact old b o (fun z => by rw [z] at hb; exact absurd hb (Nat.not_lt.mpr hI0)) (fun z => by rw [z] at hb; exact absurd hb (Nat.not_lt.mpr hS0)) (hk b o e)
    · have e : catL (p :: ls) = p.2.1 ++ catL ls := rfl
      rw [e, List.length_append] at hsz
      rw [List.length_append]
      omega
    · refine hR h'' tk T' c (fun b o h1 h3 e => k1 b o h1 h3 (old b o h1 h3 e)) ?_ (.inr ?_)
      · have e : catL (p :: ls) = p.2.1 ++ catL ls := rfl
        rw [k2, e, List.append_assoc]
      · rcases k3 with ⟨k3, _⟩ | k3
        · rw [k3, hsz']; exact Nat.le_refl _
        · refine Nat.le_trans ?_ k3
          show s.heap.objs.size ≤ h5.objs.size
          rw [hz5, ← hN, Heap.size_push, hsz']
          exact Nat.le_succ _
end
section
variable {prog : Program} {w : World} {A : Around} {E : Value → Shared → Prop} {s : Shared}
theorem call_sum_lists {a b : Addr} {ls : List LsT} {n0 : Nat} {Q : Value → Shared → Prop} (hh : A.handled = none) (hne : ls ≠ []) (hl : s.heap.IsList a (ls.map fun p => Value.ref p.1).toArray) (hb : s.heap.get? b = some { cls := .type "list", data := .seq #[] n0 })
    (hk : ∀ p ∈ ls, s.heap.get? p.1 = some { cls := .type "list", data := .seq p.2.1.toArray p.2.2 }) (hz : (catL ls).length ≤ sizeLine)
    (h : ∀ h' tk T' c, (∀ b o, s.heap.get? b = some o → h'.get? b = some o) → s.heap.objs.size ≤ T' → h'.get? T' = some { cls := .type "list", data := .seq (catL ls).toArray c } → Q (.ref T') { s with heap := h', toks := tk }) :
    wpAny (model prog w) A (call (.builtin "sum") [.ref a, .ref b]) Q E s := by
  refine call_function_tree F.kind_sum F.plain_sum F.entry_sum (args_sum2 _ _) ?_
  unfold Builtin.«sum»
  simp only [List.length_cons, List.length_nil]
  rw [if_neg (by decide)]
  refine wpAny_bind (wpAny_of_eq (show Builtin.Builtins.bindParams "sum" ["start"] 0 { pos := [.ref b], kw := [] } = pure [some (.ref b)] from rfl) ?_)
  refine wpAny_bind (wpAny_pyIter_list hl ?_)
  have la : a < s.heap.objs.size := by obtain ⟨_, q, _⟩ := hl; exact Heap.lt_size q
  have lb : b < s.heap.objs.size := Heap.lt_size hb
  generalize hN : s.heap.push { cls := .type "list_iterator", data := .fields #[.ref a, .int 0 0] } = h1
  have push : ∀ b o, s.heap.get? b = some o → h1.get? b = some o := fun b o e => by rw [← hN]; exact Heap.get?_push_of_some _ e
  have hz1 : h1.objs.size = s.heap.objs.size + 1 := by rw [← hN]; exact Heap.size_push ..
  have hit : h1.IsListIter s.heap.objs.size a 0 := by rw [← hN]; exact ⟨_, Heap.get?_push_size _ rfl, rfl, rfl⟩
  have hb1 := push b _ hb
  have tl : ∀ (t : Shared), t.heap = h1 → t.TypeIs (.ref b) "list" := fun t e => ⟨_, by rw [e]; exact hb1, rfl⟩
  refine wpAny_bind (wpAny_pure ?_)
  simp only [List.forIn_cons, List.forIn_nil]
  refine wpAny_bind (wpAny_bind (wpAny_bind (wpAny_isInstance (T := "list") (b := false) (tl _ rfl) sub_list_strS ?_)))
  simp only [Bool.false_eq_true, if_false]
  refine wpAny_pure (wpAny_bind (wpAny_bind (wpAny_isInstance (T := "list") (b := false) (tl _ rfl) sub_list_bytesS ?_)))
  simp only [Bool.false_eq_true, if_false]
  refine wpAny_pure (wpAny_bind (wpAny_bind (wpAny_isInstance (T := "list") (b := false) (tl _ rfl) sub_list_bytearrayS ?_)))
  simp only [Bool.false_eq_true, if_false]
  refine wpAny_pure (wpAny_pure ?_)
  refine wpAny_bind (wpAny_newObj_type ?_)
  generalize hN2 : h1.push { cls := .type "list", data := .seq #[.ref b] } = h2
  have push2 : ∀ b o, h1.get? b = some o → h2.get? b = some o := fun b o e => by rw [← hN2]; exact Heap.get?_push_of_some _ e
  have hS : h2.get? h1.objs.size = some { cls := .type "list", dict := none, data := .seq #[.ref b] 0, slots := #[] } := by rw [← hN2]; exact Heap.get?_push_size _ rfl
  refine wpAny_pure ⟨plainId_quiet F.plain_sum_loop _, ?_⟩
  refine code_sum_lists hh s.heap.objs.size a h1.objs.size ls s.heap hk (Nat.ne_of_lt la) (by rw [hz1]; exact Nat.succ_ne_self _) (by rw [hz1]; exact Nat.ne_of_gt (Nat.lt_succ_of_lt la)) (by rw [hz1]; exact Nat.le_succ _) (Nat.le_refl _)
    ls 0 _ b [] 0 n0 rfl (Nat.zero_le _) (hit.at fun o e => push2 _ o e) ?_ hS (push2 _ _ hb1) (by rw [hz1]; exact Nat.ne_of_lt (Nat.lt_succ_of_lt lb)) (Nat.ne_of_lt lb) (fun c o e => push2 _ _ (push _ _ e)) (by simpa using hz) fun h' tk T' c k1 k2 k3 => ?_
  · obtain ⟨o, q1, q2⟩ := hl
    exact ⟨o, push2 _ _ (push _ _ q1), q2⟩
  · refine h h' tk T' c (fun d o e => ?_) ?_ (by rw [List.nil_append] at k2; exact k2)
    · have ld : d < s.heap.objs.size := Heap.lt_size e
      exact k1 d o (Nat.ne_of_lt ld) (by rw [hz1]; exact Nat.ne_of_lt (Nat.lt_succ_of_lt ld)) (push2 _ _ (push _ _ e))
    · rcases k3 with ⟨_, k3⟩ | k3
      · exact absurd k3 hne
      · refine Nat.le_trans ?_ k3
        show s.heap.objs.size ≤ h2.objs.size
        rw [← hN2, Heap.size_push, hz1]
        exact Nat.le_trans (Nat.le_succ _) (Nat.le_succ _)
end
/-- sum(xss, []) of one list or more -/
def rSumL (K : PySem.W.Frag) : List V → Hp → VK → Prop := fun xs H Q => ∃ (a b : Addr) (vs : List V) (xss : List (List V)), xs = [.ref a, .ref b] ∧ SqL K H a vs ∧ H b = some (.lst []) ∧ vs ≠ [] ∧ Paired (fun v ys => ∃ p, v = .ref p ∧ H p = some (.lst ys)) vs xss ∧
  xss.flatten.length ≤ sizeLine ∧ ∀ p, H p = none → Q (.ref p) (upd H p (.lst xss.flatten))
section
variable {X : Cx}
theorem lists_of {pins : List (Addr × Obj)} {σ : L2.St} {H : Hp} {s : Shared} (I : Inv X pins σ H s) : ∀ {vs : List V} {xss : List (List V)} {its : List Value}, Paired (fun v ys => ∃ p, v = .ref p ∧ H p = some (.lst ys)) vs xss → Vals vs its →
    ∃ ls : List LsT, its = ls.map (fun p => Value.ref p.1) ∧ (∀ p ∈ ls, s.heap.get? p.1 = some { cls := .type "list", data := .seq p.2.1.toArray p.2.2 }) ∧ Vals xss.flatten (catL ls)
  | _, _, _, .nil, .nil => ⟨[], rfl, fun _ h => by simp at h, .nil⟩
  | _, _, _, .cons h t, .cons r rt => by
    obtain ⟨p, rfl, hp⟩ := h
    cases r
    obtain ⟨ls, e1, e2, e3⟩ := lists_of I t rt
    obtain ⟨z, its, n, rv, hl, e⟩ := I.lstM hp
    refine ⟨(p, its, n) :: ls, by rw [e1]; rfl, fun q hq => ?_, ?_⟩
    · rcases List.mem_cons.mp hq with g | g
      · rw [g]; exact e
      · exact e2 q g
    · rw [List.flatten_cons]
      exact rv.append e3
theorem cr_sumL (hc : X.calm = true) : CallR X (.builtin "sum") (rSumL X.K) := by
  intro pins s σ H vs us Q I r h
  obtain ⟨a, b, vs, xss, rfl, hs, hb, hne, hp, hz, q⟩ := h
  obtain ⟨its, rv, hl, _⟩ := I.list hs
  obtain ⟨ls, e1, e2, e3⟩ := lists_of I hp rv
  cases r with
  | cons r rt =>
    cases rt with
    | cons r2 rt =>
      cases rt
      cases r
      cases r2
      obtain ⟨z, itsb, nb, rvb, hlb, eb⟩ := I.lstM hb
      cases rvb
      subst e1
      refine call_sum_lists (I.ok.hd hc) (fun e => ?_) hl.isList eb e2 (by rw [← e3.length]; exact hz) fun h' tk T' c k1 k2 k3 => ?_
      · subst e
        cases rv
        exact hne rfl
      · exact ⟨.ref T', upd H T' (.lst xss.flatten), I.laid (t' := tk) k1 k2 ⟨hz, catL ls, c, e3, k3⟩, rfl, q T' (I.hok.fresh k2)⟩
end
section
variable {X : Cx} {W : WX} {pos : Pos} {a b e : Expr} {ta tb te : E3}
def allLsts : List D → Option (List (List D))
  | [] => some []
  | .lst ds :: r => (allLsts r).map (ds :: ·)
  | _ :: _ => none
def gSumL : GC
  | [.lst xs, .lst []], k => ∃ dss, allLsts xs = some dss ∧ xs ≠ [] ∧ dss.flatten.length ≤ sizeLine ∧ k (.lst dss.flatten)
  | _, _ => False
theorem RepA.lsts {pn : Option Addr} {H : Hp} : ∀ {vs : List V} {xs : List D} {dss : List (List D)}, RepA pn H vs xs → allLsts xs = some dss → ∃ xss : List (List V), Paired (fun v ys => ∃ p, v = V.ref p ∧ H p = some (.lst ys)) vs xss ∧ RepA pn H xss.flatten dss.flatten
  | _, _, dss, .nil, h => by
    simp [allLsts] at h
    subst h
    exact ⟨[], .nil, .nil⟩
  | _, _, dss, .cons r t, h => by
    cases r with
    | @lst p ys ds hp hr =>
      simp only [allLsts] at h
      obtain ⟨rest, h1, rfl⟩ := Option.map_eq_some_iff.mp h
      obtain ⟨xss, e1, e2⟩ := RepA.lsts t h1
      exact ⟨ys :: xss, .cons ⟨p, rfl, hp⟩ e1, by rw [List.flatten_cons, List.flatten_cons]; exact hr.append e2⟩
    | _ => simp [allLsts] at h
theorem c3_sumL {K : PySem.W.Frag} : C3 (rSumL K) gSumL := by
  intro pn H0 H vs ds k Q s ra h f
  rcases ds with _ | ⟨d, _ | ⟨e, _ | ⟨e2, l⟩⟩⟩
  · exact h.elim
  · cases d <;> exact h.elim
  · obtain ⟨v, u, rfl, r1, r2⟩ := rep2 ra
    cases r1 with
    | @lst p ys xs hp hr =>
      cases r2 with
      | @lst p2 ys2 xs2 hp2 hr2 =>
        cases hr2 with
        | cons => exact h.elim
        | nil =>
          obtain ⟨dss, h1, h2, h3, h4⟩ := h
          obtain ⟨xss, g1, g2⟩ := hr.lsts h1
          refine ⟨p, p2, ys, xss, rfl, SqL.of (s _ _ hp), s _ _ hp2, fun e => ?_, ?_, by rw [g2.length]; exact h3, fun q hq => ?_⟩
          · subst e
            cases hr
            exact h2 rfl
          · refine Paired.mono ?_ g1
            rintro v ys ⟨p, e, hp⟩
            exact ⟨p, e, s _ _ hp⟩
          · have g := Grow.one (H0 := H0) (o := .lst xss.flatten) hq
            exact f _ _ _ _ g (.lst upd_same (g2.mono (g.same s).1)) h4
      | _ => exact h.elim
    | _ => cases r2 <;> exact h.elim
  · cases d <;> first | exact h.elim | (cases e <;> first | exact h.elim | (rename_i q; cases q <;> exact h.elim))
theorem mc_sumL : MonC3 gSumL := fun ds k k' f q => by
  unfold gSumL at q ⊢
  split at q
  · obtain ⟨dss, h1, h2, h3, h4⟩ := q
    exact ⟨dss, h1, h2, h3, f _ h4⟩
  · exact q.elim
theorem sumL3 {p : Pos} (hc : X.calm = true) (hg : Gl X "sum") (hn : X.mg "sum" = none) (h : P3 X W a ta) (h2 : P3 X W b tb) (he : starEach [a, b] X.env = (false, eval a X.env) :: starEach [b] X.env := by rfl) (he2 : starEach [b] X.env = (false, eval b X.env) :: starEach [] X.env := by rfl)
    (hpl : (backTo pos (starEach [b] X.env)).any (·.1) = false := by rfl) : P3 X W (.Call (.Name "sum" p) [a, b] [] pos) (tCB3 gSumL (tCons3 ta (tCons3 tb tNil3))) :=
  cb3 (cr_sumL hc) c3_sumL mc_sumL hg hn (by decide +kernel) (acons h (acons h2 anil he2) he) (he := he) (hpl := hpl)
end
end L3
/-! L3O: x, y = e, [..] where y is an own list -/
namespace L3
open PySem PySem.Spec PyProof.Rows L2 PySem.W
theorem hu65_of {A : Around} {k : Nat} (hr : Room k A) : A.units + 65 < cLine := by have := hr.un; omega
section
variable {X : Cx} {W : WX} {pos : Pos} {a b e : Expr} {ta tb te tg : E3}
def tMix23 (i j : Nat) (ta tg : E3) : S3 := fun E ρ => ta ρ (fun d ρ1 => tg ρ1 (fun d' ρ2 => (j ≠ 0 ∧ j < ρ2.sl.length) ∧ E.nx ((ρ2.put i (.val d)).put j (.own d'))) E.xc) E.xc
theorem smix2 {i j : Nat} {x y : Str} {px py pt : Pos} {kt k2 pt2} (hc : X.calm = true) (hN : X.N.Nodup) (hi : X.N[i]? = some x) (hj : X.N[j]? = some y) (hij : i ≠ j)
    (hx : X.env.scope.names.lookup x = some .local) (hy : X.env.scope.names.lookup y = some .local) (h1 : P3 X W a ta) (h2 : P3F X W b tg)
    (hw : swappedStores [.Tuple [.Name x px, .Name y py] kt pt] (.Tuple [a, b] k2 pt2) X.env = pure (some [x, y]))
    (hs : swapsWithSole [.Tuple [.Name x px, .Name y py] kt pt] (.Tuple [a, b] k2 pt2) pos.line X.env = pure false := by rfl)
    (e1 : starEach [a, b] X.env = (false, eval a X.env) :: starEach [b] X.env := by rfl) (e2 : starEach [b] X.env = (false, eval b X.env) :: starEach [] X.env := by rfl) :
    P3S X W (.Assign [.Tuple [.Name x px, .Name y py] kt pt] (.Tuple [a, b] k2 pt2) pos) (tMix23 i j ta tg) := by
  refine ⟨PS.imp (ps_par hc hN hi hj hij hx hy (pa_cons h1.run (pa_cons h2.run pa_nil e2) e1) hw hs) fun D σ H ⟨G, ρ, H0, E, R, h, L⟩ => ?_, fun E E' ρ l h => h1.mon _ _ _ _ _ (fun d ρ1 q => h2.mon _ _ _ _ _ (fun d' ρ2 q => mon_and (l.nx _) q) l.xc q) l.xc h⟩
  refine ⟨G, ρ, H0, R, h1.mon _ _ _ _ _ (fun d ρ1 q v H1 H01 s1 R1 r1 => ?_) (fun x ρ' q => L.kx q) h⟩
  refine ⟨G, ρ1, H01, R1, h2.mon _ _ _ _ _ (fun d' ρ2 q l' H2 H02 s2 R2 f' => ?_) (fun x ρ' q => ?_) q⟩
  · have R3 := R2.setv (i := i) (r1.mono s2)
    refine ⟨_, _, rfl, L.nx _ _ H2 H02 (s1.trans s2) (R3.putOwn (i := j) f'.own f'.h0 f'.hf f'.pn (fun m hm => ?_) ⟨q.1.1, by show j < (ρ2.sl.set i _).length; rw [List.length_set]; exact q.1.2⟩) q.2⟩
    obtain ⟨⟨dm, hm1⟩, hm2⟩ := hm
    by_cases hmi : m = i
    · subst hmi
      by_cases hlt : m < ρ2.sl.length
      · have hm1 : (ρ2.sl.set m (.val d))[m]? = some (.own dm) := hm1
        rw [List.getElem?_set_self hlt] at hm1
        cases hm1
      · have hm1 : (ρ2.sl.set m (.val d))[m]? = some (.own dm) := hm1
        rw [List.getElem?_eq_none_iff.mpr (by rw [List.length_set]; omega)] at hm1
        cases hm1
    · have hm1 : (ρ2.sl.set i (.val d))[m]? = some (.own dm) := hm1
      rw [List.getElem?_set_ne (Ne.symm hmi)] at hm1 hm2
      exact f'.no m ⟨⟨dm, hm1⟩, hm2⟩
  · intro cls dx H' H0' s R' r
    exact L.xc x ρ' σ cls dx H' H0' (s1.trans s) R' r q
end
end L3
/-! k18: what the defs promise -/
namespace K18
open PySem PySem.Spec PyProof.Rows L2 L3
abbrev Pt := Int × List Int
def intsD (ns : List Int) : List D := ns.map D.int
def ptD (p : Pt) : D := .tup [.int p.1, .tup (p.2.map D.int)]
def gcdI (p n : Int) : Int := ((Nat.gcd p.natAbs n.natAbs : Nat) : Int)
def absI (q : Int) : Int := if q < 0 then -q else q
def gcdL (q : Int) (ns : List Int) : Int := ns.foldl gcdI (absI q)
def partL (q : Int) (ns : List Int) : Int := if q < 0 then 0 - gcdL q ns else gcdL q ns
def low (q : Int) (ns : List Int) : Pt := (q.fdiv (partL q ns), ns.map fun n => n.fdiv (partL q ns))
def seqD (d : D) (xs : List D) : Prop := d = .lst xs ∨ d = .tup xs
def s_lowest : Sp3 := fun ds T k => ∃ q d ns, ds = [.int q, d] ∧ seqD d (ns.map D.int) ∧ q ≠ 0 ∧ Bd 1900 q ∧ ns.length ≤ 1000 ∧ k (ptD (low q ns)) T
theorem m_s_lowest : mon3 s_lowest := fun ds T k k' f ⟨q, d, ns, h1, h2, h3, h4, h5, h6⟩ => ⟨q, d, ns, h1, h2, h3, h4, h5, f _ _ h6⟩
def s__law_lowest : Sp3 := s_lowest
theorem m_s__law_lowest : mon3 s__law_lowest := m_s_lowest
theorem absI_pos {q : Int} (h : q ≠ 0) : 0 < absI q := by unfold absI; split <;> omega
theorem absI_nat (q : Int) : (absI q).natAbs = q.natAbs := by unfold absI; split <;> omega
theorem absI_eq (q : Int) : absI q = (q.natAbs : Int) := by unfold absI; split <;> omega
theorem gcdI_pos {p n : Int} (h : 0 < p) : 0 < gcdI p n := by
  unfold gcdI
  have : 0 < Nat.gcd p.natAbs n.natAbs := Nat.gcd_pos_of_pos_left _ (by omega)
  omega
theorem gcdI_le {p n : Int} (h : 0 < p) : gcdI p n ≤ p := by
  unfold gcdI
  have : Nat.gcd p.natAbs n.natAbs ≤ p.natAbs := Nat.gcd_le_left _ (by omega)
  omega
theorem foldG_pos : ∀ (ns : List Int) {p : Int}, 0 < p → 0 < ns.foldl gcdI p ∧ ns.foldl gcdI p ≤ p
  | [], p, h => ⟨h, Int.le_refl _⟩
  | n :: r, p, h => by
    have := foldG_pos r (gcdI_pos (n := n) h)
    have := gcdI_le (n := n) h
    show 0 < r.foldl gcdI (gcdI p n) ∧ r.foldl gcdI (gcdI p n) ≤ p
    omega
theorem gcdL_pos {q : Int} {ns : List Int} (h : q ≠ 0) : 0 < gcdL q ns ∧ gcdL q ns ≤ absI q := foldG_pos ns (absI_pos h)
theorem partL_bd {q : Int} {ns : List Int} (h : q ≠ 0) : partL q ns ≠ 0 ∧ (partL q ns).natAbs ≤ q.natAbs := by
  have := gcdL_pos (ns := ns) h
  have := absI_nat q
  unfold partL
  split <;> omega
theorem partL_log {q : Int} {ns : List Int} (h : q ≠ 0) (b : Bd 1900 q) : partL q ns ≠ 0 ∧ (partL q ns).natAbs.log2 < 9000 := by
  have := partL_bd (ns := ns) h
  exact ⟨this.1, Nat.lt_of_lt_of_le ((b.of_le this.2).log (by decide)) (by decide)⟩
def dot (cs ns : List Int) : Int := (List.zipWith (fun c n => c * n) cs ns).sum
def s_value : Sp3 := fun ds T k => ∃ pl p : Pt, ds = [ptD pl, ptD p] ∧ Bd 1000 pl.1 ∧ Bd 1000 p.1 ∧ (∀ c ∈ pl.2, Bd 1000 c) ∧ (∀ c ∈ p.2, Bd 1000 c) ∧ p.2.length ≤ 1000 ∧ k (.int (pl.1 * p.1 + dot pl.2 p.2)) T
theorem m_s_value : mon3 s_value := fun ds T k k' f ⟨a, b, h1, h2, h3, h4, h5, h6, h7⟩ => ⟨a, b, h1, h2, h3, h4, h5, h6, f _ _ h7⟩
def s__law_value : Sp3 := s_value
theorem m_s__law_value : mon3 s__law_value := m_s_value
/-- points: above 0, small, all of m numbers -/
structure Pts (m : Nat) (pts : List Pt) : Prop where
  pos : ∀ p ∈ pts, 0 < p.1
  bq : ∀ p ∈ pts, Bd 14 p.1
  bn : ∀ p ∈ pts, ∀ n ∈ p.2, Bd 14 n
  dim : ∀ p ∈ pts, p.2.length = m
  few : pts.length ≤ 130
/-- a common multiple -/
structure Mul (W : Int) (pts : List Pt) : Prop where
  pos : 0 < W
  dvd : ∀ p ∈ pts, p.1 ∣ W
  bd : Bd (1 + 14 * pts.length) W
def s_whole_of : Sp3 := fun ds T k => ∃ d pts m, ds = [d] ∧ seqD d (pts.map ptD) ∧ Pts m pts ∧ ∀ W, Mul W pts → k (.int W) T
theorem m_s_whole_of : mon3 s_whole_of := fun ds T k k' f ⟨d, p, m, h1, h2, h3, h4⟩ => ⟨d, p, m, h1, h2, h3, fun W q => f _ _ (h4 W q)⟩
/-- in lowest terms -/
def Low (p : Pt) : Prop := gcdL p.1 p.2 = 1
/-- p stands before p' -/
def lt2 (p p' : Pt) : Prop := (p.2.map fun n => n * p'.1) < (p'.2.map fun n => n * p.1)
/-- all points, each once, ascending -/
structure Ord (pts R : List Pt) : Prop where
  mem : ∀ p, p ∈ R ↔ p ∈ pts
  asc : R.Pairwise lt2
def s_in_order : Sp3 := fun ds T k => ∃ d pts m, ds = [d] ∧ seqD d (pts.map ptD) ∧ Pts m pts ∧ 0 < m ∧ m ≤ 1000 ∧ (∀ p ∈ pts, Low p) ∧ ∀ R, Ord pts R → k (.lst (R.map ptD)) T
theorem m_s_in_order : mon3 s_in_order := fun ds T k k' f ⟨d, p, m, h1, h2, h3, h4, h5, h6, h7⟩ => ⟨d, p, m, h1, h2, h3, h4, h5, h6, fun W q => f _ _ (h7 W q)⟩
def s__law_by_order : Sp3 := s_in_order
theorem m_s__law_by_order : mon3 s__law_by_order := m_s_in_order
def scaled (W : Int) (p : Pt) : List Int := p.2.map fun n => n * (W.fdiv p.1)
/-- the sums of the rows, place by place -/
def cols (m : Nat) (rows : List (List Int)) : List Int := (List.range m).map fun j => (rows.map fun r => r.getD j 0).sum
def s_middle : Sp3 := fun ds T k => ∃ d pts m, ds = [d] ∧ seqD d (pts.map ptD) ∧ Pts m pts ∧ m ≤ 1000 ∧ pts ≠ [] ∧ ∀ W, Mul W pts → k (ptD (low (W * pts.length) (cols m (pts.map (scaled W))))) T
theorem m_s_middle : mon3 s_middle := fun ds T k k' f ⟨d, p, m, h1, h2, h3, h4, h5, h6⟩ => ⟨d, p, m, h1, h2, h3, h4, h5, fun W q => f _ _ (h6 W q)⟩
/-! ### drawing -/
def Drawn (many r : Int) : Prop := (many < 2 → r = 0) ∧ (2 ≤ many → 0 ≤ r ∧ r < many)
def s__law_draw : Sp3 := fun ds T k => ∃ many, ds = [.pen, .int many] ∧ T ≤ 1000000 ∧ many.natAbs.log2 < 9000 ∧ ∀ r T', T' ≤ T + 1 → Drawn many r → k (.int r) T'
theorem m_s__law_draw : mon3 s__law_draw := fun ds T k k' f ⟨many, h1, h2, h3, h4⟩ => ⟨many, h1, h2, h3, fun r T' a b => f _ _ (h4 r T' a b)⟩
def s__law_pick : Sp3 := fun ds T k => ∃ xs, ds = [.pen, .lst xs] ∧ T ≤ 1000000 ∧ xs ≠ [] ∧ xs.length ≤ 1000 ∧ ∀ x ∈ xs, ∀ T', T' ≤ T + 1 → k x T'
theorem m_s__law_pick : mon3 s__law_pick := fun ds T k k' f ⟨xs, h1, h2, h3, h4, h5⟩ => ⟨xs, h1, h2, h3, h4, fun x hx T' a => f _ _ (h5 x hx T' a)⟩
def s__law_mixed : Sp3 := fun ds T k => ∃ d xs, ds = [.pen, d] ∧ seqD d xs ∧ T + xs.length ≤ 1000000 ∧ xs.length ≤ 1000 ∧ ∀ ys, ys.Perm xs → ∀ T', T' ≤ T + xs.length → k (.lst ys) T'
theorem m_s__law_mixed : mon3 s__law_mixed := fun ds T k k' f ⟨d, xs, h1, h2, h3, h4, h5⟩ => ⟨d, xs, h1, h2, h3, h4, fun x hx T' a => f _ _ (h5 x hx T' a)⟩
def s__law_gcd : Sp3 := fun ds T k => ∃ a b, ds = [.int a, .int b] ∧ Bd 1900 a ∧ k (.int (gcdI a b)) T
theorem m_s__law_gcd : mon3 s__law_gcd := fun ds T k k' f ⟨a, b, h1, h2, h3⟩ => ⟨a, b, h1, h2, f _ _ h3⟩
/-! ### regions of planes -/
abbrev Gt := Geo.T3
def ePt (m : Nat) (a : Gt) : Pt := (a.q, if m = 1 then [a.x] else [a.x, a.y])
def eD (m : Nat) (a : Gt) : D := ptD (ePt m a)
def Flat (m : Nat) (a : Gt) : Prop := m = 2 ∨ (m = 1 ∧ a.y = 0)
def sub (a b : Gt) : Gt := ⟨a.q - b.q, a.x - b.x, a.y - b.y⟩
structure Cor (m : Nat) (a : Gt) : Prop where
  low : Geo.Low a
  wee : Geo.Wee a
  flat : Flat m a
structure Pln (m : Nat) (p : Gt) : Prop where
  box : Geo.Box p
  flat : Flat m p
def Sml (m : Nat) (p : Gt) : Prop := p.q.natAbs ≤ 100 ∧ p.x.natAbs ≤ 4 ∧ p.y.natAbs ≤ 4 ∧ Flat m p
def Dim (m : Nat) : Prop := m = 1 ∨ m = 2
def X1 (m : Nat) : List Gt := if m = 1 then [⟨0, 0, 1⟩, ⟨0, 0, -1⟩] else []
structure Base (m : Nat) (S L : List Gt) : Prop where
  rep : Geo.Rep S L
  box : ∀ s ∈ S, Geo.Box s
  x1 : ∀ s ∈ X1 m, s ∈ S
def s_lesser : Sp3 := fun ds T k => ∃ m a b, ds = [eD m a, eD m b] ∧ Dim m ∧ k (eD m (sub a b)) T
theorem m_s_lesser : mon3 s_lesser := fun ds T k k' f ⟨m, a, b, h1, h2, h3⟩ => ⟨m, a, b, h1, h2, f _ _ h3⟩
def s_between : Sp3 := fun ds T k => ∃ m c i d j, ds = [eD m c, .int i, eD m d, .int j] ∧ Dim m ∧ Cor m c ∧ Cor m d ∧ Bd 100 i ∧ Bd 100 j ∧ j * c.q - i * d.q ≠ 0 ∧ k (eD m (Geo.lowT ⟨j * c.q - i * d.q, j * c.x - i * d.x, j * c.y - i * d.y⟩)) T
theorem m_s_between : mon3 s_between := fun ds T k k' f ⟨m, c, i, d, j, h1, h2, h3, h4, h5, h6, h7, h8⟩ => ⟨m, c, i, d, j, h1, h2, h3, h4, h5, h6, h7, f _ _ h8⟩
def s_tidy : Sp3 := fun ds T k => ∃ m, ∃ L : List Gt, ∃ d, ds = [d] ∧ seqD d (L.map (eD m)) ∧ Dim m ∧ (∀ c ∈ L, Cor m c) ∧ L.length ≤ 100 ∧ ∀ r, Geo.Tidy L r → k (.tup (r.map (eD m))) T
theorem m_s_tidy : mon3 s_tidy := fun ds T k k' f ⟨m, L, d, h1, h2, h3, h4, h5, h6⟩ => ⟨m, L, d, h1, h2, h3, h4, h5, fun r t => f _ _ (h6 r t)⟩
def s_cut : Sp3 := fun ds T k => ∃ m, ∃ L : List Gt, ∃ p, ds = [.tup (L.map (eD m)), eD m p] ∧ Dim m ∧ (∀ c ∈ L, Cor m c) ∧ Pln m p ∧ L.length ≤ 40 ∧ (∀ x ∈ Geo.found Geo.mt p L, Cor m x) ∧ ∀ r, Geo.Tidy (Geo.found Geo.mt p L) r → k (.tup (r.map (eD m))) T
theorem m_s_cut : mon3 s_cut := fun ds T k k' f ⟨m, L, p, h1, h2, h3, h4, h5, h6, h7⟩ => ⟨m, L, p, h1, h2, h3, h4, h5, h6, fun r t => f _ _ (h7 r t)⟩
def s_cut_by : Sp3 := fun ds T k => ∃ m, ∃ S L ps : List Gt, ∃ d, ds = [.tup (L.map (eD m)), d] ∧ seqD d (ps.map (eD m)) ∧ Dim m ∧ Base m S L ∧ (∀ p ∈ ps, Pln m p) ∧ L.length + ps.length ≤ 30 ∧ ∀ r, Geo.Rep (S ++ ps) r → r.length ≤ max 3 L.length + ps.length → k (.tup (r.map (eD m))) T
theorem m_s_cut_by : mon3 s_cut_by := fun ds T k k' f ⟨m, S, L, ps, d, h1, h2, h3, h4, h5, h6, h7⟩ => ⟨m, S, L, ps, d, h1, h2, h3, h4, h5, h6, fun r t u => f _ _ (h7 r t u)⟩
def s_region : Sp3 := fun ds T k => ∃ m, ∃ S L ps : List Gt, ∃ d, ∃ i : Nat, ∃ pa, ds = [.tup (L.map (eD m)), d, .int i] ∧ seqD d (ps.map (eD m)) ∧ Dim m ∧ Base m S L ∧ (∀ p ∈ ps, Sml m p) ∧ ps[i]? = some pa ∧ L.length + ps.length ≤ 30 ∧
  ∀ r, Geo.Rep (S ++ ps.map (sub · pa)) r → r.length ≤ max 3 L.length + ps.length → k (.tup (r.map (eD m))) T
theorem m_s_region : mon3 s_region := fun ds T k k' f ⟨m, S, L, ps, d, i, pa, h1, h2, h3, h4, h5, h6, h7, h8⟩ => ⟨m, S, L, ps, d, i, pa, h1, h2, h3, h4, h5, h6, h7, fun r t u => f _ _ (h8 r t u)⟩
/-! the window -/
def opD (o : Int × Int) : D := .tup [.tup [.str "load", .str "f"], .int o.1, .int o.2]
def Op (o : Int × Int) : Prop := o.1 < o.2 ∧ o.1.natAbs ≤ 19 ∧ o.2.natAbs ≤ 19
def edges : List (Int × Int) → List Gt
  | [a] => [⟨a.1, -1, 0⟩, ⟨-a.2, 1, 0⟩]
  | [a, b] => [⟨a.1, -1, 0⟩, ⟨-a.2, 1, 0⟩, ⟨b.1, 0, -1⟩, ⟨-b.2, 0, 1⟩]
  | _ => []
structure Seat (ops : List (Int × Int)) (P : Gt) : Prop where
  low : Geo.Low P
  flat : Flat ops.length P
  few : P.q ≤ 7
  wx : P.x.natAbs ≤ 133
  wy : P.y.natAbs ≤ 133
  sat : ∀ s ∈ edges ops, Geo.val s P ≤ 0
def s__law_drawn_setting : Sp3 := fun ds T k => ∃ ops, ds = [.pen, .lst (ops.map opD)] ∧ Dim ops.length ∧ (∀ o ∈ ops, Op o) ∧ T ≤ 999000 ∧ ∀ P T', T' ≤ T + 3 → Seat ops P → k (eD ops.length P) T'
theorem m_s__law_drawn_setting : mon3 s__law_drawn_setting := fun ds T k k' f ⟨ops, h1, h2, h3, h4, h5⟩ => ⟨ops, h1, h2, h3, h4, fun P T' a b => f _ _ (h5 P T' a b)⟩
def s__law_edges_of : Sp3 := fun ds T k => ∃ ops, ds = [.lst (ops.map opD)] ∧ Dim ops.length ∧ k (.lst ((edges ops).map (eD ops.length))) T
theorem m_s__law_edges_of : mon3 s__law_edges_of := fun ds T k k' f ⟨ops, h1, h2, h3⟩ => ⟨ops, h1, h2, f _ _ h3⟩
def metD (s t : Gt) : D := if Geo.cross s t = 0 then .non else eD 2 (Geo.lowT (Geo.crs s t))
def s__law_met : Sp3 := fun ds T k => ∃ s t, ds = [eD 2 s, eD 2 t] ∧ Geo.Box s ∧ Geo.Box t ∧ k (metD s t) T
theorem m_s__law_met : mon3 s__law_met := fun ds T k k' f ⟨s, t, h1, h2, h3, h4⟩ => ⟨s, t, h1, h2, h3, f _ _ h4⟩
def s__law_turn : Sp3 := fun ds T k => ∃ a b c, ds = [eD 2 a, eD 2 b, eD 2 c] ∧ Geo.Wee a ∧ Geo.Wee b ∧ Geo.Wee c ∧ k (.int (Geo.det a b c)) T
theorem m_s__law_turn : mon3 s__law_turn := fun ds T k k' f ⟨a, b, c, h1, h2, h3, h4, h5⟩ => ⟨a, b, c, h1, h2, h3, h4, f _ _ h5⟩
def pairsD (n : Nat) : List D := ((List.range n).map fun i => (List.range i).map fun j => D.tup [.int (i : Nat), .int (j : Nat)]).flatten
def s__law_pairs : Sp3 := fun ds T k => ∃ n : Nat, ds = [.int n] ∧ 1 ≤ n ∧ n ≤ 40 ∧ k (.lst (pairsD n)) T
theorem m_s__law_pairs : mon3 s__law_pairs := fun ds T k k' f ⟨n, h1, h2, h3, h4⟩ => ⟨n, h1, h2, h3, f _ _ h4⟩
def s__law_corners : Sp3 := fun ds T k => ∃ m, ∃ S0 L : List Gt, ds = [.lst (S0.map (eD m)), .int (m : Nat)] ∧ Dim m ∧ (∀ s ∈ S0, Pln m s) ∧ 1 ≤ S0.length ∧ S0.length ≤ 16 ∧ Geo.Rep (X1 m ++ S0) L ∧ k (.tup (L.map (eD m))) T
theorem m_s__law_corners : mon3 s__law_corners := fun ds T k k' f ⟨m, S, L, h1, h2, h3, h4, h5, h6, h7⟩ => ⟨m, S, L, h1, h2, h3, h4, h5, h6, f _ _ h7⟩
end K18
namespace K18
open PySem PySem.Spec PyProof.Rows L2 L3
def top (i : Nat) : Stmt := PySem.Challenge.pw_termmaps_k18_regions_of_planes.main.body.getD i (.Pass ⟨0, 0, 0, 0⟩)
structure Txt (mg : Str → Option Value) : Prop where
  abs : mg "abs" = none
  enumerate : mg "enumerate" = none
  gcd : mg "gcd" = some (.builtin "math.gcd")
  int : mg "int" = none
  len : mg "len" = none
  list : mg "list" = none
  max : mg "max" = none
  range : mg "range" = none
  sorted : mg "sorted" = none
  sum : mg "sum" = none
  tuple : mg "tuple" = none
  zip : mg "zip" = none
section
variable {P : Program} {w : World} {K : PySem.W.Frag} {mg : Str → Option Value} {base : Heap}
/-! ### lowest -/
abbrev n_lowest : List Str := ["q", "numbers", "part", "number"]
theorem sc_lowest : FnScope n_lowest ["q", "numbers"] (defScope (top 2)) := ⟨rfl, rfl, rfl, by decide +kernel, rfl, by decide +kernel, by decide +kernel⟩
def t_lowest : S3 := (tSeq3 (tAsg3 (tCB3 gAbs (tCons3 (tVar3 0) tNil3)) (gName3 2))
  (tSeq3 (tFor3 (iSeq3 (tVar3 1)) (gName3 3) (tAsg3 (tCB3 gGcd (tCons3 (tVar3 2) (tCons3 (tVar3 3) tNil3))) (gName3 2)))
  (tSeq3 (tIfS3 (tB3 (b3 gLt (tVar3 0) (tC3 (.int 0)))) (tAsg3 (b3 gSub (tC3 (.int 0)) (tVar3 2)) (gName3 2)) tNext3)
  (tRet3 (tTup3 (tCons3 (b3 gDiv (tVar3 0) (tVar3 2)) (tCons3 (tCB3 gTuple (tCons3 (tLc3 (iSeq3 (tVar3 1)) (gName3 3) tYes3 (b3 gDiv (tVar3 3) (tVar3 2)) [3]) tNil3)) tNil3)))))))
theorem ok_lowest  {f : Addr} {fd : FuncData} {s3 : Sp3} (F : Fun K "lowest" "lowest" (top 2) f fd) (T : Txt mg)
    (hs : ∀ ds TT kk, ds.length = 2 → s3 ds TT kk → t_lowest { nx := fun ρ => kk .non ρ.T, rt := fun d ρ => kk d ρ.T } ⟨ds.map .val ++ List.replicate 2 .un, TT⟩) : FnOk P w K mg base CX0 1 f fd ["q", "numbers"] (spL 2 s3) :=
  fn3 (k := 0) F sc_lowest rfl rfl (fun cdv A outer s H E hr =>
  have hu64 := hu64_of hr
  have hu65 := hu65_of hr
  have hu1 := hu_of hr
  (scons (sasg (abs3 (by rfl) T.abs (v3 0)) (gn3 2 sc_lowest.nd))
  (scons (sfor PassesOwn.never (by rfl) (iseq (v3 1)) (gn3 3 sc_lowest.nd)
    (sone (sasg (gcd3 (by rfl) T.gcd (v3 2) (v3 3)) (gn3 2 sc_lowest.nd))))
  (scons (sif (ltT3 (v3 0) int3)
    (sone (sasg (sub3 int3 (v3 2)) (gn3 2 sc_lowest.nd)))
    snil)
  (sone (sret (tup3 (acons (div3 (v3 0) (v3 2)) (acons (tuple3 (by rfl) T.tuple (lc3 (own := [("number", 3)]) (by rfl) sc_lowest.nd (iseq (v3 1)) (blkOk_by (own := [("number", 3)]) (N := n_lowest) (sc := defScope (top 2)) (by decide +kernel)) (fun _ _ _ _ _ => (gn3 3 sc_lowest.nd)) (fun _ _ _ _ _ => tsnil) (fun _ _ _ _ _ => (div3 (v3 3) (v3 2))))) anil))))))))) hs
/-! ### value -/
abbrev n_value : List Str := ["plane", "point", "count", "number"]
theorem sc_value : FnScope n_value ["plane", "point"] (defScope (top 3)) := ⟨rfl, rfl, rfl, by decide +kernel, rfl, by decide +kernel, by decide +kernel⟩
def t_value : S3 := (tRet3 (b3 gAdd (b3 gMul (b3 gIx (tVar3 0) (tC3 (.int 0))) (b3 gIx (tVar3 1) (tC3 (.int 0)))) (tCB3 gSum (tCons3 (tLc3 (iZip3 (b3 gIx (tVar3 0) (tC3 (.int 1))) (b3 gIx (tVar3 1) (tC3 (.int 1)))) (gTup3 2 (gCons3 (gName3 2) (gCons3 (gName3 3) gNil3))) tYes3 (b3 gMul (tVar3 2) (tVar3 3)) [2, 3]) tNil3))))
theorem ok_value  {f : Addr} {fd : FuncData} {s3 : Sp3} (F : Fun K "value" "value" (top 3) f fd) (T : Txt mg)
    (hs : ∀ ds TT kk, ds.length = 2 → s3 ds TT kk → t_value { nx := fun ρ => kk .non ρ.T, rt := fun d ρ => kk d ρ.T } ⟨ds.map .val ++ List.replicate 2 .un, TT⟩) : FnOk P w K mg base CX0 1 f fd ["plane", "point"] (spL 2 s3) :=
  fn3 (k := 0) F sc_value rfl rfl (fun cdv A outer s H E hr =>
  have hu64 := hu64_of hr
  have hu65 := hu65_of hr
  have hu1 := hu_of hr
  (sone (sret (add3 (mul3 (ix3 (v3 0) int3) (ix3 (v3 1) int3)) (sum3 (by rfl) (by rfl) T.sum (lc3 (own := [("count", 2), ("number", 3)]) (by rfl) sc_value.nd (izip (by rfl) T.zip (ix3 (v3 0) int3) (ix3 (v3 1) int3)) (blkOk_by (own := [("count", 2), ("number", 3)]) (N := n_value) (sc := defScope (top 3)) (by decide +kernel)) (fun _ _ _ _ _ => (gtup3 (by rfl) (gcons3 (gn3 2 sc_value.nd) (gcons3 (gn3 3 sc_value.nd) gnil3)))) (fun _ _ _ _ _ => tsnil) (fun _ _ _ _ _ => (mul3 (v3 2) (v3 3))))))))) hs
/-! ### lesser -/
abbrev n_lesser : List Str := ["one", "other", "count", "its"]
theorem sc_lesser : FnScope n_lesser ["one", "other"] (defScope (top 4)) := ⟨rfl, rfl, rfl, by decide +kernel, rfl, by decide +kernel, by decide +kernel⟩
def t_lesser : S3 := (tRet3 (tTup3 (tCons3 (b3 gSub (b3 gIx (tVar3 0) (tC3 (.int 0))) (b3 gIx (tVar3 1) (tC3 (.int 0)))) (tCons3 (tCB3 gTuple (tCons3 (tLc3 (iZip3 (b3 gIx (tVar3 0) (tC3 (.int 1))) (b3 gIx (tVar3 1) (tC3 (.int 1)))) (gTup3 2 (gCons3 (gName3 2) (gCons3 (gName3 3) gNil3))) tYes3 (b3 gSub (tVar3 2) (tVar3 3)) [2, 3]) tNil3)) tNil3))))
theorem ok_lesser  {f : Addr} {fd : FuncData} {s3 : Sp3} (F : Fun K "lesser" "lesser" (top 4) f fd) (T : Txt mg)
    (hs : ∀ ds TT kk, ds.length = 2 → s3 ds TT kk → t_lesser { nx := fun ρ => kk .non ρ.T, rt := fun d ρ => kk d ρ.T } ⟨ds.map .val ++ List.replicate 2 .un, TT⟩) : FnOk P w K mg base CX0 1 f fd ["one", "other"] (spL 2 s3) :=
  fn3 (k := 0) F sc_lesser rfl rfl (fun cdv A outer s H E hr =>
  have hu64 := hu64_of hr
  have hu65 := hu65_of hr
  have hu1 := hu_of hr
  (sone (sret (tup3 (acons (sub3 (ix3 (v3 0) int3) (ix3 (v3 1) int3)) (acons (tuple3 (by rfl) T.tuple (lc3 (own := [("count", 2), ("its", 3)]) (by rfl) sc_lesser.nd (izip (by rfl) T.zip (ix3 (v3 0) int3) (ix3 (v3 1) int3)) (blkOk_by (own := [("count", 2), ("its", 3)]) (N := n_lesser) (sc := defScope (top 4)) (by decide +kernel)) (fun _ _ _ _ _ => (gtup3 (by rfl) (gcons3 (gn3 2 sc_lesser.nd) (gcons3 (gn3 3 sc_lesser.nd) gnil3)))) (fun _ _ _ _ _ => tsnil) (fun _ _ _ _ _ => (sub3 (v3 2) (v3 3))))) anil)))))) hs
/-! ### between -/
abbrev n_between : List Str := ["one", "its", "other", "theirs", "numbers", "number", "far"]
theorem sc_between : FnScope n_between ["one", "its", "other", "theirs"] (defScope (top 5)) := ⟨rfl, rfl, rfl, by decide +kernel, rfl, by decide +kernel, by decide +kernel⟩
def t_between : S3 := (tSeq3 (tAsg3 (tLc3 (iZip3 (b3 gIx (tVar3 0) (tC3 (.int 1))) (b3 gIx (tVar3 2) (tC3 (.int 1)))) (gTup3 2 (gCons3 (gName3 5) (gCons3 (gName3 6) gNil3))) tYes3 (b3 gSub (b3 gMul (tVar3 3) (tVar3 5)) (b3 gMul (tVar3 1) (tVar3 6))) [5, 6]) (gName3 4))
  (tRet3 (tFn3 2 s_lowest (tCons3 (b3 gSub (b3 gMul (tVar3 3) (b3 gIx (tVar3 0) (tC3 (.int 0)))) (b3 gMul (tVar3 1) (b3 gIx (tVar3 2) (tC3 (.int 0))))) (tCons3 (tVar3 4) tNil3)))))
theorem ok_between {f_lowest : Addr} {fd_lowest : FuncData} (G_lowest : Has P w K mg base 1 "lowest" ["q", "numbers"] 2 s_lowest (top 2) f_lowest fd_lowest) {f : Addr} {fd : FuncData} {s3 : Sp3} (F : Fun K "between" "between" (top 5) f fd) (T : Txt mg)
    (hs : ∀ ds TT kk, ds.length = 4 → s3 ds TT kk → t_between { nx := fun ρ => kk .non ρ.T, rt := fun d ρ => kk d ρ.T } ⟨ds.map .val ++ List.replicate 3 .un, TT⟩) : FnOk P w K mg base CX0 2 f fd ["one", "its", "other", "theirs"] (spL 4 s3) :=
  fn3 (k := 1) F sc_between rfl rfl (fun cdv A outer s H E hr =>
  have hu64 := hu64_of hr
  have hu65 := hu65_of hr
  have hu1 := hu_of hr
  (scons (ssetLc (i := 4) (own := [("number", 5), ("far", 6)]) (by rfl) sc_between.nd (by rfl) (by rfl) (sw_true rfl rfl rfl (by decide +kernel)) (izip (by rfl) T.zip (ix3 (v3 0) int3) (ix3 (v3 2) int3)) (blkOk_by (own := [("number", 5), ("far", 6)]) (N := n_between) (sc := defScope (top 5)) (by decide +kernel)) (fun _ _ _ _ _ => (gtup3 (by rfl) (gcons3 (gn3 5 sc_between.nd) (gcons3 (gn3 6 sc_between.nd) gnil3)))) (fun _ _ _ _ _ => tsnil) (fun _ _ _ _ _ => (sub3 (mul3 (v3 3) (v3 5)) (mul3 (v3 1) (v3 6)))))
  (sone (sret (call3 m_s_lowest (G_lowest.ok.mono (by decide)) hr (by rfl) G_lowest.mg G_lowest.kp G_lowest.bd (acons (sub3 (mul3 (v3 3) (ix3 (v3 0) int3)) (mul3 (v3 1) (ix3 (v3 2) int3))) (acons (v3 4) anil))))))) hs
/-! ### whole_of -/
abbrev n_whole_of : List Str := ["points", "found", "point"]
theorem sc_whole_of : FnScope n_whole_of ["points"] (defScope (top 6)) := ⟨rfl, rfl, rfl, by decide +kernel, rfl, by decide +kernel, by decide +kernel⟩
def t_whole_of : S3 := (tSeq3 (tAsg3 (tC3 (.int 1)) (gName3 1))
  (tSeq3 (tFor3 (iSeq3 (tVar3 0)) (gName3 2) (tAsg3 (b3 gDiv (b3 gMul (tVar3 1) (b3 gIx (tVar3 2) (tC3 (.int 0)))) (tCB3 gGcd (tCons3 (tVar3 1) (tCons3 (b3 gIx (tVar3 2) (tC3 (.int 0))) tNil3)))) (gName3 1)))
  (tRet3 (tVar3 1))))
theorem ok_whole_of  {f : Addr} {fd : FuncData} {s3 : Sp3} (F : Fun K "whole_of" "whole_of" (top 6) f fd) (T : Txt mg)
    (hs : ∀ ds TT kk, ds.length = 1 → s3 ds TT kk → t_whole_of { nx := fun ρ => kk .non ρ.T, rt := fun d ρ => kk d ρ.T } ⟨ds.map .val ++ List.replicate 2 .un, TT⟩) : FnOk P w K mg base CX0 1 f fd ["points"] (spL 1 s3) :=
  fn3 (k := 0) F sc_whole_of rfl rfl (fun cdv A outer s H E hr =>
  have hu64 := hu64_of hr
  have hu65 := hu65_of hr
  have hu1 := hu_of hr
  (scons (sasg int3 (gn3 1 sc_whole_of.nd))
  (scons (sfor PassesOwn.never (by rfl) (iseq (v3 0)) (gn3 2 sc_whole_of.nd)
    (sone (sasg (div3 (mul3 (v3 1) (ix3 (v3 2) int3)) (gcd3 (by rfl) T.gcd (v3 1) (ix3 (v3 2) int3))) (gn3 1 sc_whole_of.nd))))
  (sone (sret (v3 1)))))) hs
/-! ### in_order -/
abbrev n_in_order : List Str := ["points", "whole", "keys", "number", "point", "key"]
theorem sc_in_order : FnScope n_in_order ["points"] (defScope (top 7)) := ⟨rfl, rfl, rfl, by decide +kernel, rfl, by decide +kernel, by decide +kernel⟩
def t_in_order : S3 := (tSeq3 (tAsg3 (tFn3 1 s_whole_of (tCons3 (tVar3 0) tNil3)) (gName3 1))
  (tSeq3 (tAsg3 (tDc3 (iSeq3 (tVar3 0)) (gName3 4) tYes3 (tCB3 gTuple (tCons3 (tLc3 (iSeq3 (b3 gIx (tVar3 4) (tC3 (.int 1)))) (gName3 3) tYes3 (b3 gMul (tVar3 3) (b3 gDiv (tVar3 1) (b3 gIx (tVar3 4) (tC3 (.int 0))))) [3]) tNil3)) (tVar3 4) [4]) (gName3 2))
  (tRet3 (tLc3 (iSeq3 (tCB3 gSortedT (tCons3 (tVar3 2) tNil3))) (gName3 5) tYes3 (b3 gDG (tVar3 2) (tVar3 5)) [5]))))
theorem ok_in_order {f_whole_of : Addr} {fd_whole_of : FuncData} (G_whole_of : Has P w K mg base 1 "whole_of" ["points"] 1 s_whole_of (top 6) f_whole_of fd_whole_of) {f : Addr} {fd : FuncData} {s3 : Sp3} (F : Fun K "in_order" "in_order" (top 7) f fd) (T : Txt mg)
    (hs : ∀ ds TT kk, ds.length = 1 → s3 ds TT kk → t_in_order { nx := fun ρ => kk .non ρ.T, rt := fun d ρ => kk d ρ.T } ⟨ds.map .val ++ List.replicate 5 .un, TT⟩) : FnOk P w K mg base CX0 2 f fd ["points"] (spL 1 s3) :=
  fn3 (k := 1) F sc_in_order rfl rfl (fun cdv A outer s H E hr =>
  have hu64 := hu64_of hr
  have hu65 := hu65_of hr
  have hu1 := hu_of hr
  (scons (sasg (call3 m_s_whole_of (G_whole_of.ok.mono (by decide)) hr (by rfl) G_whole_of.mg G_whole_of.kp G_whole_of.bd (acons (v3 0) anil)) (gn3 1 sc_in_order.nd))
  (scons (sasg (dc3 (own := [("point", 4)]) hu1 (by rfl) sc_in_order.nd (iseq (v3 0)) (blkOk_by (own := [("point", 4)]) (N := n_in_order) (sc := defScope (top 7)) (by decide +kernel)) (fun _ _ _ _ _ => (gn3 4 sc_in_order.nd)) (fun _ _ _ _ _ => tsnil) (fun _ _ _ _ _ => (tuple3 (by rfl) T.tuple (lc3 (own := [("number", 3)]) (by rfl) sc_in_order.nd (iseq (ix3 (v3 4) int3)) (blkOk_in (own := [("number", 3)]) (N := n_in_order) (sc := { kind := PySem.ScopeKind.function, names := [ (PySem.Str.ofString ".0", PySem.NameKind.local), (PySem.Str.ofString "point", PySem.NameKind.cell), (PySem.Str.ofString "tuple", PySem.NameKind.globalImplicit), (PySem.Str.ofString "whole", PySem.NameKind.free)], isGenerator := false, isCoroutine := false, more := [] : PySem.Scope }) (by decide +kernel)) (fun _ _ _ _ _ => (gn3 3 sc_in_order.nd)) (fun _ _ _ _ _ => tsnil) (fun _ _ _ _ _ => (mul3 (v3 3) (div3 (v3 1) (ix3 (v3 4) int3))))))) (fun _ _ _ _ _ => (v3 4))) (gn3 2 sc_in_order.nd))
  (sone (sret (lc3 (own := [("key", 5)]) (by rfl) sc_in_order.nd (iseq (sortedT3 hu64 (by rfl) (by rfl) T.sorted (v3 2))) (blkOk_by (own := [("key", 5)]) (N := n_in_order) (sc := defScope (top 7)) (by decide +kernel)) (fun _ _ _ _ _ => (gn3 5 sc_in_order.nd)) (fun _ _ _ _ _ => tsnil) (fun _ _ _ _ _ => (dget3 hu1 (v3 2) (v3 5))))))))) hs
/-! ### tidy -/
abbrev n_tidy : List Str := ["corners", "found", "corner", "first"]
theorem sc_tidy : FnScope n_tidy ["corners"] (defScope (top 9)) := ⟨rfl, rfl, rfl, by decide +kernel, rfl, by decide +kernel, by decide +kernel⟩
def t_tidy : S3 := (tSeq3 (tOwn3 1 (tLst3 tNil3))
  (tSeq3 (tFor3 (iSeq3 (tVar3 0)) (gName3 2) (tIfS3 (tNotInO 1 (tVar3 2)) (tAppO 1 (tVar3 2)) tNext3))
  (tSeq3 (tIfS3 (tB3 (b3 gLt (tCB3 gLen (tCons3 (tVar3 1) tNil3)) (tC3 (.int 3)))) (tRet3 (tIf3 (tTru3 (tVar3 1)) (tCB3 gTuple (tCons3 (tFn3 1 s_in_order (tCons3 (tVar3 1) tNil3)) tNil3)) (tTup3 tNil3))) tNext3)
  (tSeq3 (tAsg3 (tIdx3 (tVar3 1) (b3 gIx (tFn3 1 s_in_order (tCons3 (tVar3 1) tNil3)) (tC3 (.int 0)))) (gName3 3))
  (tRet3 (tCB3 gTuple (tCons3 (b3 gAdd (tSl3 (tVar3 1) (tPart3 (tVar3 3)) tNoPart3) (tSl3 (tVar3 1) tNoPart3 (tPart3 (tVar3 3)))) tNil3)))))))
theorem ok_tidy {f_in_order : Addr} {fd_in_order : FuncData} (G_in_order : Has P w K mg base 2 "in_order" ["points"] 1 s_in_order (top 7) f_in_order fd_in_order) {f : Addr} {fd : FuncData} {s3 : Sp3} (F : Fun K "tidy" "tidy" (top 9) f fd) (T : Txt mg)
    (hs : ∀ ds TT kk, ds.length = 1 → s3 ds TT kk → t_tidy { nx := fun ρ => kk .non ρ.T, rt := fun d ρ => kk d ρ.T } ⟨ds.map .val ++ List.replicate 3 .un, TT⟩) : FnOk P w K mg base CX0 3 f fd ["corners"] (spL 1 s3) :=
  fn3 (k := 2) F sc_tidy rfl rfl (fun cdv A outer s H E hr =>
  have hu64 := hu64_of hr
  have hu65 := hu65_of hr
  have hu1 := hu_of hr
  (scons (sown (i := 1) sc_tidy.nd (by rfl) (h1 := (flst anil)))
  (scons (sfor PassesOwn.never (by rfl) (iseq (v3 0)) (gn3 2 sc_tidy.nd)
    (sone (sif (notino3 1 hu65 (v3 2))
    (sone (sapp 1 (v3 2)))
    snil)))
  (scons (sif (ltT3 (len3 (by rfl) T.len (v3 1)) int3)
    (sone (sret (if3 (tru3 (v3 1)) (tuple3 (by rfl) T.tuple (call3 m_s_in_order (G_in_order.ok.mono (by decide)) hr (by rfl) G_in_order.mg G_in_order.kp G_in_order.bd (acons (v3 1) anil))) (tup3 anil))))
    snil)
  (scons (sasg (idx3 hu65 (v3 1) (ix3 (call3 m_s_in_order (G_in_order.ok.mono (by decide)) hr (by rfl) G_in_order.mg G_in_order.kp G_in_order.bd (acons (v3 1) anil)) int3)) (gn3 3 sc_tidy.nd))
  (sone (sret (tuple3 (by rfl) T.tuple (add3 (sl3 (v3 1) (osome (v3 3)) onone) (sl3 (v3 1) onone (osome (v3 3)))))))))))) hs
/-! ### cut -/
abbrev n_cut : List Str := ["corners", "plane", "values", "found", "corner", "at", "later"]
theorem sc_cut : FnScope n_cut ["corners", "plane"] (defScope (top 10)) := ⟨rfl, rfl, rfl, by decide +kernel, rfl, by decide +kernel, by decide +kernel⟩
def t_cut : S3 := (tSeq3 (tMix23 2 3 (tLc3 (iSeq3 (tVar3 0)) (gName3 4) tYes3 (tFn3 2 s_value (tCons3 (tVar3 1) (tCons3 (tVar3 4) tNil3))) [4]) (tLst3 tNil3))
  (tSeq3 (tFor3 (iEnum3 (tVar3 0)) (gTup3 2 (gCons3 (gName3 5) (gCons3 (gName3 4) gNil3))) (tSeq3 (tAsg3 (b3 gMod (b3 gAdd (tVar3 5) (tC3 (.int 1))) (tCB3 gLen (tCons3 (tVar3 0) tNil3))) (gName3 6))
  (tSeq3 (tIfS3 (tB3 (b3 gLe (b3 gIx (tVar3 2) (tVar3 5)) (tC3 (.int 0)))) (tAppO 3 (tVar3 4)) tNext3)
  (tIfS3 (tB3 (b3 gLt (b3 gMul (b3 gIx (tVar3 2) (tVar3 5)) (b3 gIx (tVar3 2) (tVar3 6))) (tC3 (.int 0)))) (tAppO 3 (tFn3 4 s_between (tCons3 (tVar3 4) (tCons3 (b3 gIx (tVar3 2) (tVar3 5)) (tCons3 (b3 gIx (tVar3 0) (tVar3 6)) (tCons3 (b3 gIx (tVar3 2) (tVar3 6)) tNil3)))))) tNext3))))
  (tRet3 (tFn3 1 s_tidy (tCons3 (tVar3 3) tNil3)))))
theorem ok_cut {f_between : Addr} {fd_between : FuncData} (G_between : Has P w K mg base 2 "between" ["one", "its", "other", "theirs"] 4 s_between (top 5) f_between fd_between) {f_tidy : Addr} {fd_tidy : FuncData} (G_tidy : Has P w K mg base 3 "tidy" ["corners"] 1 s_tidy (top 9) f_tidy fd_tidy) {f_value : Addr} {fd_value : FuncData} (G_value : Has P w K mg base 1 "value" ["plane", "point"] 2 s_value (top 3) f_value fd_value) {f : Addr} {fd : FuncData} {s3 : Sp3} (F : Fun K "cut" "cut" (top 10) f fd) (T : Txt mg)
    (hs : ∀ ds TT kk, ds.length = 2 → s3 ds TT kk → t_cut { nx := fun ρ => kk .non ρ.T, rt := fun d ρ => kk d ρ.T } ⟨ds.map .val ++ List.replicate 5 .un, TT⟩) : FnOk P w K mg base CX0 4 f fd ["corners", "plane"] (spL 2 s3) :=
  fn3 (k := 3) F sc_cut rfl rfl (fun cdv A outer s H E hr =>
  have hu64 := hu64_of hr
  have hu65 := hu65_of hr
  have hu1 := hu_of hr
  (scons (smix2 (i := 2) (j := 3) (by rfl) sc_cut.nd (by rfl) (by rfl) (by decide) (by rfl) (by rfl) (lc3 (own := [("corner", 4)]) (by rfl) sc_cut.nd (iseq (v3 0)) (blkOk_by (own := [("corner", 4)]) (N := n_cut) (sc := defScope (top 10)) (by decide +kernel)) (fun _ _ _ _ _ => (gn3 4 sc_cut.nd)) (fun _ _ _ _ _ => tsnil) (fun _ _ _ _ _ => (call3 m_s_value (G_value.ok.mono (by decide)) hr (by rfl) G_value.mg G_value.kp G_value.bd (acons (v3 1) (acons (v3 4) anil))))) (flst anil) (by rfl))
  (scons (sfor PassesOwn.never (by rfl) (ienum (by rfl) T.enumerate (v3 0)) (gtup3 (by rfl) (gcons3 (gn3 5 sc_cut.nd) (gcons3 (gn3 4 sc_cut.nd) gnil3)))
    (scons (sasg (mod3 (add3 (v3 5) int3) (len3 (by rfl) T.len (v3 0))) (gn3 6 sc_cut.nd))
  (scons (sif (leT3 (ix3 (v3 2) (v3 5)) int3)
    (sone (sapp 3 (v3 4)))
    snil)
  (sone (sif (ltT3 (mul3 (ix3 (v3 2) (v3 5)) (ix3 (v3 2) (v3 6))) int3)
    (sone (sapp 3 (call3 m_s_between (G_between.ok.mono (by decide)) hr (by rfl) G_between.mg G_between.kp G_between.bd (acons (v3 4) (acons (ix3 (v3 2) (v3 5)) (acons (ix3 (v3 0) (v3 6)) (acons (ix3 (v3 2) (v3 6)) anil)))))))
    snil)))))
  (sone (sret (call3 m_s_tidy (G_tidy.ok.mono (by decide)) hr (by rfl) G_tidy.mg G_tidy.kp G_tidy.bd (acons (v3 3) anil))))))) hs
/-! ### cut_by -/
abbrev n_cut_by : List Str := ["corners", "planes", "plane"]
theorem sc_cut_by : FnScope n_cut_by ["corners", "planes"] (defScope (top 11)) := ⟨rfl, rfl, rfl, by decide +kernel, rfl, by decide +kernel, by decide +kernel⟩
def t_cut_by : S3 := (tSeq3 (tFor3 (iSeq3 (tVar3 1)) (gName3 2) (tAsg3 (tFn3 2 s_cut (tCons3 (tVar3 0) (tCons3 (tVar3 2) tNil3))) (gName3 0)))
  (tRet3 (tVar3 0)))
theorem ok_cut_by {f_cut : Addr} {fd_cut : FuncData} (G_cut : Has P w K mg base 4 "cut" ["corners", "plane"] 2 s_cut (top 10) f_cut fd_cut) {f : Addr} {fd : FuncData} {s3 : Sp3} (F : Fun K "cut_by" "cut_by" (top 11) f fd) (T : Txt mg)
    (hs : ∀ ds TT kk, ds.length = 2 → s3 ds TT kk → t_cut_by { nx := fun ρ => kk .non ρ.T, rt := fun d ρ => kk d ρ.T } ⟨ds.map .val ++ List.replicate 1 .un, TT⟩) : FnOk P w K mg base CX0 5 f fd ["corners", "planes"] (spL 2 s3) :=
  fn3 (k := 4) F sc_cut_by rfl rfl (fun cdv A outer s H E hr =>
  have hu64 := hu64_of hr
  have hu65 := hu65_of hr
  have hu1 := hu_of hr
  (scons (sfor PassesOwn.never (by rfl) (iseq (v3 1)) (gn3 2 sc_cut_by.nd)
    (sone (sasg (call3 m_s_cut (G_cut.ok.mono (by decide)) hr (by rfl) G_cut.mg G_cut.kp G_cut.bd (acons (v3 0) (acons (v3 2) anil))) (gn3 0 sc_cut_by.nd))))
  (sone (sret (v3 0))))) hs
/-! ### region -/
abbrev n_region : List Str := ["corners", "planes", "at", "plane"]
theorem sc_region : FnScope n_region ["corners", "planes", "at"] (defScope (top 12)) := ⟨rfl, rfl, rfl, by decide +kernel, rfl, by decide +kernel, by decide +kernel⟩
def t_region : S3 := (tRet3 (tFn3 2 s_cut_by (tCons3 (tVar3 0) (tCons3 (tLc3 (iSeq3 (tVar3 1)) (gName3 3) tYes3 (tFn3 2 s_lesser (tCons3 (tVar3 3) (tCons3 (b3 gIx (tVar3 1) (tVar3 2)) tNil3))) [3]) tNil3))))
theorem ok_region {f_cut_by : Addr} {fd_cut_by : FuncData} (G_cut_by : Has P w K mg base 5 "cut_by" ["corners", "planes"] 2 s_cut_by (top 11) f_cut_by fd_cut_by) {f_lesser : Addr} {fd_lesser : FuncData} (G_lesser : Has P w K mg base 1 "lesser" ["one", "other"] 2 s_lesser (top 4) f_lesser fd_lesser) {f : Addr} {fd : FuncData} {s3 : Sp3} (F : Fun K "region" "region" (top 12) f fd) (T : Txt mg)
    (hs : ∀ ds TT kk, ds.length = 3 → s3 ds TT kk → t_region { nx := fun ρ => kk .non ρ.T, rt := fun d ρ => kk d ρ.T } ⟨ds.map .val ++ List.replicate 1 .un, TT⟩) : FnOk P w K mg base CX0 6 f fd ["corners", "planes", "at"] (spL 3 s3) :=
  fn3 (k := 5) F sc_region rfl rfl (fun cdv A outer s H E hr =>
  have hu64 := hu64_of hr
  have hu65 := hu65_of hr
  have hu1 := hu_of hr
  (sone (sret (call3 m_s_cut_by (G_cut_by.ok.mono (by decide)) hr (by rfl) G_cut_by.mg G_cut_by.kp G_cut_by.bd (acons (v3 0) (acons (lc3 (own := [("plane", 3)]) (by rfl) sc_region.nd (iseq (v3 1)) (blkOk_by (own := [("plane", 3)]) (N := n_region) (sc := defScope (top 12)) (by decide +kernel)) (fun _ _ _ _ _ => (gn3 3 sc_region.nd)) (fun _ _ _ _ _ => tsnil) (fun _ _ _ _ _ => (call3 m_s_lesser (G_lesser.ok.mono (by decide)) hr (by rfl) G_lesser.mg G_lesser.kp G_lesser.bd (acons (v3 3) (acons (ix3 (v3 1) (v3 2)) anil))))) anil)))))) hs
/-! ### _law_draw -/
abbrev n__law_draw : List Str := ["pen", "many", "rest", "turn", "cell", "shuffled"]
theorem sc__law_draw : FnScope n__law_draw ["pen", "many"] (defScope (top 15)) := ⟨rfl, rfl, rfl, by decide +kernel, rfl, by decide +kernel, by decide +kernel⟩
def t__law_draw : S3 := (tSeq3 (tIfS3 (tB3 (b3 gLt (tVar3 1) (tC3 (.int 2)))) (tRet3 (tC3 (.int 0))) tNext3)
  (tSeq3 (tIfS3 (tB3 (b3 gGt (tIxO 0 (tC3 (.int 2))) (tC3 (.int 0)))) (tSeq3 (tAsg3 (tCB3 gInt (tCons3 (tIxO 0 (tC3 (.int 2))) tNil3)) (gName3 2))
  (tSeq3 (tSetO 0 (tC3 (.int 2)) (b3 gDiv (tVar3 2) (tVar3 1)))
  (tRet3 (b3 gMod (tCB3 gInt (tCons3 (tVar3 2) tNil3)) (tVar3 1))))) tNext3)
  (tSeq3 (tAsg3 (tIxO 0 (tC3 (.int 1))) (gName3 3))
  (tSeq3 (tSetO 0 (tC3 (.int 1)) (b3 gAdd (tVar3 3) (tC3 (.int 1))))
  (tSeq3 (tAsg3 (b3 gAdd (b3 gMul (tC3 (.int 75031)) (tVar3 3)) (tC3 (.int 9839))) (gName3 4))
  (tSeq3 (tIfS3 (tB3 (b3 gNe (tIxO 0 (tC3 (.int 0))) (tLst3 tNil3))) (tAsg3 (b3 gIx (tIxO 0 (tC3 (.int 0))) (b3 gMod (tCB3 gInt (tCons3 (tVar3 3) tNil3)) (tCB3 gLen (tCons3 (tIxO 0 (tC3 (.int 0))) tNil3)))) (gName3 4)) tNext3)
  (tSeq3 (tIfS3 (tAnd3 (tB3 (b3 gLt (tVar3 3) (tCB3 gLen (tCons3 (tIxO 0 (tC3 (.int 0))) tNil3)))) (tB3 (b3 gGe (tCB3 gAbs (tCons3 (tVar3 4) tNil3)) (b3 gPow (tC3 (.int 10)) (tC3 (.int 18)))))) (tSeq3 (tAsg3 (b3 gAdd (b3 gMul (tC3 (.int 2)) (b3 gSub (tCB3 gAbs (tCons3 (tVar3 4) tNil3)) (b3 gPow (tC3 (.int 10)) (tC3 (.int 18))))) (tCB3 gInt (tCons3 (b3 gLt (tVar3 4) (tC3 (.int 0))) tNil3))) (gName3 2))
  (tSeq3 (tSetO 0 (tC3 (.int 2)) (b3 gDiv (tCB3 gInt (tCons3 (tVar3 2) tNil3)) (tVar3 1)))
  (tRet3 (b3 gMod (tCB3 gInt (tCons3 (tVar3 2) tNil3)) (tVar3 1))))) tNext3)
  (tSeq3 (tAsg3 (b3 gMod (tCB3 gInt (tCons3 (b3 gPow (b3 gAdd (b3 gAdd (b3 gMod (tCB3 gInt (tCons3 (tVar3 4) tNil3)) (tC3 (.int 2147483549))) (b3 gMul (tC3 (.int 75031)) (tVar3 3))) (tC3 (.int 9839))) (tC3 (.int 3))) tNil3)) (tC3 (.int 2147483587))) (gName3 5))
  (tSeq3 (tAsg3 (b3 gMod (tCB3 gInt (tCons3 (b3 gPow (b3 gAdd (b3 gAdd (b3 gMul (tVar3 5) (b3 gAdd (b3 gMul (tC3 (.int 2)) (tVar3 3)) (tC3 (.int 4357)))) (b3 gMul (b3 gMul (tC3 (.int 90247)) (tVar3 3)) (tVar3 3))) (tC3 (.int 75031))) (tC3 (.int 5))) tNil3)) (tC3 (.int 2147483563))) (gName3 5))
  (tRet3 (b3 gMod (tCB3 gInt (tCons3 (b3 gDiv (tVar3 5) (tC3 (.int 32))) tNil3)) (tVar3 1))))))))))))
theorem ok__law_draw  {f : Addr} {fd : FuncData} {s3 : Sp3} (F : Fun K "_law_draw" "_law_draw" (top 15) f fd) (T : Txt mg)
    (hs : ∀ ds TT kk, s3 ds TT kk → ∃ many, ds = [.pen, .int many] ∧ ∀ (cs : List Int) (u r : Int), cs.length ≤ 63 → 0 ≤ u → u ≤ (TT : Int) → 0 ≤ r →
      t__law_draw { nx := fun _ => False, rt := fun d ρ => ∃ T' i, d = .int i ∧ PenSlot ρ T' ∧ kk d T' } ⟨[.own (.lst [.lst (cs.map D.int), .int u, .int r]), .val (.int many)] ++ List.replicate 4 .un, TT⟩) : FnOk P w K mg base CX0 1 f fd ["pen", "many"] (spL 2 s3) :=
  fnPen3 (k := 0) F sc__law_draw rfl rfl (fun cdv A outer s H E hr =>
  have hu64 := hu64_of hr
  have hu65 := hu65_of hr
  have hu1 := hu_of hr
  (scons (sif (ltT3 (v3 1) int3)
    (sone (sret int3))
    snil)
  (scons (sif (gtT3 (ixo3 0 int3) int3)
    (scons (sasg (int3c (by rfl) T.int (ixo3 0 int3)) (gn3 2 sc__law_draw.nd))
  (scons (sset 0 int3 (div3 (v3 2) (v3 1)))
  (sone (sret (mod3 (int3c (by rfl) T.int (v3 2)) (v3 1))))))
    snil)
  (scons (sasg (ixo3 0 int3) (gn3 3 sc__law_draw.nd))
  (scons (sset 0 int3 (add3 (v3 3) int3))
  (scons (sasg (add3 (mul3 int3 (v3 3)) int3) (gn3 4 sc__law_draw.nd))
  (scons (sif (neT3 hu64 (ixo3 0 int3) (lst3 anil))
    (sone (sasg (ix3 (ixo3 0 int3) (mod3 (int3c (by rfl) T.int (v3 3)) (len3 (by rfl) T.len (ixo3 0 int3)))) (gn3 4 sc__law_draw.nd)))
    snil)
  (scons (sif (P3W.pt (and3 (ltT3 (v3 3) (len3 (by rfl) T.len (ixo3 0 int3))) (and1 (geT3 (abs3 (by rfl) T.abs (v3 4)) (pow3 int3 int3)))))
    (scons (sasg (add3 (mul3 int3 (sub3 (abs3 (by rfl) T.abs (v3 4)) (pow3 int3 int3))) (int3c (by rfl) T.int (lt3 (v3 4) int3))) (gn3 2 sc__law_draw.nd))
  (scons (sset 0 int3 (div3 (int3c (by rfl) T.int (v3 2)) (v3 1)))
  (sone (sret (mod3 (int3c (by rfl) T.int (v3 2)) (v3 1))))))
    snil)
  (scons (sasg (mod3 (int3c (by rfl) T.int (pow3 (add3 (add3 (mod3 (int3c (by rfl) T.int (v3 4)) int3) (mul3 int3 (v3 3))) int3) int3)) int3) (gn3 5 sc__law_draw.nd))
  (scons (sasg (mod3 (int3c (by rfl) T.int (pow3 (add3 (add3 (mul3 (v3 5) (add3 (mul3 int3 (v3 3)) int3)) (mul3 (mul3 int3 (v3 3)) (v3 3))) int3) int3)) int3) (gn3 5 sc__law_draw.nd))
  (sone (sret (mod3 (int3c (by rfl) T.int (div3 (v3 5) int3)) (v3 1)))))))))))))) hs
/-! ### _law_pick -/
abbrev n__law_pick : List Str := ["pen", "some"]
theorem sc__law_pick : FnScope n__law_pick ["pen", "some"] (defScope (top 16)) := ⟨rfl, rfl, rfl, by decide +kernel, rfl, by decide +kernel, by decide +kernel⟩
def t__law_pick : S3 := (tRet3 (b3 gIx (tVar3 1) (tFn3 2 s__law_draw (tCons3 (tVar3 0) (tCons3 (tCB3 gLen (tCons3 (tVar3 1) tNil3)) tNil3)))))
theorem ok__law_pick {f__law_draw : Addr} {fd__law_draw : FuncData} (G__law_draw : Has P w K mg base 1 "_law_draw" ["pen", "many"] 2 s__law_draw (top 15) f__law_draw fd__law_draw) {f : Addr} {fd : FuncData} {s3 : Sp3} (F : Fun K "_law_pick" "_law_pick" (top 16) f fd) (T : Txt mg)
    (hs : ∀ ds TT kk, ds.length = 2 → s3 ds TT kk → t__law_pick { nx := fun ρ => kk .non ρ.T, rt := fun d ρ => kk d ρ.T } ⟨ds.map .val ++ List.replicate 0 .un, TT⟩) : FnOk P w K mg base CX0 2 f fd ["pen", "some"] (spL 2 s3) :=
  fn3 (k := 1) F sc__law_pick rfl rfl (fun cdv A outer s H E hr =>
  have hu64 := hu64_of hr
  have hu65 := hu65_of hr
  have hu1 := hu_of hr
  (sone (sret (ix3 (v3 1) (call3 m_s__law_draw (G__law_draw.ok.mono (by decide)) hr (by rfl) G__law_draw.mg G__law_draw.kp G__law_draw.bd (acons (v3 0) (acons (len3 (by rfl) T.len (v3 1)) anil))))))) hs
/-! ### _law_mixed -/
abbrev n__law_mixed : List Str := ["pen", "some", "left", "found", "turn"]
theorem sc__law_mixed : FnScope n__law_mixed ["pen", "some"] (defScope (top 17)) := ⟨rfl, rfl, rfl, by decide +kernel, rfl, by decide +kernel, by decide +kernel⟩
def t__law_mixed : S3 := (tSeq3 (tOwn23 2 3 (tCB3 gList (tCons3 (tVar3 1) tNil3)) (tLst3 tNil3))
  (tSeq3 (tFor3 (iRng3 (tLenO 2)) (gName3 4) (tAppO 3 (tPopO 2 (tFn3 2 s__law_draw (tCons3 (tVar3 0) (tCons3 (tLenO 2) tNil3))))))
  (tRet3 (tVar3 3))))
theorem ok__law_mixed {f__law_draw : Addr} {fd__law_draw : FuncData} (G__law_draw : Has P w K mg base 1 "_law_draw" ["pen", "many"] 2 s__law_draw (top 15) f__law_draw fd__law_draw) {f : Addr} {fd : FuncData} {s3 : Sp3} (F : Fun K "_law_mixed" "_law_mixed" (top 17) f fd) (T : Txt mg)
    (hs : ∀ ds TT kk, ds.length = 2 → s3 ds TT kk → t__law_mixed { nx := fun ρ => kk .non ρ.T, rt := fun d ρ => kk d ρ.T } ⟨ds.map .val ++ List.replicate 3 .un, TT⟩) : FnOk P w K mg base CX0 2 f fd ["pen", "some"] (spL 2 s3) :=
  fn3 (k := 1) F sc__law_mixed rfl rfl (fun cdv A outer s H E hr =>
  have hu64 := hu64_of hr
  have hu65 := hu65_of hr
  have hu1 := hu_of hr
  (scons (sown2 (i := 2) (j := 3) (by rfl) sc__law_mixed.nd (by rfl) (by rfl) (by decide) (by rfl) (by rfl) (flist (by rfl) T.list (v3 1)) (flst anil) (by rfl))
  (scons (sfor PassesOwn.never (by rfl) (irng (by rfl) T.range (leno3 2 (by rfl) T.len)) (gn3 4 sc__law_mixed.nd)
    (sone (sapp 3 (pop3 2 (call3 m_s__law_draw (G__law_draw.ok.mono (by decide)) hr (by rfl) G__law_draw.mg G__law_draw.kp G__law_draw.bd (acons (v3 0) (acons (leno3 2 (by rfl) T.len) anil)))))))
  (sone (sret (v3 3)))))) hs
/-! ### _law_drawn_setting -/
abbrev n__law_drawn_setting : List Str := ["pen", "opens", "q", "numbers", "term", "low", "high"]
theorem sc__law_drawn_setting : FnScope n__law_drawn_setting ["pen", "opens"] (defScope (top 18)) := ⟨rfl, rfl, rfl, by decide +kernel, rfl, by decide +kernel, by decide +kernel⟩
def t__law_drawn_setting : S3 := (tSeq3 (tAsg3 (tFn3 2 s__law_pick (tCons3 (tVar3 0) (tCons3 (tLst3 (tCons3 (tC3 (.int 1)) (tCons3 (tC3 (.int 1)) (tCons3 (tC3 (.int 2)) (tCons3 (tC3 (.int 3)) (tCons3 (tC3 (.int 7)) tNil3)))))) tNil3))) (gName3 2))
  (tSeq3 (tAsg3 (tLc3 (iSeq3 (tVar3 1)) (gTup3 3 (gCons3 (gName3 4) (gCons3 (gName3 5) (gCons3 (gName3 6) gNil3)))) tYes3 (b3 gAdd (b3 gMul (tVar3 5) (tVar3 2)) (tFn3 2 s__law_draw (tCons3 (tVar3 0) (tCons3 (b3 gAdd (b3 gMul (b3 gSub (tVar3 6) (tVar3 5)) (tVar3 2)) (tC3 (.int 1))) tNil3)))) [4, 5, 6]) (gName3 3))
  (tRet3 (tFn3 2 s__law_lowest (tCons3 (tVar3 2) (tCons3 (tVar3 3) tNil3))))))
theorem ok__law_drawn_setting {f__law_draw : Addr} {fd__law_draw : FuncData} (G__law_draw : Has P w K mg base 1 "_law_draw" ["pen", "many"] 2 s__law_draw (top 15) f__law_draw fd__law_draw) {f__law_lowest : Addr} {fd__law_lowest : FuncData} (G__law_lowest : Has P w K mg base 2 "_law_lowest" ["q", "numbers"] 2 s__law_lowest (top 20) f__law_lowest fd__law_lowest) {f__law_pick : Addr} {fd__law_pick : FuncData} (G__law_pick : Has P w K mg base 2 "_law_pick" ["pen", "some"] 2 s__law_pick (top 16) f__law_pick fd__law_pick) {f : Addr} {fd : FuncData} {s3 : Sp3} (F : Fun K "_law_drawn_setting" "_law_drawn_setting" (top 18) f fd) (T : Txt mg)
    (hs : ∀ ds TT kk, ds.length = 2 → s3 ds TT kk → t__law_drawn_setting { nx := fun ρ => kk .non ρ.T, rt := fun d ρ => kk d ρ.T } ⟨ds.map .val ++ List.replicate 5 .un, TT⟩) : FnOk P w K mg base CX0 3 f fd ["pen", "opens"] (spL 2 s3) :=
  fn3 (k := 2) F sc__law_drawn_setting rfl rfl (fun cdv A outer s H E hr =>
  have hu64 := hu64_of hr
  have hu65 := hu65_of hr
  have hu1 := hu_of hr
  (scons (sasg (call3 m_s__law_pick (G__law_pick.ok.mono (by decide)) hr (by rfl) G__law_pick.mg G__law_pick.kp G__law_pick.bd (acons (v3 0) (acons (lst3 (acons int3 (acons int3 (acons int3 (acons int3 (acons int3 anil)))))) anil))) (gn3 2 sc__law_drawn_setting.nd))
  (scons (ssetLc (i := 3) (own := [("term", 4), ("low", 5), ("high", 6)]) (by rfl) sc__law_drawn_setting.nd (by rfl) (by rfl) (sw_true rfl rfl rfl (by decide +kernel)) (iseq (v3 1)) (blkOk_by (own := [("term", 4), ("low", 5), ("high", 6)]) (N := n__law_drawn_setting) (sc := defScope (top 18)) (by decide +kernel)) (fun _ _ _ _ _ => (gtup3 (by rfl) (gcons3 (gn3 4 sc__law_drawn_setting.nd) (gcons3 (gn3 5 sc__law_drawn_setting.nd) (gcons3 (gn3 6 sc__law_drawn_setting.nd) gnil3))))) (fun _ _ _ _ _ => tsnil) (fun _ _ _ _ _ => (add3 (mul3 (v3 5) (v3 2)) (call3 m_s__law_draw (G__law_draw.ok.mono (by decide)) hr (by rfl) G__law_draw.mg G__law_draw.kp G__law_draw.bd (acons (v3 0) (acons (add3 (mul3 (sub3 (v3 6) (v3 5)) (v3 2)) int3) anil))))))
  (sone (sret (call3 m_s__law_lowest (G__law_lowest.ok.mono (by decide)) hr (by rfl) G__law_lowest.mg G__law_lowest.kp G__law_lowest.bd (acons (v3 2) (acons (v3 3) anil)))))))) hs
/-! ### _law_gcd -/
abbrev n__law_gcd : List Str := ["one", "other", "lap"]
theorem sc__law_gcd : FnScope n__law_gcd ["one", "other"] (defScope (top 19)) := ⟨rfl, rfl, rfl, by decide +kernel, rfl, by decide +kernel, by decide +kernel⟩
def t__law_gcd : S3 := (tSeq3 (tPar3 0 1 (tCons3 (tCB3 gAbs (tCons3 (tVar3 0) tNil3)) (tCons3 (tCB3 gAbs (tCons3 (tVar3 1) tNil3)) tNil3)))
  (tSeq3 (tFor3 (iRng3 (tC3 (.int 4000))) (gName3 2) (tSeq3 (tIfS3 (tB3 (b3 gEq (tVar3 1) (tC3 (.int 0)))) tBreak3 tNext3)
  (tPar3 0 1 (tCons3 (tVar3 1) (tCons3 (b3 gMod (tCB3 gInt (tCons3 (tVar3 0) tNil3)) (tCB3 gInt (tCons3 (tVar3 1) tNil3))) tNil3)))))
  (tRet3 (tVar3 0))))
theorem ok__law_gcd  {f : Addr} {fd : FuncData} {s3 : Sp3} (F : Fun K "_law_gcd" "_law_gcd" (top 19) f fd) (T : Txt mg)
    (hs : ∀ ds TT kk, ds.length = 2 → s3 ds TT kk → t__law_gcd { nx := fun ρ => kk .non ρ.T, rt := fun d ρ => kk d ρ.T } ⟨ds.map .val ++ List.replicate 1 .un, TT⟩) : FnOk P w K mg base CX0 1 f fd ["one", "other"] (spL 2 s3) :=
  fn3 (k := 0) F sc__law_gcd rfl rfl (fun cdv A outer s H E hr =>
  have hu64 := hu64_of hr
  have hu65 := hu65_of hr
  have hu1 := hu_of hr
  (scons (spar (i := 0) (j := 1) (by rfl) sc__law_gcd.nd (by rfl) (by rfl) (by decide) (by rfl) (by rfl) (acons (abs3 (by rfl) T.abs (v3 0)) (acons (abs3 (by rfl) T.abs (v3 1)) anil)) (by rfl))
  (scons (sfor PassesOwn.never (by rfl) (irng (by rfl) T.range int3) (gn3 2 sc__law_gcd.nd)
    (scons (sif (eqT3 hu64 (v3 1) int3)
    (sone sbreak)
    snil)
  (sone (spar (i := 0) (j := 1) (by rfl) sc__law_gcd.nd (by rfl) (by rfl) (by decide) (by rfl) (by rfl) (acons (v3 1) (acons (mod3 (int3c (by rfl) T.int (v3 0)) (int3c (by rfl) T.int (v3 1))) anil)) (by rfl)))))
  (sone (sret (v3 0)))))) hs
/-! ### _law_lowest -/
abbrev n__law_lowest : List Str := ["q", "numbers", "part", "number"]
theorem sc__law_lowest : FnScope n__law_lowest ["q", "numbers"] (defScope (top 20)) := ⟨rfl, rfl, rfl, by decide +kernel, rfl, by decide +kernel, by decide +kernel⟩
def t__law_lowest : S3 := (tSeq3 (tAsg3 (tCB3 gAbs (tCons3 (tVar3 0) tNil3)) (gName3 2))
  (tSeq3 (tFor3 (iSeq3 (tVar3 1)) (gName3 3) (tAsg3 (tFn3 2 s__law_gcd (tCons3 (tVar3 2) (tCons3 (tVar3 3) tNil3))) (gName3 2)))
  (tSeq3 (tAsg3 (tIf3 (tB3 (b3 gGt (tVar3 0) (tC3 (.int 0)))) (tVar3 2) (b3 gSub (tC3 (.int 0)) (tVar3 2))) (gName3 2))
  (tRet3 (tTup3 (tCons3 (b3 gDiv (tVar3 0) (tVar3 2)) (tCons3 (tCB3 gTuple (tCons3 (tLc3 (iSeq3 (tVar3 1)) (gName3 3) tYes3 (b3 gDiv (tVar3 3) (tVar3 2)) [3]) tNil3)) tNil3)))))))
theorem ok__law_lowest {f__law_gcd : Addr} {fd__law_gcd : FuncData} (G__law_gcd : Has P w K mg base 1 "_law_gcd" ["one", "other"] 2 s__law_gcd (top 19) f__law_gcd fd__law_gcd) {f : Addr} {fd : FuncData} {s3 : Sp3} (F : Fun K "_law_lowest" "_law_lowest" (top 20) f fd) (T : Txt mg)
    (hs : ∀ ds TT kk, ds.length = 2 → s3 ds TT kk → t__law_lowest { nx := fun ρ => kk .non ρ.T, rt := fun d ρ => kk d ρ.T } ⟨ds.map .val ++ List.replicate 2 .un, TT⟩) : FnOk P w K mg base CX0 2 f fd ["q", "numbers"] (spL 2 s3) :=
  fn3 (k := 1) F sc__law_lowest rfl rfl (fun cdv A outer s H E hr =>
  have hu64 := hu64_of hr
  have hu65 := hu65_of hr
  have hu1 := hu_of hr
  (scons (sasg (abs3 (by rfl) T.abs (v3 0)) (gn3 2 sc__law_lowest.nd))
  (scons (sfor PassesOwn.never (by rfl) (iseq (v3 1)) (gn3 3 sc__law_lowest.nd)
    (sone (sasg (call3 m_s__law_gcd (G__law_gcd.ok.mono (by decide)) hr (by rfl) G__law_gcd.mg G__law_gcd.kp G__law_gcd.bd (acons (v3 2) (acons (v3 3) anil))) (gn3 2 sc__law_lowest.nd))))
  (scons (sasg (if3 (gtT3 (v3 0) int3) (v3 2) (sub3 int3 (v3 2))) (gn3 2 sc__law_lowest.nd))
  (sone (sret (tup3 (acons (div3 (v3 0) (v3 2)) (acons (tuple3 (by rfl) T.tuple (lc3 (own := [("number", 3)]) (by rfl) sc__law_lowest.nd (iseq (v3 1)) (blkOk_by (own := [("number", 3)]) (N := n__law_lowest) (sc := defScope (top 20)) (by decide +kernel)) (fun _ _ _ _ _ => (gn3 3 sc__law_lowest.nd)) (fun _ _ _ _ _ => tsnil) (fun _ _ _ _ _ => (div3 (v3 3) (v3 2))))) anil))))))))) hs
/-! ### _law_value -/
abbrev n__law_value : List Str := ["plane", "point", "count", "number"]
theorem sc__law_value : FnScope n__law_value ["plane", "point"] (defScope (top 21)) := ⟨rfl, rfl, rfl, by decide +kernel, rfl, by decide +kernel, by decide +kernel⟩
def t__law_value : S3 := (tRet3 (b3 gAdd (b3 gMul (b3 gIx (tVar3 0) (tC3 (.int 0))) (b3 gIx (tVar3 1) (tC3 (.int 0)))) (tCB3 gSum (tCons3 (tLc3 (iZip3 (b3 gIx (tVar3 0) (tC3 (.int 1))) (b3 gIx (tVar3 1) (tC3 (.int 1)))) (gTup3 2 (gCons3 (gName3 2) (gCons3 (gName3 3) gNil3))) tYes3 (b3 gMul (tVar3 2) (tVar3 3)) [2, 3]) tNil3))))
theorem ok__law_value  {f : Addr} {fd : FuncData} {s3 : Sp3} (F : Fun K "_law_value" "_law_value" (top 21) f fd) (T : Txt mg)
    (hs : ∀ ds TT kk, ds.length = 2 → s3 ds TT kk → t__law_value { nx := fun ρ => kk .non ρ.T, rt := fun d ρ => kk d ρ.T } ⟨ds.map .val ++ List.replicate 2 .un, TT⟩) : FnOk P w K mg base CX0 1 f fd ["plane", "point"] (spL 2 s3) :=
  fn3 (k := 0) F sc__law_value rfl rfl (fun cdv A outer s H E hr =>
  have hu64 := hu64_of hr
  have hu65 := hu65_of hr
  have hu1 := hu_of hr
  (sone (sret (add3 (mul3 (ix3 (v3 0) int3) (ix3 (v3 1) int3)) (sum3 (by rfl) (by rfl) T.sum (lc3 (own := [("count", 2), ("number", 3)]) (by rfl) sc__law_value.nd (izip (by rfl) T.zip (ix3 (v3 0) int3) (ix3 (v3 1) int3)) (blkOk_by (own := [("count", 2), ("number", 3)]) (N := n__law_value) (sc := defScope (top 21)) (by decide +kernel)) (fun _ _ _ _ _ => (gtup3 (by rfl) (gcons3 (gn3 2 sc__law_value.nd) (gcons3 (gn3 3 sc__law_value.nd) gnil3)))) (fun _ _ _ _ _ => tsnil) (fun _ _ _ _ _ => (mul3 (v3 2) (v3 3))))))))) hs
/-! ### _law_edges_of -/
abbrev n__law_edges_of : List Str := ["opens", "found", "at", "term", "low", "high", "unit", "spot", "one"]
theorem sc__law_edges_of : FnScope n__law_edges_of ["opens"] (defScope (top 22)) := ⟨rfl, rfl, rfl, by decide +kernel, rfl, by decide +kernel, by decide +kernel⟩
def t__law_edges_of : S3 := (tSeq3 (tOwn3 1 (tLst3 tNil3))
  (tSeq3 (tFor3 (iEnum3 (tVar3 0)) (gTup3 2 (gCons3 (gName3 2) (gCons3 (gTup3 3 (gCons3 (gName3 3) (gCons3 (gName3 4) (gCons3 (gName3 5) gNil3)))) gNil3))) (tSeq3 (tAsg3 (tCB3 gTuple (tCons3 (tLc3 (iRng3 (tCB3 gLen (tCons3 (tVar3 0) tNil3))) (gName3 7) tYes3 (tCB3 gInt (tCons3 (b3 gEq (tVar3 7) (tVar3 2)) tNil3)) [7]) tNil3)) (gName3 6))
  (tSeq3 (tAppO 1 (tTup3 (tCons3 (tVar3 4) (tCons3 (tCB3 gTuple (tCons3 (tLc3 (iSeq3 (tVar3 6)) (gName3 8) tYes3 (b3 gSub (tC3 (.int 0)) (tVar3 8)) [8]) tNil3)) tNil3))))
  (tAppO 1 (tTup3 (tCons3 (b3 gSub (tC3 (.int 0)) (tVar3 5)) (tCons3 (tVar3 6) tNil3)))))))
  (tRet3 (tVar3 1))))
theorem ok__law_edges_of  {f : Addr} {fd : FuncData} {s3 : Sp3} (F : Fun K "_law_edges_of" "_law_edges_of" (top 22) f fd) (T : Txt mg)
    (hs : ∀ ds TT kk, ds.length = 1 → s3 ds TT kk → t__law_edges_of { nx := fun ρ => kk .non ρ.T, rt := fun d ρ => kk d ρ.T } ⟨ds.map .val ++ List.replicate 8 .un, TT⟩) : FnOk P w K mg base CX0 1 f fd ["opens"] (spL 1 s3) :=
  fn3 (k := 0) F sc__law_edges_of rfl rfl (fun cdv A outer s H E hr =>
  have hu64 := hu64_of hr
  have hu65 := hu65_of hr
  have hu1 := hu_of hr
  (scons (sown (i := 1) sc__law_edges_of.nd (by rfl) (h1 := (flst anil)))
  (scons (sfor PassesOwn.never (by rfl) (ienum (by rfl) T.enumerate (v3 0)) (gtup3 (by rfl) (gcons3 (gn3 2 sc__law_edges_of.nd) (gcons3 (gtup3 (by rfl) (gcons3 (gn3 3 sc__law_edges_of.nd) (gcons3 (gn3 4 sc__law_edges_of.nd) (gcons3 (gn3 5 sc__law_edges_of.nd) gnil3)))) gnil3)))
    (scons (sasg (tuple3 (by rfl) T.tuple (lc3 (own := [("spot", 7)]) (by rfl) sc__law_edges_of.nd (irng (by rfl) T.range (len3 (by rfl) T.len (v3 0))) (blkOk_by (own := [("spot", 7)]) (N := n__law_edges_of) (sc := defScope (top 22)) (by decide +kernel)) (fun _ _ _ _ _ => (gn3 7 sc__law_edges_of.nd)) (fun _ _ _ _ _ => tsnil) (fun _ _ _ _ _ => (int3c (by rfl) T.int (eq3 hu64 (v3 7) (v3 2)))))) (gn3 6 sc__law_edges_of.nd))
  (scons (sapp 1 (tup3 (acons (v3 4) (acons (tuple3 (by rfl) T.tuple (lc3 (own := [("one", 8)]) (by rfl) sc__law_edges_of.nd (iseq (v3 6)) (blkOk_by (own := [("one", 8)]) (N := n__law_edges_of) (sc := defScope (top 22)) (by decide +kernel)) (fun _ _ _ _ _ => (gn3 8 sc__law_edges_of.nd)) (fun _ _ _ _ _ => tsnil) (fun _ _ _ _ _ => (sub3 int3 (v3 8))))) anil))))
  (sone (sapp 1 (tup3 (acons (sub3 int3 (v3 5)) (acons (v3 6) anil))))))))
  (sone (sret (v3 1)))))) hs
/-! ### _law_met -/
abbrev n__law_met : List Str := ["one", "other", "q"]
theorem sc__law_met : FnScope n__law_met ["one", "other"] (defScope (top 23)) := ⟨rfl, rfl, rfl, by decide +kernel, rfl, by decide +kernel, by decide +kernel⟩
def t__law_met : S3 := (tSeq3 (tAsg3 (b3 gSub (b3 gMul (b3 gIx (b3 gIx (tVar3 0) (tC3 (.int 1))) (tC3 (.int 0))) (b3 gIx (b3 gIx (tVar3 1) (tC3 (.int 1))) (tC3 (.int 1)))) (b3 gMul (b3 gIx (b3 gIx (tVar3 0) (tC3 (.int 1))) (tC3 (.int 1))) (b3 gIx (b3 gIx (tVar3 1) (tC3 (.int 1))) (tC3 (.int 0))))) (gName3 2))
  (tSeq3 (tIfS3 (tB3 (b3 gEq (tVar3 2) (tC3 (.int 0)))) (tRet3 (tC3 .non)) tNext3)
  (tRet3 (tFn3 2 s__law_lowest (tCons3 (tVar3 2) (tCons3 (tLst3 (tCons3 (b3 gSub (b3 gMul (b3 gIx (b3 gIx (tVar3 0) (tC3 (.int 1))) (tC3 (.int 1))) (b3 gIx (tVar3 1) (tC3 (.int 0)))) (b3 gMul (b3 gIx (b3 gIx (tVar3 1) (tC3 (.int 1))) (tC3 (.int 1))) (b3 gIx (tVar3 0) (tC3 (.int 0))))) (tCons3 (b3 gSub (b3 gMul (b3 gIx (b3 gIx (tVar3 1) (tC3 (.int 1))) (tC3 (.int 0))) (b3 gIx (tVar3 0) (tC3 (.int 0)))) (b3 gMul (b3 gIx (b3 gIx (tVar3 0) (tC3 (.int 1))) (tC3 (.int 0))) (b3 gIx (tVar3 1) (tC3 (.int 0))))) tNil3))) tNil3))))))
theorem ok__law_met {f__law_lowest : Addr} {fd__law_lowest : FuncData} (G__law_lowest : Has P w K mg base 2 "_law_lowest" ["q", "numbers"] 2 s__law_lowest (top 20) f__law_lowest fd__law_lowest) {f : Addr} {fd : FuncData} {s3 : Sp3} (F : Fun K "_law_met" "_law_met" (top 23) f fd) (T : Txt mg)
    (hs : ∀ ds TT kk, ds.length = 2 → s3 ds TT kk → t__law_met { nx := fun ρ => kk .non ρ.T, rt := fun d ρ => kk d ρ.T } ⟨ds.map .val ++ List.replicate 1 .un, TT⟩) : FnOk P w K mg base CX0 3 f fd ["one", "other"] (spL 2 s3) :=
  fn3 (k := 2) F sc__law_met rfl rfl (fun cdv A outer s H E hr =>
  have hu64 := hu64_of hr
  have hu65 := hu65_of hr
  have hu1 := hu_of hr
  (scons (sasg (sub3 (mul3 (ix3 (ix3 (v3 0) int3) int3) (ix3 (ix3 (v3 1) int3) int3)) (mul3 (ix3 (ix3 (v3 0) int3) int3) (ix3 (ix3 (v3 1) int3) int3))) (gn3 2 sc__law_met.nd))
  (scons (sif (eqT3 hu64 (v3 2) int3)
    (sone (sret non3))
    snil)
  (sone (sret (call3 m_s__law_lowest (G__law_lowest.ok.mono (by decide)) hr (by rfl) G__law_lowest.mg G__law_lowest.kp G__law_lowest.bd (acons (v3 2) (acons (lst3 (acons (sub3 (mul3 (ix3 (ix3 (v3 0) int3) int3) (ix3 (v3 1) int3)) (mul3 (ix3 (ix3 (v3 1) int3) int3) (ix3 (v3 0) int3))) (acons (sub3 (mul3 (ix3 (ix3 (v3 1) int3) int3) (ix3 (v3 0) int3)) (mul3 (ix3 (ix3 (v3 0) int3) int3) (ix3 (v3 1) int3))) anil))) anil)))))))) hs
/-! ### _law_by_order -/
abbrev n__law_by_order : List Str := ["points", "whole_one", "point", "keys", "number", "key"]
theorem sc__law_by_order : FnScope n__law_by_order ["points"] (defScope (top 24)) := ⟨rfl, rfl, rfl, by decide +kernel, rfl, by decide +kernel, by decide +kernel⟩
def t__law_by_order : S3 := (tSeq3 (tAsg3 (tC3 (.int 1)) (gName3 1))
  (tSeq3 (tFor3 (iSeq3 (tVar3 0)) (gName3 2) (tAsg3 (b3 gMul (tVar3 1) (b3 gIx (tVar3 2) (tC3 (.int 0)))) (gName3 1)))
  (tSeq3 (tOwn3 3 tEmptyT)
  (tSeq3 (tFor3 (iSeq3 (tVar3 0)) (gName3 2) (tDPutO 3 (tCB3 gTuple (tCons3 (tLc3 (iSeq3 (b3 gIx (tVar3 2) (tC3 (.int 1)))) (gName3 4) tYes3 (b3 gMul (tVar3 4) (b3 gDiv (tVar3 1) (b3 gIx (tVar3 2) (tC3 (.int 0))))) [4]) tNil3)) (tVar3 2)))
  (tRet3 (tLc3 (iSeq3 (tCB3 gSortedT (tCons3 (tVar3 3) tNil3))) (gName3 5) tYes3 (b3 gDG (tVar3 3) (tVar3 5)) [5]))))))
theorem ok__law_by_order  {f : Addr} {fd : FuncData} {s3 : Sp3} (F : Fun K "_law_by_order" "_law_by_order" (top 24) f fd) (T : Txt mg)
    (hs : ∀ ds TT kk, ds.length = 1 → s3 ds TT kk → t__law_by_order { nx := fun ρ => kk .non ρ.T, rt := fun d ρ => kk d ρ.T } ⟨ds.map .val ++ List.replicate 5 .un, TT⟩) : FnOk P w K mg base CX0 1 f fd ["points"] (spL 1 s3) :=
  fn3 (k := 0) F sc__law_by_order rfl rfl (fun cdv A outer s H E hr =>
  have hu64 := hu64_of hr
  have hu65 := hu65_of hr
  have hu1 := hu_of hr
  (scons (sasg int3 (gn3 1 sc__law_by_order.nd))
  (scons (sfor PassesOwn.never (by rfl) (iseq (v3 0)) (gn3 2 sc__law_by_order.nd)
    (sone (sasg (mul3 (v3 1) (ix3 (v3 2) int3)) (gn3 1 sc__law_by_order.nd))))
  (scons (sown (i := 3) sc__law_by_order.nd (by rfl) (h1 := fdict))
  (scons (sfor PassesOwn.never (by rfl) (iseq (v3 0)) (gn3 2 sc__law_by_order.nd)
    (sone (sdput 3 hu1 (tuple3 (by rfl) T.tuple (lc3 (own := [("number", 4)]) (by rfl) sc__law_by_order.nd (iseq (ix3 (v3 2) int3)) (blkOk_by (own := [("number", 4)]) (N := n__law_by_order) (sc := defScope (top 24)) (by decide +kernel)) (fun _ _ _ _ _ => (gn3 4 sc__law_by_order.nd)) (fun _ _ _ _ _ => tsnil) (fun _ _ _ _ _ => (mul3 (v3 4) (div3 (v3 1) (ix3 (v3 2) int3)))))) (v3 2))))
  (sone (sret (lc3 (own := [("key", 5)]) (by rfl) sc__law_by_order.nd (iseq (sortedT3 hu64 (by rfl) (by rfl) T.sorted (v3 3))) (blkOk_by (own := [("key", 5)]) (N := n__law_by_order) (sc := defScope (top 24)) (by decide +kernel)) (fun _ _ _ _ _ => (gn3 5 sc__law_by_order.nd)) (fun _ _ _ _ _ => tsnil) (fun _ _ _ _ _ => (dget3 hu1 (v3 3) (v3 5))))))))))) hs
/-! ### _law_turn -/
abbrev n__law_turn : List Str := ["one", "other", "third", "a", "x", "y", "b", "u", "v", "c", "s", "t"]
theorem sc__law_turn : FnScope n__law_turn ["one", "other", "third"] (defScope (top 25)) := ⟨rfl, rfl, rfl, by decide +kernel, rfl, by decide +kernel, by decide +kernel⟩
def t__law_turn : S3 := (tSeq3 (tAsg3 (tTup3 (tCons3 (tVar3 0) (tCons3 (tVar3 1) (tCons3 (tVar3 2) tNil3)))) (gTup3 3 (gCons3 (gTup3 2 (gCons3 (gName3 3) (gCons3 (gTup3 2 (gCons3 (gName3 4) (gCons3 (gName3 5) gNil3))) gNil3))) (gCons3 (gTup3 2 (gCons3 (gName3 6) (gCons3 (gTup3 2 (gCons3 (gName3 7) (gCons3 (gName3 8) gNil3))) gNil3))) (gCons3 (gTup3 2 (gCons3 (gName3 9) (gCons3 (gTup3 2 (gCons3 (gName3 10) (gCons3 (gName3 11) gNil3))) gNil3))) gNil3)))))
  (tRet3 (b3 gAdd (b3 gSub (b3 gMul (tVar3 3) (b3 gSub (b3 gMul (tVar3 7) (tVar3 11)) (b3 gMul (tVar3 10) (tVar3 8)))) (b3 gMul (tVar3 4) (b3 gSub (b3 gMul (tVar3 6) (tVar3 11)) (b3 gMul (tVar3 9) (tVar3 8))))) (b3 gMul (tVar3 5) (b3 gSub (b3 gMul (tVar3 6) (tVar3 10)) (b3 gMul (tVar3 9) (tVar3 7)))))))
theorem ok__law_turn  {f : Addr} {fd : FuncData} {s3 : Sp3} (F : Fun K "_law_turn" "_law_turn" (top 25) f fd) (T : Txt mg)
    (hs : ∀ ds TT kk, ds.length = 3 → s3 ds TT kk → t__law_turn { nx := fun ρ => kk .non ρ.T, rt := fun d ρ => kk d ρ.T } ⟨ds.map .val ++ List.replicate 9 .un, TT⟩) : FnOk P w K mg base CX0 1 f fd ["one", "other", "third"] (spL 3 s3) :=
  fn3 (k := 0) F sc__law_turn rfl rfl (fun cdv A outer s H E hr =>
  have hu64 := hu64_of hr
  have hu65 := hu65_of hr
  have hu1 := hu_of hr
  (scons (sasg (tup3 (acons (v3 0) (acons (v3 1) (acons (v3 2) anil)))) (gtup3 (by rfl) (gcons3 (gtup3 (by rfl) (gcons3 (gn3 3 sc__law_turn.nd) (gcons3 (gtup3 (by rfl) (gcons3 (gn3 4 sc__law_turn.nd) (gcons3 (gn3 5 sc__law_turn.nd) gnil3))) gnil3))) (gcons3 (gtup3 (by rfl) (gcons3 (gn3 6 sc__law_turn.nd) (gcons3 (gtup3 (by rfl) (gcons3 (gn3 7 sc__law_turn.nd) (gcons3 (gn3 8 sc__law_turn.nd) gnil3))) gnil3))) (gcons3 (gtup3 (by rfl) (gcons3 (gn3 9 sc__law_turn.nd) (gcons3 (gtup3 (by rfl) (gcons3 (gn3 10 sc__law_turn.nd) (gcons3 (gn3 11 sc__law_turn.nd) gnil3))) gnil3))) gnil3)))))
  (sone (sret (add3 (sub3 (mul3 (v3 3) (sub3 (mul3 (v3 7) (v3 11)) (mul3 (v3 10) (v3 8)))) (mul3 (v3 4) (sub3 (mul3 (v3 6) (v3 11)) (mul3 (v3 9) (v3 8))))) (mul3 (v3 5) (sub3 (mul3 (v3 6) (v3 10)) (mul3 (v3 9) (v3 7))))))))) hs
/-! ### _law_corners -/
abbrev n__law_corners : List Str := ["planes", "many", "some", "plane", "one", "other", "point", "found", "under", "beyond"]
theorem sc__law_corners : FnScope n__law_corners ["planes", "many"] (defScope (top 26)) := ⟨rfl, rfl, rfl, by decide +kernel, rfl, by decide +kernel, by decide +kernel⟩
def t__law_corners : S3 := (tSeq3 (tIfS3 (tB3 (b3 gEq (tVar3 1) (tC3 (.int 1)))) (tAsg3 (tLc3 (iSeq3 (tVar3 0)) (gName3 3) (tB3 (b3 gNe (b3 gIx (b3 gIx (tVar3 3) (tC3 (.int 1))) (tC3 (.int 0))) (tC3 (.int 0)))) (tFn3 2 s__law_lowest (tCons3 (b3 gIx (b3 gIx (tVar3 3) (tC3 (.int 1))) (tC3 (.int 0))) (tCons3 (tLst3 (tCons3 (b3 gSub (tC3 (.int 0)) (b3 gIx (tVar3 3) (tC3 (.int 0)))) tNil3)) tNil3))) [3]) (gName3 2)) (tAsg3 (tLc3 (iSeq3 (tFn3 1 s__law_pairs (tCons3 (tCB3 gLen (tCons3 (tVar3 0) tNil3)) tNil3))) (gTup3 2 (gCons3 (gName3 4) (gCons3 (gName3 5) gNil3))) tYes3 (tFn3 2 s__law_met (tCons3 (b3 gIx (tVar3 0) (tVar3 4)) (tCons3 (b3 gIx (tVar3 0) (tVar3 5)) tNil3))) [4, 5]) (gName3 2)))
  (tSeq3 (tAsg3 (tLc3 (iSeq3 (tVar3 2)) (gName3 6) (tAnd3 (tB3 (tNotN3 (tVar3 6))) (tB3 (b3 gEq (tLc3 (iSeq3 (tVar3 0)) (gName3 3) (tB3 (b3 gGt (tFn3 2 s__law_value (tCons3 (tVar3 3) (tCons3 (tVar3 6) tNil3))) (tC3 (.int 0)))) (tVar3 3) [3]) (tLst3 tNil3)))) (tVar3 6) [6]) (gName3 2))
  (tSeq3 (tAsg3 (tIf3 (tB3 (b3 gNe (tVar3 2) (tLst3 tNil3))) (tFn3 1 s__law_by_order (tCons3 (tVar3 2) tNil3)) (tLst3 tNil3)) (gName3 7))
  (tSeq3 (tIfS3 (tB3 (b3 gLt (tCB3 gLen (tCons3 (tVar3 7) tNil3)) (tC3 (.int 3)))) (tRet3 (tCB3 gTuple (tCons3 (tVar3 7) tNil3))) tNext3)
  (tSeq3 (tAsg3 (tLc3 (iSeq3 (tSl3 (tVar3 7) (tPart3 (tC3 (.int 1))) (tPart3 (tNeg3 (tC3 (.int 1)))))) (gName3 6) (tB3 (b3 gLt (tFn3 3 s__law_turn (tCons3 (b3 gIx (tVar3 7) (tC3 (.int 0))) (tCons3 (b3 gIx (tVar3 7) (tNeg3 (tC3 (.int 1)))) (tCons3 (tVar3 6) tNil3)))) (tC3 (.int 0)))) (tVar3 6) [6]) (gName3 8))
  (tSeq3 (tAsg3 (tLc3 (iSeq3 (tSl3 (tVar3 7) (tPart3 (tC3 (.int 1))) (tPart3 (tNeg3 (tC3 (.int 1)))))) (gName3 6) (tB3 (b3 gGt (tFn3 3 s__law_turn (tCons3 (b3 gIx (tVar3 7) (tC3 (.int 0))) (tCons3 (b3 gIx (tVar3 7) (tNeg3 (tC3 (.int 1)))) (tCons3 (tVar3 6) tNil3)))) (tC3 (.int 0)))) (tVar3 6) [6]) (gName3 9))
  (tRet3 (tCB3 gTuple (tCons3 (b3 gAdd (b3 gAdd (b3 gAdd (tLst3 (tCons3 (b3 gIx (tVar3 7) (tC3 (.int 0))) tNil3)) (tVar3 8)) (tLst3 (tCons3 (b3 gIx (tVar3 7) (tNeg3 (tC3 (.int 1)))) tNil3))) (tRev3 (tVar3 9))) tNil3)))))))))
theorem ok__law_corners {f__law_by_order : Addr} {fd__law_by_order : FuncData} (G__law_by_order : Has P w K mg base 1 "_law_by_order" ["points"] 1 s__law_by_order (top 24) f__law_by_order fd__law_by_order) {f__law_lowest : Addr} {fd__law_lowest : FuncData} (G__law_lowest : Has P w K mg base 2 "_law_lowest" ["q", "numbers"] 2 s__law_lowest (top 20) f__law_lowest fd__law_lowest) {f__law_met : Addr} {fd__law_met : FuncData} (G__law_met : Has P w K mg base 3 "_law_met" ["one", "other"] 2 s__law_met (top 23) f__law_met fd__law_met) {f__law_pairs : Addr} {fd__law_pairs : FuncData} (G__law_pairs : Has P w K mg base 1 "_law_pairs" ["many"] 1 s__law_pairs (top 27) f__law_pairs fd__law_pairs) {f__law_turn : Addr} {fd__law_turn : FuncData} (G__law_turn : Has P w K mg base 1 "_law_turn" ["one", "other", "third"] 3 s__law_turn (top 25) f__law_turn fd__law_turn) {f__law_value : Addr} {fd__law_value : FuncData} (G__law_value : Has P w K mg base 1 "_law_value" ["plane", "point"] 2 s__law_value (top 21) f__law_value fd__law_value) {f : Addr} {fd : FuncData} {s3 : Sp3} (F : Fun K "_law_corners" "_law_corners" (top 26) f fd) (T : Txt mg)
    (hs : ∀ ds TT kk, ds.length = 2 → s3 ds TT kk → t__law_corners { nx := fun ρ => kk .non ρ.T, rt := fun d ρ => kk d ρ.T } ⟨ds.map .val ++ List.replicate 8 .un, TT⟩) : FnOk P w K mg base CX0 4 f fd ["planes", "many"] (spL 2 s3) :=
  fn3 (k := 3) F sc__law_corners rfl rfl (fun cdv A outer s H E hr =>
  have hu64 := hu64_of hr
  have hu65 := hu65_of hr
  have hu1 := hu_of hr
  (scons (sif (eqT3 hu64 (v3 1) int3)
    (sone (ssetLc (i := 2) (own := [("plane", 3)]) (by rfl) sc__law_corners.nd (by rfl) (by rfl) (sw_true rfl rfl rfl (by decide +kernel)) (iseq (v3 0)) (blkOk_by (own := [("plane", 3)]) (N := n__law_corners) (sc := defScope (top 26)) (by decide +kernel)) (fun _ _ _ _ _ => (gn3 3 sc__law_corners.nd)) (fun _ _ _ _ _ => (tsone (neT3 hu64 (ix3 (ix3 (v3 3) int3) int3) int3))) (fun _ _ _ _ _ => (call3 m_s__law_lowest (G__law_lowest.ok.mono (by decide)) hr (by rfl) G__law_lowest.mg G__law_lowest.kp G__law_lowest.bd (acons (ix3 (ix3 (v3 3) int3) int3) (acons (lst3 (acons (sub3 int3 (ix3 (v3 3) int3)) anil)) anil))))))
    (sone (ssetLc (i := 2) (own := [("one", 4), ("other", 5)]) (by rfl) sc__law_corners.nd (by rfl) (by rfl) (sw_true rfl rfl rfl (by decide +kernel)) (iseq (call3 m_s__law_pairs (G__law_pairs.ok.mono (by decide)) hr (by rfl) G__law_pairs.mg G__law_pairs.kp G__law_pairs.bd (acons (len3 (by rfl) T.len (v3 0)) anil))) (blkOk_by (own := [("one", 4), ("other", 5)]) (N := n__law_corners) (sc := defScope (top 26)) (by decide +kernel)) (fun _ _ _ _ _ => (gtup3 (by rfl) (gcons3 (gn3 4 sc__law_corners.nd) (gcons3 (gn3 5 sc__law_corners.nd) gnil3)))) (fun _ _ _ _ _ => tsnil) (fun _ _ _ _ _ => (call3 m_s__law_met (G__law_met.ok.mono (by decide)) hr (by rfl) G__law_met.mg G__law_met.kp G__law_met.bd (acons (ix3 (v3 0) (v3 4)) (acons (ix3 (v3 0) (v3 5)) anil)))))))
  (scons (ssetLc (i := 2) (own := [("point", 6)]) (by rfl) sc__law_corners.nd (by rfl) (by rfl) (sw_true rfl rfl rfl (by decide +kernel)) (iseq (v3 2)) (blkOk_by (own := [("point", 6)]) (N := n__law_corners) (sc := defScope (top 26)) (by decide +kernel)) (fun _ _ _ _ _ => (gn3 6 sc__law_corners.nd)) (fun _ _ _ _ _ => (tsone (P3W.pt (and3 (notnT3 (v3 6)) (and1 (eqT3 hu64 (lc3 (own := [("plane", 3)]) (by rfl) sc__law_corners.nd (iseq (v3 0)) (blkOk_in (own := [("plane", 3)]) (N := n__law_corners) (sc := { kind := PySem.ScopeKind.function, names := [ (PySem.Str.ofString ".0", PySem.NameKind.local), (PySem.Str.ofString "point", PySem.NameKind.cell), (PySem.Str.ofString "planes", PySem.NameKind.free)], isGenerator := false, isCoroutine := false, more := [] : PySem.Scope }) (by decide +kernel)) (fun _ _ _ _ _ => (gn3 3 sc__law_corners.nd)) (fun _ _ _ _ _ => (tsone (gtT3 (call3 m_s__law_value (G__law_value.ok.mono (by decide)) hr (by rfl) G__law_value.mg G__law_value.kp G__law_value.bd (acons (v3 3) (acons (v3 6) anil))) int3))) (fun _ _ _ _ _ => (v3 3))) (lst3 anil))))))) (fun _ _ _ _ _ => (v3 6)))
  (scons (sasg (if3 (neT3 hu64 (v3 2) (lst3 anil)) (call3 m_s__law_by_order (G__law_by_order.ok.mono (by decide)) hr (by rfl) G__law_by_order.mg G__law_by_order.kp G__law_by_order.bd (acons (v3 2) anil)) (lst3 anil)) (gn3 7 sc__law_corners.nd))
  (scons (sif (ltT3 (len3 (by rfl) T.len (v3 7)) int3)
    (sone (sret (tuple3 (by rfl) T.tuple (v3 7))))
    snil)
  (scons (ssetLc (i := 8) (own := [("point", 6)]) (by rfl) sc__law_corners.nd (by rfl) (by rfl) (sw_true rfl rfl rfl (by decide +kernel)) (iseq (sl3 (v3 7) (osome int3) (osome (neg3 int3)))) (blkOk_by (own := [("point", 6)]) (N := n__law_corners) (sc := defScope (top 26)) (by decide +kernel)) (fun _ _ _ _ _ => (gn3 6 sc__law_corners.nd)) (fun _ _ _ _ _ => (tsone (ltT3 (call3 m_s__law_turn (G__law_turn.ok.mono (by decide)) hr (by rfl) G__law_turn.mg G__law_turn.kp G__law_turn.bd (acons (ix3 (v3 7) int3) (acons (ix3 (v3 7) (neg3 int3)) (acons (v3 6) anil)))) int3))) (fun _ _ _ _ _ => (v3 6)))
  (scons (ssetLc (i := 9) (own := [("point", 6)]) (by rfl) sc__law_corners.nd (by rfl) (by rfl) (sw_true rfl rfl rfl (by decide +kernel)) (iseq (sl3 (v3 7) (osome int3) (osome (neg3 int3)))) (blkOk_by (own := [("point", 6)]) (N := n__law_corners) (sc := defScope (top 26)) (by decide +kernel)) (fun _ _ _ _ _ => (gn3 6 sc__law_corners.nd)) (fun _ _ _ _ _ => (tsone (gtT3 (call3 m_s__law_turn (G__law_turn.ok.mono (by decide)) hr (by rfl) G__law_turn.mg G__law_turn.kp G__law_turn.bd (acons (ix3 (v3 7) int3) (acons (ix3 (v3 7) (neg3 int3)) (acons (v3 6) anil)))) int3))) (fun _ _ _ _ _ => (v3 6)))
  (sone (sret (tuple3 (by rfl) T.tuple (add3 (add3 (add3 (lst3 (acons (ix3 (v3 7) int3) anil)) (v3 8)) (lst3 (acons (ix3 (v3 7) (neg3 int3)) anil))) (rev3 (v3 9))))))))))))) hs
/-! ### _law_pairs -/
abbrev n__law_pairs : List Str := ["many", "other", "one"]
theorem sc__law_pairs : FnScope n__law_pairs ["many"] (defScope (top 27)) := ⟨rfl, rfl, rfl, by decide +kernel, rfl, by decide +kernel, by decide +kernel⟩
def t__law_pairs : S3 := (tRet3 (tCB3 gSumL (tCons3 (tLc3 (iRng3 (tVar3 0)) (gName3 2) tYes3 (tLc3 (iRng3 (tVar3 2)) (gName3 1) tYes3 (tTup3 (tCons3 (tVar3 2) (tCons3 (tVar3 1) tNil3))) [1]) [2]) (tCons3 (tLst3 tNil3) tNil3))))
theorem ok__law_pairs  {f : Addr} {fd : FuncData} {s3 : Sp3} (F : Fun K "_law_pairs" "_law_pairs" (top 27) f fd) (T : Txt mg)
    (hs : ∀ ds TT kk, ds.length = 1 → s3 ds TT kk → t__law_pairs { nx := fun ρ => kk .non ρ.T, rt := fun d ρ => kk d ρ.T } ⟨ds.map .val ++ List.replicate 2 .un, TT⟩) : FnOk P w K mg base CX0 1 f fd ["many"] (spL 1 s3) :=
  fn3 (k := 0) F sc__law_pairs rfl rfl (fun cdv A outer s H E hr =>
  have hu64 := hu64_of hr
  have hu65 := hu65_of hr
  have hu1 := hu_of hr
  (sone (sret (sumL3 (by rfl) (by rfl) T.sum (lc3 (own := [("one", 2)]) (by rfl) sc__law_pairs.nd (irng (by rfl) T.range (v3 0)) (blkOk_by (own := [("one", 2)]) (N := n__law_pairs) (sc := defScope (top 27)) (by decide +kernel)) (fun _ _ _ _ _ => (gn3 2 sc__law_pairs.nd)) (fun _ _ _ _ _ => tsnil) (fun _ _ _ _ _ => (lc3 (own := [("other", 1)]) (by rfl) sc__law_pairs.nd (irng (by rfl) T.range (v3 2)) (blkOk_in (own := [("other", 1)]) (N := n__law_pairs) (sc := { kind := PySem.ScopeKind.function, names := [ (PySem.Str.ofString ".0", PySem.NameKind.local), (PySem.Str.ofString "one", PySem.NameKind.cell), (PySem.Str.ofString "range", PySem.NameKind.globalImplicit)], isGenerator := false, isCoroutine := false, more := [] : PySem.Scope }) (by decide +kernel)) (fun _ _ _ _ _ => (gn3 1 sc__law_pairs.nd)) (fun _ _ _ _ _ => tsnil) (fun _ _ _ _ _ => (tup3 (acons (v3 2) (acons (v3 1) anil))))))) (lst3 anil))))) hs
/-! ### _law_pen -/
theorem sc__law_pen : FnScope ["script", "cell"] ["script"] (defScope (top 14)) := ⟨rfl, rfl, rfl, by decide +kernel, rfl, by decide +kernel, by decide +kernel⟩
theorem ok__law_pen {f : Addr} {fd : FuncData} (F : Fun K "_law_pen" "_law_pen" (top 14) f fd) (T : Txt mg) : FnOk P w K mg base CX0 1 f fd ["script"] (spPen K) := by
  refine F.ok sc__law_pen (fun vs H Q E h => ?_) (fun cdv A outer s H vs Q E hr h => ?_)
  · obtain ⟨a, ns, rfl, _⟩ := h; rfl
  · obtain ⟨a, ns, rfl, hS, h63, q⟩ := h
    refine ⟨_, pss_one (ps_ret (pe_lst (pa_cons (pe_lc (own := [("cell", 1)]) (g := gName 1) (tt := tYes) (by rfl) sc__law_pen.nd (pi_list (pe_slice sl_list (pv 0) po_none (po_some pe_int))) (blkOk_by (own := [("cell", 1)]) (N := ["script", "cell"]) (sc := defScope (top 14)) (by decide +kernel)) (fun _ _ _ _ _ => pg_name (i := 1) sc__law_pen.nd rfl (Or.inl rfl)) (fun _ _ _ _ _ => pts_nil) (fun _ _ _ _ _ => pe_callTy call_int1 (by rfl) T.int (by decide +kernel) (pa_cons (pv 1) pa_nil))) (pa_cons pe_int (pa_cons pe_int pa_nil))))), ?_⟩
    exact pen_read (X := cxOf CX0 P w K mg base ["script", "cell"] "_law_pen" (defScope (top 14)) f cdv A outer s H E) rfl hS h63 q
/-! ### law -/
abbrev n_law : List Str := ["script", "pen", "turn", "many", "edges_here", "opens", "at", "low", "whole_one", "planes", "lap", "told", "plane", "further", "count", "its", "one", "point", "values", "held", "spot", "unit"]
theorem sc_law : FnScope n_law ["script"] (defScope (top 28)) := ⟨rfl, rfl, rfl, by decide +kernel, rfl, by decide +kernel, by decide +kernel⟩
def t_law_f1 : S3 := (tAsg3 (tIf3 (tB3 (b3 gNe (tVar3 19) (tTup3 tNil3))) (tFn3 2 s_cut (tCons3 (tFn3 2 s_cut (tCons3 (tVar3 19) (tCons3 (tTup3 (tCons3 (b3 gSub (tC3 (.int 0)) (b3 gIx (b3 gIx (tVar3 17) (tC3 (.int 1))) (tVar3 20))) (tCons3 (tVar3 21) tNil3))) tNil3))) (tCons3 (tTup3 (tCons3 (b3 gIx (b3 gIx (tVar3 17) (tC3 (.int 1))) (tVar3 20)) (tCons3 (tCB3 gTuple (tCons3 (tLc3 (iSeq3 (tVar3 21)) (gName3 16) tYes3 (b3 gSub (tC3 (.int 0)) (tVar3 16)) [16]) tNil3)) tNil3))) tNil3))) (tTup3 tNil3)) (gName3 19))
def t_law_f2 : S3 := (tSeq3 (tAsg3 (tCB3 gTuple (tCons3 (tLc3 (iRng3 (tVar3 3)) (gName3 16) tYes3 (b3 gMul (b3 gIx (tVar3 17) (tC3 (.int 0))) (tCB3 gInt (tCons3 (b3 gEq (tVar3 16) (tVar3 20)) tNil3))) [16]) tNil3)) (gName3 21))
  t_law_f1)
def t_law_f3 : S3 := (tIfS3 (tOr3 (tB3 (b3 gNe (b3 gNe (tVar3 19) (tTup3 tNil3)) (b3 gEq (b3 gIx (tVar3 18) (tVar3 6)) (tCB3 gMax (tCons3 (tVar3 18) tNil3))))) (tB3 (b3 gNotInT (tVar3 19) (tTup3 (tCons3 (tTup3 tNil3) (tCons3 (tTup3 (tCons3 (tVar3 17) tNil3)) tNil3)))))) (tRet3 (tC3 (.bl false))) tNext3)
def t_law_f4 : S3 := (tSeq3 (tFor3 (iRng3 (tVar3 3)) (gName3 20) t_law_f2)
  t_law_f3)
def t_law_f5 : S3 := (tSeq3 (tAsg3 (tFn3 3 s_region (tCons3 (tVar3 8) (tCons3 (tVar3 9) (tCons3 (tVar3 6) tNil3)))) (gName3 19))
  t_law_f4)
def t_law_f6 : S3 := (tFor3 (iRng3 (tCB3 gLen (tCons3 (tVar3 9) tNil3))) (gName3 6) t_law_f5)
def t_law_f7 : S3 := (tSeq3 (tAsg3 (tLc3 (iSeq3 (tVar3 9)) (gName3 12) tYes3 (tFn3 2 s__law_value (tCons3 (tVar3 12) (tCons3 (tVar3 17) tNil3))) [12]) (gName3 18))
  t_law_f6)
def t_law_f8 : S3 := (tSeq3 (tAsg3 (tFn3 2 s__law_drawn_setting (tCons3 (tVar3 1) (tCons3 (tVar3 5) tNil3))) (gName3 17))
  t_law_f7)
def t_law_f9 : S3 := (tIfS3 (tOr3 (tB3 (b3 gNe (b3 gIx (tVar3 11) (tVar3 6)) (tFn3 2 s__law_corners (tCons3 (b3 gAdd (tVar3 4) (tVar3 13)) (tCons3 (tVar3 3) tNil3))))) (tB3 (b3 gNe (tFnK3 3 0 3 [2, 1, 0] s_region tNil3 (tCons3 (tVar3 6) (tCons3 (tCB3 gTuple (tCons3 (tVar3 9) tNil3)) (tCons3 (tVar3 8) tNil3)))) (b3 gIx (tVar3 11) (tVar3 6))))) (tRet3 (tC3 (.bl false))) tNext3)
def t_law_f10 : S3 := (tSeq3 (tAsg3 (tLc3 (iSeq3 (tVar3 9)) (gName3 16) tYes3 (tTup3 (tCons3 (b3 gSub (b3 gIx (tVar3 16) (tC3 (.int 0))) (b3 gIx (tVar3 12) (tC3 (.int 0)))) (tCons3 (tCB3 gTuple (tCons3 (tLc3 (iZip3 (b3 gIx (tVar3 16) (tC3 (.int 1))) (b3 gIx (tVar3 12) (tC3 (.int 1)))) (gTup3 2 (gCons3 (gName3 14) (gCons3 (gName3 15) gNil3))) tYes3 (b3 gSub (tVar3 14) (tVar3 15)) [14, 15]) tNil3)) tNil3))) [16]) (gName3 13))
  t_law_f9)
def t_law_f11 : S3 := (tFor3 (iRng3 (tC3 (.int 6))) (gName3 10) t_law_f8)
def t_law_f12 : S3 := (tSeq3 (tFor3 (iEnum3 (tVar3 9)) (gTup3 2 (gCons3 (gName3 6) (gCons3 (gName3 12) gNil3))) t_law_f10)
  t_law_f11)
def t_law_f13 : S3 := (tSeq3 (tAsg3 (tLc3 (iRng3 (tCB3 gLen (tCons3 (tVar3 9) tNil3))) (gName3 6) tYes3 (tFn3 3 s_region (tCons3 (tVar3 8) (tCons3 (tVar3 9) (tCons3 (tVar3 6) tNil3)))) [6]) (gName3 11))
  t_law_f12)
def t_law_f14 : S3 := (tSeq3 (tAsg3 (tFn3 2 s__law_mixed (tCons3 (tVar3 1) (tCons3 (b3 gAdd (tVar3 9) (tSl3 (tVar3 9) tNoPart3 (tPart3 (tFn3 2 s__law_draw (tCons3 (tVar3 1) (tCons3 (tC3 (.int 2)) tNil3)))))) tNil3))) (gName3 9))
  t_law_f13)
def t_law_f15 : S3 := (tSeq3 (tAsg3 (tLc3 (iRng3 (b3 gAdd (tC3 (.int 1)) (tFn3 2 s__law_draw (tCons3 (tVar3 1) (tCons3 (tC3 (.int 6)) tNil3))))) (gName3 10) tYes3 (tTup3 (tCons3 (b3 gSub (tFn3 2 s__law_draw (tCons3 (tVar3 1) (tCons3 (tC3 (.int 21)) tNil3))) (tC3 (.int 10))) (tCons3 (tCB3 gTuple (tCons3 (tLc3 (iRng3 (tVar3 3)) (gName3 6) tYes3 (b3 gSub (tFn3 2 s__law_draw (tCons3 (tVar3 1) (tCons3 (tC3 (.int 9)) tNil3))) (tC3 (.int 4))) [6]) tNil3)) tNil3))) [10]) (gName3 9))
  t_law_f14)
def t_law_f16 : S3 := (tSeq3 (tAsg3 (tFn3 2 s__law_corners (tCons3 (tVar3 4) (tCons3 (tVar3 3) tNil3))) (gName3 8))
  t_law_f15)
def t_law_f17 : S3 := (tAppO 5 (tTup3 (tCons3 (tTup3 (tCons3 (tC3 (.str "load")) (tCons3 (tC3 (.str "f")) tNil3))) (tCons3 (tVar3 7) (tCons3 (b3 gAdd (tVar3 7) (tFn3 2 s__law_pick (tCons3 (tVar3 1) (tCons3 (tLst3 (tCons3 (tC3 (.int 1)) (tCons3 (tC3 (.int 4)) (tCons3 (tC3 (.int 15)) tNil3)))) tNil3)))) tNil3)))))
def t_law_f18 : S3 := (tSeq3 (tAsg3 (b3 gSub (tFn3 2 s__law_draw (tCons3 (tVar3 1) (tCons3 (tC3 (.int 9)) tNil3))) (tC3 (.int 4))) (gName3 7))
  t_law_f17)
def t_law_f19 : S3 := (tSeq3 (tAsg3 (tFn3 1 s__law_edges_of (tCons3 (tVar3 5) tNil3)) (gName3 4))
  t_law_f16)
def t_law_f20 : S3 := (tSeq3 (tFor3 (iRng3 (tVar3 3)) (gName3 6) t_law_f18)
  t_law_f19)
def t_law_f21 : S3 := (tSeq3 (tMix23 4 5 (tLst3 tNil3) (tLst3 tNil3))
  t_law_f20)
def t_law_f22 : S3 := (tSeq3 (tAsg3 (b3 gAdd (tC3 (.int 1)) (tFn3 2 s__law_draw (tCons3 (tVar3 1) (tCons3 (tC3 (.int 2)) tNil3)))) (gName3 3))
  t_law_f21)
def t_law_f23 : S3 := (tRet3 (tC3 (.bl true)))
def t_law : S3 := (tSeq3 (tFor3 (iRng3 (tC3 (.int 4))) (gName3 2) t_law_f22)
  t_law_f23)
theorem body_law {f__law_corners : Addr} {fd__law_corners : FuncData} (G__law_corners : Has P w K mg base 4 "_law_corners" ["planes", "many"] 2 s__law_corners (top 26) f__law_corners fd__law_corners) {f__law_draw : Addr} {fd__law_draw : FuncData} (G__law_draw : Has P w K mg base 1 "_law_draw" ["pen", "many"] 2 s__law_draw (top 15) f__law_draw fd__law_draw) {f__law_drawn_setting : Addr} {fd__law_drawn_setting : FuncData} (G__law_drawn_setting : Has P w K mg base 3 "_law_drawn_setting" ["pen", "opens"] 2 s__law_drawn_setting (top 18) f__law_drawn_setting fd__law_drawn_setting) {f__law_edges_of : Addr} {fd__law_edges_of : FuncData} (G__law_edges_of : Has P w K mg base 1 "_law_edges_of" ["opens"] 1 s__law_edges_of (top 22) f__law_edges_of fd__law_edges_of) {f__law_mixed : Addr} {fd__law_mixed : FuncData} (G__law_mixed : Has P w K mg base 2 "_law_mixed" ["pen", "some"] 2 s__law_mixed (top 17) f__law_mixed fd__law_mixed) {f__law_pick : Addr} {fd__law_pick : FuncData} (G__law_pick : Has P w K mg base 2 "_law_pick" ["pen", "some"] 2 s__law_pick (top 16) f__law_pick fd__law_pick) {f__law_value : Addr} {fd__law_value : FuncData} (G__law_value : Has P w K mg base 1 "_law_value" ["plane", "point"] 2 s__law_value (top 21) f__law_value fd__law_value) {f_cut : Addr} {fd_cut : FuncData} (G_cut : Has P w K mg base 4 "cut" ["corners", "plane"] 2 s_cut (top 10) f_cut fd_cut) {f_region : Addr} {fd_region : FuncData} (G_region : Has P w K mg base 6 "region" ["corners", "planes", "at"] 3 s_region (top 12) f_region fd_region) {f : Addr} {cdv : Value} {A : Around} {outer : List Env} {s : Shared} {H : Hp} {E : XK} (T : Txt mg) (hr : Room 6 (A.deeper (envOfC "law" (defScope (top 28)) s.heap.objs.size f cdv))) :
    P3Ss (cxOf CX0 P w K mg base n_law "law" (defScope (top 28)) f cdv A outer s H E).nox W0 ((defBody (top 28)).tail) t_law :=
  have hu64 := hu64_of hr
  have hu65 := hu65_of hr
  have hu1 := hu_of hr
  (scons (sfor PassesOwn.never (by rfl) (irng (by rfl) T.range int3) (gn3 2 sc_law.nd)
    (scons (sasg (add3 int3 (call3 m_s__law_draw (G__law_draw.ok.mono (by decide)) hr (by rfl) G__law_draw.mg G__law_draw.kp G__law_draw.bd (acons (v3 1) (acons int3 anil)))) (gn3 3 sc_law.nd))
  (scons (smix2 (i := 4) (j := 5) (by rfl) sc_law.nd (by rfl) (by rfl) (by decide) (by rfl) (by rfl) (lst3 anil) (flst anil) (by rfl))
  (scons (sfor PassesOwn.never (by rfl) (irng (by rfl) T.range (v3 3)) (gn3 6 sc_law.nd)
    (scons (sasg (sub3 (call3 m_s__law_draw (G__law_draw.ok.mono (by decide)) hr (by rfl) G__law_draw.mg G__law_draw.kp G__law_draw.bd (acons (v3 1) (acons int3 anil))) int3) (gn3 7 sc_law.nd))
  (sone (sapp 5 (tup3 (acons (tup3 (acons str3 (acons str3 anil))) (acons (v3 7) (acons (add3 (v3 7) (call3 m_s__law_pick (G__law_pick.ok.mono (by decide)) hr (by rfl) G__law_pick.mg G__law_pick.kp G__law_pick.bd (acons (v3 1) (acons (lst3 (acons int3 (acons int3 (acons int3 anil)))) anil)))) anil))))))))
  (scons (sasg (call3 m_s__law_edges_of (G__law_edges_of.ok.mono (by decide)) hr (by rfl) G__law_edges_of.mg G__law_edges_of.kp G__law_edges_of.bd (acons (v3 5) anil)) (gn3 4 sc_law.nd))
  (scons (sasg (call3 m_s__law_corners (G__law_corners.ok.mono (by decide)) hr (by rfl) G__law_corners.mg G__law_corners.kp G__law_corners.bd (acons (v3 4) (acons (v3 3) anil))) (gn3 8 sc_law.nd))
  (scons (sasg (lc3 (own := [("lap", 10)]) (by rfl) sc_law.nd (irng (by rfl) T.range (add3 int3 (call3 m_s__law_draw (G__law_draw.ok.mono (by decide)) hr (by rfl) G__law_draw.mg G__law_draw.kp G__law_draw.bd (acons (v3 1) (acons int3 anil))))) (blkOk_by (own := [("lap", 10)]) (N := n_law) (sc := defScope (top 28)) (by decide +kernel)) (fun _ _ _ _ _ => (gn3 10 sc_law.nd)) (fun _ _ _ _ _ => tsnil) (fun _ _ _ _ _ => (tup3 (acons (sub3 (call3 m_s__law_draw (G__law_draw.ok.mono (by decide)) hr (by rfl) G__law_draw.mg G__law_draw.kp G__law_draw.bd (acons (v3 1) (acons int3 anil))) int3) (acons (tuple3 (by rfl) T.tuple (lc3 (own := [("at", 6)]) (by rfl) sc_law.nd (irng (by rfl) T.range (v3 3)) (blkOk_in (own := [("at", 6)]) (N := n_law) (sc := { kind := PySem.ScopeKind.function, names := [ (PySem.Str.ofString ".0", PySem.NameKind.local), (PySem.Str.ofString "lap", PySem.NameKind.local), (PySem.Str.ofString "_law_draw", PySem.NameKind.globalImplicit), (PySem.Str.ofString "tuple", PySem.NameKind.globalImplicit), (PySem.Str.ofString "range", PySem.NameKind.globalImplicit), (PySem.Str.ofString "many", PySem.NameKind.free), (PySem.Str.ofString "pen", PySem.NameKind.free)], isGenerator := false, isCoroutine := false, more := [] : PySem.Scope }) (by decide +kernel)) (fun _ _ _ _ _ => (gn3 6 sc_law.nd)) (fun _ _ _ _ _ => tsnil) (fun _ _ _ _ _ => (sub3 (call3 m_s__law_draw (G__law_draw.ok.mono (by decide)) hr (by rfl) G__law_draw.mg G__law_draw.kp G__law_draw.bd (acons (v3 1) (acons int3 anil))) int3)))) anil))))) (gn3 9 sc_law.nd))
  (scons (sasg (call3 m_s__law_mixed (G__law_mixed.ok.mono (by decide)) hr (by rfl) G__law_mixed.mg G__law_mixed.kp G__law_mixed.bd (acons (v3 1) (acons (add3 (v3 9) (sl3 (v3 9) onone (osome (call3 m_s__law_draw (G__law_draw.ok.mono (by decide)) hr (by rfl) G__law_draw.mg G__law_draw.kp G__law_draw.bd (acons (v3 1) (acons int3 anil)))))) anil))) (gn3 9 sc_law.nd))
  (scons (ssetLc (i := 11) (own := [("at", 6)]) (by rfl) sc_law.nd (by rfl) (by rfl) (sw_true rfl rfl rfl (by decide +kernel)) (irng (by rfl) T.range (len3 (by rfl) T.len (v3 9))) (blkOk_by (own := [("at", 6)]) (N := n_law) (sc := defScope (top 28)) (by decide +kernel)) (fun _ _ _ _ _ => (gn3 6 sc_law.nd)) (fun _ _ _ _ _ => tsnil) (fun _ _ _ _ _ => (call3 m_s_region (G_region.ok.mono (by decide)) hr (by rfl) G_region.mg G_region.kp G_region.bd (acons (v3 8) (acons (v3 9) (acons (v3 6) anil))))))
  (scons (sfor PassesOwn.never (by rfl) (ienum (by rfl) T.enumerate (v3 9)) (gtup3 (by rfl) (gcons3 (gn3 6 sc_law.nd) (gcons3 (gn3 12 sc_law.nd) gnil3)))
    (scons (ssetLc (i := 13) (own := [("one", 16)]) (by rfl) sc_law.nd (by rfl) (by rfl) (sw_true rfl rfl rfl (by decide +kernel)) (iseq (v3 9)) (blkOk_by (own := [("one", 16)]) (N := n_law) (sc := defScope (top 28)) (by decide +kernel)) (fun _ _ _ _ _ => (gn3 16 sc_law.nd)) (fun _ _ _ _ _ => tsnil) (fun _ _ _ _ _ => (tup3 (acons (sub3 (ix3 (v3 16) int3) (ix3 (v3 12) int3)) (acons (tuple3 (by rfl) T.tuple (lc3 (own := [("count", 14), ("its", 15)]) (by rfl) sc_law.nd (izip (by rfl) T.zip (ix3 (v3 16) int3) (ix3 (v3 12) int3)) (blkOk_in (own := [("count", 14), ("its", 15)]) (N := n_law) (sc := { kind := PySem.ScopeKind.function, names := [ (PySem.Str.ofString ".0", PySem.NameKind.local), (PySem.Str.ofString "one", PySem.NameKind.local), (PySem.Str.ofString "tuple", PySem.NameKind.globalImplicit), (PySem.Str.ofString "zip", PySem.NameKind.globalImplicit), (PySem.Str.ofString "plane", PySem.NameKind.free)], isGenerator := false, isCoroutine := false, more := [] : PySem.Scope }) (by decide +kernel)) (fun _ _ _ _ _ => (gtup3 (by rfl) (gcons3 (gn3 14 sc_law.nd) (gcons3 (gn3 15 sc_law.nd) gnil3)))) (fun _ _ _ _ _ => tsnil) (fun _ _ _ _ _ => (sub3 (v3 14) (v3 15))))) anil)))))
  (sone (sif (P3W.pt (or3 (neT3 hu64 (ix3 (v3 11) (v3 6)) (call3 m_s__law_corners (G__law_corners.ok.mono (by decide)) hr (by rfl) G__law_corners.mg G__law_corners.kp G__law_corners.bd (acons (add3 (v3 4) (v3 13)) (acons (v3 3) anil)))) (or1 (neT3 hu64 (callK03 m_s_region (G_region.ok.mono (by decide)) hr (by rfl) G_region.mg G_region.kp (Fun.kbinds (ks := ["at", "planes", "corners"]) (m := 0) (c := 3) (ix := [2, 1, 0]) (by decide) G_region.fn fun _ _ _ _ _ _ us ws h1 h2 => match us, ws, h1, h2 with | [], [_, _, _], _, _ => rfl) (kcons (v3 6) (kcons (tuple3 (by rfl) T.tuple (v3 9)) (kcons (v3 8) knil)))) (ix3 (v3 11) (v3 6))))))
    (sone (sret bl3))
    snil))))
  (sone (sfor PassesOwn.never (by rfl) (irng (by rfl) T.range int3) (gn3 10 sc_law.nd)
    (scons (sasg (call3 m_s__law_drawn_setting (G__law_drawn_setting.ok.mono (by decide)) hr (by rfl) G__law_drawn_setting.mg G__law_drawn_setting.kp G__law_drawn_setting.bd (acons (v3 1) (acons (v3 5) anil))) (gn3 17 sc_law.nd))
  (scons (ssetLc (i := 18) (own := [("plane", 12)]) (by rfl) sc_law.nd (by rfl) (by rfl) (sw_true rfl rfl rfl (by decide +kernel)) (iseq (v3 9)) (blkOk_by (own := [("plane", 12)]) (N := n_law) (sc := defScope (top 28)) (by decide +kernel)) (fun _ _ _ _ _ => (gn3 12 sc_law.nd)) (fun _ _ _ _ _ => tsnil) (fun _ _ _ _ _ => (call3 m_s__law_value (G__law_value.ok.mono (by decide)) hr (by rfl) G__law_value.mg G__law_value.kp G__law_value.bd (acons (v3 12) (acons (v3 17) anil)))))
  (sone (sfor PassesOwn.never (by rfl) (irng (by rfl) T.range (len3 (by rfl) T.len (v3 9))) (gn3 6 sc_law.nd)
    (scons (sasg (call3 m_s_region (G_region.ok.mono (by decide)) hr (by rfl) G_region.mg G_region.kp G_region.bd (acons (v3 8) (acons (v3 9) (acons (v3 6) anil)))) (gn3 19 sc_law.nd))
  (scons (sfor PassesOwn.never (by rfl) (irng (by rfl) T.range (v3 3)) (gn3 20 sc_law.nd)
    (scons (sasg (tuple3 (by rfl) T.tuple (lc3 (own := [("one", 16)]) (by rfl) sc_law.nd (irng (by rfl) T.range (v3 3)) (blkOk_by (own := [("one", 16)]) (N := n_law) (sc := defScope (top 28)) (by decide +kernel)) (fun _ _ _ _ _ => (gn3 16 sc_law.nd)) (fun _ _ _ _ _ => tsnil) (fun _ _ _ _ _ => (mul3 (ix3 (v3 17) int3) (int3c (by rfl) T.int (eq3 hu64 (v3 16) (v3 20))))))) (gn3 21 sc_law.nd))
  (sone (sasg (if3 (neT3 hu64 (v3 19) (tup3 anil)) (call3 m_s_cut (G_cut.ok.mono (by decide)) hr (by rfl) G_cut.mg G_cut.kp G_cut.bd (acons (call3 m_s_cut (G_cut.ok.mono (by decide)) hr (by rfl) G_cut.mg G_cut.kp G_cut.bd (acons (v3 19) (acons (tup3 (acons (sub3 int3 (ix3 (ix3 (v3 17) int3) (v3 20))) (acons (v3 21) anil))) anil))) (acons (tup3 (acons (ix3 (ix3 (v3 17) int3) (v3 20)) (acons (tuple3 (by rfl) T.tuple (lc3 (own := [("one", 16)]) (by rfl) sc_law.nd (iseq (v3 21)) (blkOk_by (own := [("one", 16)]) (N := n_law) (sc := defScope (top 28)) (by decide +kernel)) (fun _ _ _ _ _ => (gn3 16 sc_law.nd)) (fun _ _ _ _ _ => tsnil) (fun _ _ _ _ _ => (sub3 int3 (v3 16))))) anil))) anil))) (tup3 anil)) (gn3 19 sc_law.nd)))))
  (sone (sif (P3W.pt (or3 (neT3 hu64 (ne3 hu64 (v3 19) (tup3 anil)) (eq3 hu64 (ix3 (v3 18) (v3 6)) (max3 (by rfl) (by rfl) T.max (v3 18)))) (or1 (notint3 hu65 (v3 19) (tup3 (acons (tup3 anil) (acons (tup3 (acons (v3 17) anil)) anil)))))))
    (sone (sret bl3))
    snil))))))))))))))))))))
  (sone (sret bl3)))
theorem ok_law {f__law_corners : Addr} {fd__law_corners : FuncData} (G__law_corners : Has P w K mg base 4 "_law_corners" ["planes", "many"] 2 s__law_corners (top 26) f__law_corners fd__law_corners) {f__law_draw : Addr} {fd__law_draw : FuncData} (G__law_draw : Has P w K mg base 1 "_law_draw" ["pen", "many"] 2 s__law_draw (top 15) f__law_draw fd__law_draw) {f__law_drawn_setting : Addr} {fd__law_drawn_setting : FuncData} (G__law_drawn_setting : Has P w K mg base 3 "_law_drawn_setting" ["pen", "opens"] 2 s__law_drawn_setting (top 18) f__law_drawn_setting fd__law_drawn_setting) {f__law_edges_of : Addr} {fd__law_edges_of : FuncData} (G__law_edges_of : Has P w K mg base 1 "_law_edges_of" ["opens"] 1 s__law_edges_of (top 22) f__law_edges_of fd__law_edges_of) {f__law_mixed : Addr} {fd__law_mixed : FuncData} (G__law_mixed : Has P w K mg base 2 "_law_mixed" ["pen", "some"] 2 s__law_mixed (top 17) f__law_mixed fd__law_mixed) {f__law_pick : Addr} {fd__law_pick : FuncData} (G__law_pick : Has P w K mg base 2 "_law_pick" ["pen", "some"] 2 s__law_pick (top 16) f__law_pick fd__law_pick) {f__law_value : Addr} {fd__law_value : FuncData} (G__law_value : Has P w K mg base 1 "_law_value" ["plane", "point"] 2 s__law_value (top 21) f__law_value fd__law_value) {f_cut : Addr} {fd_cut : FuncData} (G_cut : Has P w K mg base 4 "cut" ["corners", "plane"] 2 s_cut (top 10) f_cut fd_cut) {f_region : Addr} {fd_region : FuncData} (G_region : Has P w K mg base 6 "region" ["corners", "planes", "at"] 3 s_region (top 12) f_region fd_region) {f__law_pen : Addr} {fd__law_pen : FuncData} (FP : Fun K "_law_pen" "_law_pen" (top 14) f__law_pen fd__law_pen) (mP : mg "_law_pen" = some (.ref f__law_pen)) (bP : Binds K fd__law_pen ["script"] []) {f : Addr} {fd : FuncData} (F : Fun K "law" "law" (top 28) f fd) (T : Txt mg) (hl : LawRest 20 t_law) : FnOk P w K mg base CX0 7 f fd ["script"] (spLaw K) := by
  refine F.ok (k := 6) sc_law (fun vs H Q E h => ?_) (fun cdv A outer s H vs Q E hr h => ?_)
  · obtain ⟨a, ns, rfl, _⟩ := h; rfl
  · obtain ⟨a, ns, rfl, hS, h63, q⟩ := h
    have hr1 : Room 1 _ := hr.mono (by decide)
    have rest := body_law G__law_corners G__law_draw G__law_drawn_setting G__law_edges_of G__law_mixed G__law_pick G__law_value G_cut G_region (cdv := cdv) (outer := outer) (s := s) (H := H) (E := E) T hr
    refine ⟨_, pss_cons (ps_set (i := 1) sc_law.nd rfl (by first | exact Or.inl rfl | exact Or.inr rfl) (pe_call (ok__law_pen (base := base) (P := P) (w := w) FP T) hr1 (by rfl) mP FP.kp bP .nil pass0 (pa_cons (pv 0) pa_nil))) rest.run, ?_⟩
    exact ⟨_, rfl, a, ns, rfl, hS, h63, fun p c H' e hp hc ne h1 h2 => law_rest (X := cxOf CX0 P w K mg base n_law "law" (defScope (top 28)) f cdv A outer s H E) h1 h2 ne h63 rfl (fun H' => q H') hl⟩
end
end K18
namespace K18
open PySem PySem.Spec PyProof.Rows L2 L3
theorem loop_gcd {E : Ends3} {a L : Slot} {T : Nat} : ∀ (ns : List Int) (p : Int) (s : Slot), (∀ s, E.nx ⟨[a, L, .val (.int (ns.foldl gcdI p)), s], T⟩) →
    loop3 (gName3 3) (tAsg3 (tCB3 gGcd (tCons3 (tVar3 2) (tCons3 (tVar3 3) tNil3))) (gName3 2)) (ns.map D.int) E ⟨[a, L, .val (.int p), s], T⟩
  | [], p, s, h => h s
  | n :: r, p, s, h => loop_gcd r (gcdI p n) _ h
theorem r_lowest (ds : List D) (TT : Nat) (kk : D → Nat → Prop) (hl : ds.length = 2) (h : s_lowest ds TT kk) : t_lowest { nx := fun ρ => kk .non ρ.T, rt := fun d ρ => kk d ρ.T } ⟨ds.map .val ++ List.replicate 2 .un, TT⟩ := by
  obtain ⟨q, d, ns, rfl, hd, hq, hb, hl, k⟩ := h
  have pl := partL_log (ns := ns) hq hb
  have fin : ∀ E : Ends3, (E.rt = fun d ρ => kk d ρ.T) → ∀ (s : Slot) (d : D), seqD d (ns.map D.int) → (tSeq3 (tIfS3 (tB3 (b3 gLt (tVar3 0) (tC3 (.int 0)))) (tAsg3 (b3 L3.gSub (tC3 (.int 0)) (tVar3 2)) (gName3 2)) tNext3)
    (tRet3 (tTup3 (tCons3 (b3 gDiv (tVar3 0) (tVar3 2)) (tCons3 (tCB3 gTuple (tCons3 (tLc3 (iSeq3 (tVar3 1)) (gName3 3) tYes3 (b3 gDiv (tVar3 3) (tVar3 2)) [3]) tNil3)) tNil3))))) E ⟨[.val (.int q), .val d, .val (.int (gcdL q ns)), s], TT⟩ := by
    intro E hE s d hd
    -- behind the test: part is what it is
    have tail : ∀ (s : Slot), tRet3 (tTup3 (tCons3 (b3 gDiv (tVar3 0) (tVar3 2)) (tCons3 (tCB3 gTuple (tCons3 (tLc3 (iSeq3 (tVar3 1)) (gName3 3) tYes3 (b3 gDiv (tVar3 3) (tVar3 2)) [3]) tNil3)) tNil3))) E ⟨[.val (.int q), .val d, .val (.int (partL q ns)), s], TT⟩ := by
      intro s
      refine ⟨pl, ?_⟩
      have go : ∀ k : List D → Env3 → Prop, k (ns.map fun n => D.int (n.fdiv (partL q ns))) ⟨[.val (.int q), .val d, .val (.int (partL q ns)), .un], TT⟩ → lcGo (gName3 3) tYes3 (b3 gDiv (tVar3 3) (tVar3 2)) [3] (ns.map D.int) [] ⟨[.val (.int q), .val d, .val (.int (partL q ns)), .un], TT⟩ k := fun k hk =>
        lcGo_map D.int (fun n => D.int (n.fdiv (partL q ns))) ns [] (fun n _ K K2 hK => ⟨pl, hK _ rfl⟩) (by rw [List.length_nil]; exact Nat.le_trans (by omega) (by decide : 1000 ≤ sizeLine)) hk
      have e : (ns.map fun n => D.int (n.fdiv (partL q ns))) = (low q ns).2.map D.int := by
        show _ = (ns.map _).map _
        rw [List.map_map]
        rfl
      rcases hd with rfl | rfl
      all_goals
        refine go _ ⟨by show 2 ≤ sizeLine; decide, ?_⟩
        rw [hE]
        show kk (.tup [.int (q.fdiv (partL q ns)), .tup _]) TT
        rw [e]
        exact k
    unfold partL at tail
    show (match decide (q < 0) with | true => _ | false => _)
    by_cases h0 : q < 0
    · rw [decide_eq_true h0]
      have := tail s
      rw [if_pos h0] at this
      exact this
    · rw [decide_eq_false h0]
      have := tail s
      rw [if_neg h0] at this
      exact this
  rcases hd with rfl | rfl
  · exact loop_gcd ns (absI q) .un fun s => fin _ rfl s _ (.inl rfl)
  · exact loop_gcd ns (absI q) .un fun s => fin _ rfl s _ (.inr rfl)
end K18
/-! k18: drawing, read -/
namespace K18
open PySem PySem.Spec PyProof.Rows L2 L3
def penL (cs : List Int) (u r : Int) : Slot := .own (.lst [.lst (cs.map D.int), .int u, .int r])
theorem drawn_fmod {many x : Int} (h : ¬ many < 2) : Drawn many (x.fmod many) := ⟨fun z => absurd z h, fun _ => ⟨Int.fmod_nonneg_of_pos _ (by omega), Int.fmod_lt_of_pos _ (by omega)⟩⟩
theorem bd_fmod {x m : Int} {k : Nat} (h : 0 < m) (hm : m ≤ 2 ^ k) : Bd k (x.fmod m) := by
  have h1 := Int.fmod_nonneg_of_pos x h
  have h2 := Int.fmod_lt_of_pos x h
  show (x.fmod m).natAbs < 2 ^ k
  have h3 : ((x.fmod m).natAbs : Int) < ((2 ^ k : Nat) : Int) := by
    rw [Int.natAbs_of_nonneg h1]
    push_cast
    omega
  exact Int.ofNat_lt.mp h3
theorem pow_of {a : Nat} {i : Int} {j : Int} (h : Bd a i) (ha : a ≤ 64) (h0 : 0 ≤ j) (h1 : j ≤ 1000000) : CPow i j := ⟨h0, h1, h.mono ha⟩
theorem list3_rep (cs : List Int) : SeqAt.shaped (D.lst (cs.map D.int)).py = true := by
  unfold SeqAt.shaped
  have h1 : (D.lst (cs.map D.int)).py = .list (cs.map .int) := by
    show PyData.list (pyA (cs.map D.int)) = _
    rw [pyA_ints]
  rw [h1]
  have := depth_ints' cs
  simp only [PyData.canLay0, lay_ints, PyData.depth, Bool.true_and, decide_eq_true_eq]
  exact decide_eq_true (by omega)
theorem lst_ne_nil (cs : List Int) : (!PyData.eqv (D.lst (cs.map D.int)).py (D.lst []).py) = !cs.isEmpty := by
  cases cs with
  | nil => rfl
  | cons c r => rfl
/-- what stands behind the cell's choice -/
theorem draw_tail {cs : List Int} {u r many cell : Int} {s2 s5 : Slot} {T : Nat} {E : Ends3} (hu : 0 ≤ u) (huT : u ≤ (T : Int)) (hT : T ≤ 1000000) (h2 : ¬ many < 2) (hlog : many.natAbs.log2 < 9000) (hr : r = 0)
    (hE : ∀ (x : Int) (r' : Int) (a b c d : Slot), 0 ≤ r' → Drawn many x → E.rt (.int x) ⟨[penL cs (u + 1) r', .val (.int many), a, b, c, d], T⟩) :
    (tSeq3 (tIfS3 (tAnd3 (tB3 (b3 gLt (tVar3 3) (tCB3 gLen (tCons3 (tIxO 0 (tC3 (.int 0))) tNil3)))) (tB3 (b3 gGe (tCB3 gAbs (tCons3 (tVar3 4) tNil3)) (b3 gPow (tC3 (.int 10)) (tC3 (.int 18)))))) (tSeq3 (tAsg3 (b3 gAdd (b3 gMul (tC3 (.int 2)) (b3 L3.gSub (tCB3 gAbs (tCons3 (tVar3 4) tNil3)) (b3 gPow (tC3 (.int 10)) (tC3 (.int 18))))) (tCB3 gInt (tCons3 (b3 gLt (tVar3 4) (tC3 (.int 0))) tNil3))) (gName3 2))
      (tSeq3 (tSetO 0 (tC3 (.int 2)) (b3 gDiv (tCB3 gInt (tCons3 (tVar3 2) tNil3)) (tVar3 1)))
      (tRet3 (b3 gMod (tCB3 gInt (tCons3 (tVar3 2) tNil3)) (tVar3 1))))) tNext3)
    (tSeq3 (tAsg3 (b3 gMod (tCB3 gInt (tCons3 (b3 gPow (b3 gAdd (b3 gAdd (b3 gMod (tCB3 gInt (tCons3 (tVar3 4) tNil3)) (tC3 (.int 2147483549))) (b3 gMul (tC3 (.int 75031)) (tVar3 3))) (tC3 (.int 9839))) (tC3 (.int 3))) tNil3)) (tC3 (.int 2147483587))) (gName3 5))
    (tSeq3 (tAsg3 (b3 gMod (tCB3 gInt (tCons3 (b3 gPow (b3 gAdd (b3 gAdd (b3 gMul (tVar3 5) (b3 gAdd (b3 gMul (tC3 (.int 2)) (tVar3 3)) (tC3 (.int 4357)))) (b3 gMul (b3 gMul (tC3 (.int 90247)) (tVar3 3)) (tVar3 3))) (tC3 (.int 75031))) (tC3 (.int 5))) tNil3)) (tC3 (.int 2147483563))) (gName3 5))
    (tRet3 (b3 gMod (tCB3 gInt (tCons3 (b3 gDiv (tVar3 5) (tC3 (.int 32))) tNil3)) (tVar3 1)))))) E ⟨[penL cs (u + 1) r, .val (.int many), s2, .val (.int u), .val (.int cell), s5], T⟩ := by
  have hm0 : many ≠ 0 := by omega
  have bu : Bd 20 u := by show u.natAbs < 2 ^ 20; omega
  have bc : ∀ {k : Nat} {c : Int}, c.natAbs < 2 ^ k → Bd k c := fun h => h
  -- the mixing
  have mix : ∀ s2, (tSeq3 (tAsg3 (b3 gMod (tCB3 gInt (tCons3 (b3 gPow (b3 gAdd (b3 gAdd (b3 gMod (tCB3 gInt (tCons3 (tVar3 4) tNil3)) (tC3 (.int 2147483549))) (b3 gMul (tC3 (.int 75031)) (tVar3 3))) (tC3 (.int 9839))) (tC3 (.int 3))) tNil3)) (tC3 (.int 2147483587))) (gName3 5))
    (tSeq3 (tAsg3 (b3 gMod (tCB3 gInt (tCons3 (b3 gPow (b3 gAdd (b3 gAdd (b3 gMul (tVar3 5) (b3 gAdd (b3 gMul (tC3 (.int 2)) (tVar3 3)) (tC3 (.int 4357)))) (b3 gMul (b3 gMul (tC3 (.int 90247)) (tVar3 3)) (tVar3 3))) (tC3 (.int 75031))) (tC3 (.int 5))) tNil3)) (tC3 (.int 2147483563))) (gName3 5))
    (tRet3 (b3 gMod (tCB3 gInt (tCons3 (b3 gDiv (tVar3 5) (tC3 (.int 32))) tNil3)) (tVar3 1))))) E ⟨[penL cs (u + 1) r, .val (.int many), s2, .val (.int u), .val (.int cell), s5], T⟩ := by
    intro s2
    have b1 : Bd 31 (cell.fmod 2147483549) := bd_fmod (by decide) (by decide)
    have b2 : Bd 37 (75031 * u) := Bd.mul (bc (k := 17) (by decide)) bu
    have b3 : Bd 39 (cell.fmod 2147483549 + 75031 * u + 9839) := ((b1.mono (by decide : 31 ≤ 37)).add b2).add (bc (k := 38) (by decide))
    refine ⟨by decide, (bc (k := 17) (c := 75031) (by decide)).cmul bu (by decide) (by decide) (by decide), pow_of b3 (by decide) (by decide) (by decide), by decide, ?_⟩
    refine ⟨Bd.cmul (bc (k := 2) (by decide)) bu (by decide) (by decide) (by decide), ?_⟩
    have c1 : ∀ x : Int, Bd 31 (x.fmod 2147483587) := fun x => bd_fmod (by decide) (by decide)
    have c2 : Bd 23 (2 * u + 4357) := ((Bd.mul (bc (k := 2) (c := 2) (by decide)) bu).add (bc (k := 22) (by decide)))
    have c3 : Bd 37 (90247 * u) := Bd.mul (bc (k := 17) (by decide)) bu
    have c4 : Bd 57 (90247 * u * u) := Bd.mul c3 bu
    refine ⟨(c1 _).cmul c2 (by decide) (by decide) (by decide), (bc (k := 17) (by decide)).cmul bu (by decide) (by decide) (by decide), c3.cmul bu (by decide) (by decide) (by decide), ?_, by decide, ?_⟩
    · exact pow_of (((((c1 _).mul c2).mono (by decide : 31 + 23 ≤ 57)).add c4).add (bc (k := 58) (by decide))) (by decide) (by decide) (by decide)
    · exact ⟨⟨by decide, by decide⟩, hm0, hE _ r _ _ _ _ (by omega) (drawn_fmod h2)⟩
  show (match decide (u < ((cs.map D.int).length : Int)) with | true => _ | false => _)
  by_cases h1 : u < ((cs.map D.int).length : Int)
  · rw [decide_eq_true h1]
    refine ⟨⟨by decide, by decide, by decide⟩, ?_⟩
    show (match decide ((10 : Int) ^ 18 ≤ if cell < 0 then -cell else cell) with | true => _ | false => _)
    by_cases h3 : (10 : Int) ^ 18 ≤ if cell < 0 then -cell else cell
    · rw [decide_eq_true h3]
      refine ⟨⟨by decide, by decide, by decide⟩, .inr (.inl ⟨by decide, by decide⟩), ?_⟩
      refine ⟨⟨hm0, hlog⟩, hm0, ?_⟩
      refine hE _ _ _ _ _ _ ?_ (drawn_fmod h2)
      show 0 ≤ Int.fdiv (2 * ((if cell < 0 then -cell else cell) - 10 ^ 18) + (if decide (cell < 0) then 1 else 0)) many
      refine Int.fdiv_nonneg ?_ (by omega)
      split <;> omega
    · rw [decide_eq_false h3]
      exact mix s2
  · rw [decide_eq_false h1]
    exact mix s2
theorem r__law_draw (ds : List D) (TT : Nat) (kk : D → Nat → Prop) (h : s__law_draw ds TT kk) : ∃ many, ds = [.pen, .int many] ∧ ∀ (cs : List Int) (u r : Int), cs.length ≤ 63 → 0 ≤ u → u ≤ (TT : Int) → 0 ≤ r →
      t__law_draw { nx := fun _ => False, rt := fun d ρ => ∃ T' i, d = .int i ∧ PenSlot ρ T' ∧ kk d T' } ⟨[.own (.lst [.lst (cs.map D.int), .int u, .int r]), .val (.int many)] ++ List.replicate 4 .un, TT⟩ := by
  obtain ⟨many, rfl, hT, hlog, k⟩ := h
  refine ⟨many, rfl, fun cs u r h63 hu huT hr => ?_⟩
  show (match decide (many < 2) with | true => _ | false => _)
  by_cases h2 : many < 2
  · rw [decide_eq_true h2]
    exact ⟨TT, 0, rfl, ⟨cs, u, r, rfl, h63, hu, huT, hr⟩, k 0 TT (Nat.le_succ _) ⟨fun _ => rfl, fun z => by omega⟩⟩
  · rw [decide_eq_false h2]
    have hm0 : many ≠ 0 := by omega
    show (match decide ((0 : Int) < r) with | true => _ | false => _)
    by_cases h0 : 0 < r
    · rw [decide_eq_true h0]
      refine ⟨⟨hm0, hlog⟩, hm0, TT, _, rfl, ⟨cs, u, r.fdiv many, rfl, h63, hu, huT, Int.fdiv_nonneg hr (by omega)⟩, k _ TT (Nat.le_succ _) (drawn_fmod h2)⟩
    · rw [decide_eq_false h0]
      have hr0 : r = 0 := by omega
      have bu : Bd 20 u := by show u.natAbs < 2 ^ 20; omega
      refine ⟨(show Bd 17 75031 by show (75031 : Int).natAbs < 2 ^ 17; decide).cmul bu (by decide) (by decide) (by decide), ?_⟩
      refine ⟨(by decide : 0 ≤ sizeLine), list3_rep cs, list3_rep [], ?_⟩
      have fin : ∀ cell s2 s5, _ := fun (cell : Int) (s2 s5 : Slot) => draw_tail (cs := cs) (u := u) (r := r) (many := many) (cell := cell) (s2 := s2) (s5 := s5) (T := TT) (E := { nx := fun _ => False, rt := fun d ρ => ∃ T' i, d = .int i ∧ PenSlot ρ T' ∧ kk d T' }) hu huT hT h2 hlog hr0
        fun x r' a b c d hr' hx => ⟨TT + 1, x, rfl, ⟨cs, u + 1, r', rfl, h63, by omega, by omega, hr'⟩, k x (TT + 1) (Nat.le_refl _) hx⟩
      show (match !PyData.eqv (D.lst (cs.map D.int)).py (D.lst []).py with | true => _ | false => _)
      rw [lst_ne_nil]
      cases cs with
      | nil => exact fin _ _ _
      | cons c cs' =>
        have hpos : (0 : Int) < (((c :: cs').map D.int).length : Int) := by rw [List.length_map, List.length_cons]; omega
        have hlen : ((((c :: cs').map D.int).length : Nat) : Int) ≠ 0 := by omega
        refine ⟨hlen, ?_⟩
        have f1 := Int.fmod_nonneg_of_pos u hpos
        have f2 := Int.fmod_lt_of_pos u hpos
        generalize hx : u.fmod (((c :: cs').map D.int).length : Int) = x at f1 f2
        have hat : ∃ cell : Int, atI ((c :: cs').map D.int) x = some (.int cell) := by
          unfold atI
          have hix : ixN ((c :: cs').map D.int).length x = some x.toNat := by
            unfold ixN
            rw [if_pos f1, if_pos f2]
          rw [hix]
          have hlt : x.toNat < (c :: cs').length := by rw [List.length_map] at f2; omega
          exact ⟨(c :: cs')[x.toNat], by show ((c :: cs').map D.int)[x.toNat]? = _; rw [List.getElem?_map, List.getElem?_eq_getElem hlt]; rfl⟩
        obtain ⟨cell, hcell⟩ := hat
        show optK (atI ((c :: cs').map D.int) x) _
        rw [hcell]
        exact fin cell _ _
end K18
/-! k18: picks, mixes, greatest divisors, read -/
namespace K18
open PySem PySem.Spec PyProof.Rows L2 L3
theorem ixN_of {n : Nat} {i : Int} (h0 : 0 ≤ i) (h1 : i < n) : ixN n i = some i.toNat := by
  unfold ixN
  rw [if_pos h0, if_pos h1]
theorem atI_of {α : Type} {xs : List α} {i : Int} (h0 : 0 ≤ i) (h1 : i < xs.length) : ∃ x, x ∈ xs ∧ atI xs i = some x := by
  have hlt : i.toNat < xs.length := by omega
  refine ⟨xs[i.toNat], List.getElem_mem hlt, ?_⟩
  unfold atI
  rw [ixN_of h0 h1]
  exact List.getElem?_eq_getElem hlt
theorem drawn_in {n : Nat} {r : Int} (h : Drawn (n : Int) r) (hn : n ≠ 0) : 0 ≤ r ∧ r < n := by
  by_cases h2 : ((n : Nat) : Int) < 2
  · have := h.1 h2; omega
  · exact h.2 (by omega)
theorem log_small {n : Nat} (h : n ≤ 1000) : ((n : Nat) : Int).natAbs.log2 < 9000 := by
  have e : ((n : Nat) : Int).natAbs = n := rfl
  rw [e]
  exact Nat.lt_of_le_of_lt (Nat.log2_le_self n) (by omega)
theorem r__law_pick (ds : List D) (TT : Nat) (kk : D → Nat → Prop) (hl : ds.length = 2) (h : s__law_pick ds TT kk) : t__law_pick { nx := fun ρ => kk .non ρ.T, rt := fun d ρ => kk d ρ.T } ⟨ds.map .val ++ List.replicate 0 .un, TT⟩ := by
  obtain ⟨xs, rfl, hT, hne, hx, k⟩ := h
  refine ⟨rfl, _, rfl, hT, log_small hx, fun r T' hT' hr => ?_⟩
  have hlen : xs.length ≠ 0 := fun z => hne (List.eq_nil_of_length_eq_zero z)
  obtain ⟨h0, h1⟩ := drawn_in hr hlen
  obtain ⟨x, hm, e⟩ := atI_of h0 h1
  show optK (atI xs r) _
  rw [e]
  exact k x hm T' hT'
theorem erase_perm {α : Type} : ∀ {xs : List α} {n : Nat} {x : α}, xs[n]? = some x → (x :: xs.eraseIdx n).Perm xs
  | [], _, _, h => by simp at h
  | y :: ys, 0, x, h => by simp at h; subst h; exact .refl _
  | y :: ys, n + 1, x, h => by
    have h : ys[n]? = some x := by simpa using h
    exact (List.Perm.swap y x _).trans ((erase_perm h).cons y)
theorem loop_mixed {E : Ends3} {s1 : Slot} : ∀ (n : Nat) (lo : Int) (left found : List D) (T : Nat) (s4 : Slot), left.length = n → T + n ≤ 1000000 → found.length + n ≤ 1000 → (∀ ys, ys.Perm (found ++ left) → ∀ T', T' ≤ T + n → ∀ s s4, E.nx ⟨[.val .pen, s1, s, .own (.lst ys), s4], T'⟩) →
    loop3 (gName3 4) (tAppO 3 (tPopO 2 (tFn3 2 s__law_draw (tCons3 (tVar3 0) (tCons3 (tLenO 2) tNil3))))) (upto lo n) E ⟨[.val .pen, s1, .own (.lst left), .own (.lst found), s4], T⟩
  | 0, lo, left, found, T, s4, hl, hT, hf, h => by
    have e : left = [] := List.eq_nil_of_length_eq_zero hl
    subst e
    exact h found (by rw [List.append_nil]) T (Nat.le_refl _) _ _
  | n + 1, lo, left, found, T, s4, hl, hT, hf, h => by
    have hup : upto lo (n + 1) = .int lo :: upto (lo + 1) n := by
      unfold upto
      rw [List.range_succ_eq_map, List.map_cons, List.map_map]
      refine congr (congrArg List.cons ?_) ?_
      · simp
      · apply List.map_congr_left
        intro i _
        show D.int (lo + ((i + 1 : Nat) : Int)) = D.int (lo + 1 + (i : Int))
        congr 1
        omega
    rw [hup]
    refine ⟨rfl, _, rfl, (by omega : T ≤ 1000000), ?_, fun r T' hT' hr => ?_⟩
    · exact log_small (by omega)
    · have hT' : T' ≤ T + 1 := hT'
      obtain ⟨h0, h1⟩ := drawn_in hr (by omega)
      have hlt : r.toNat < left.length := by omega
      refine ⟨⟨by omega, by omega⟩, ?_⟩
      have hs : seqIndex? r left.length = some r.toNat := seqIndex_of h0 h1
      show optK (seqIndex? r left.length) _
      rw [hs]
      have hg : left[r.toNat]? = some left[r.toNat] := List.getElem?_eq_getElem hlt
      show optK left[r.toNat]? _
      rw [hg]
      refine ⟨Nat.lt_of_lt_of_le (by omega : found.length < 1001) (by decide), ?_⟩
      refine loop_mixed n (lo + 1) (left.eraseIdx r.toNat) (found ++ [left[r.toNat]]) T' _ (by rw [List.length_eraseIdx_of_lt hlt]; omega) (by omega) (by rw [List.length_append]; simp; omega) fun ys hp T2 hT2 s s4 => ?_
      refine h ys (hp.trans ?_) T2 (by omega) s s4
      rw [List.append_assoc]
      exact (List.Perm.append_left found (erase_perm hg))
theorem r__law_mixed (ds : List D) (TT : Nat) (kk : D → Nat → Prop) (hl : ds.length = 2) (h : s__law_mixed ds TT kk) : t__law_mixed { nx := fun ρ => kk .non ρ.T, rt := fun d ρ => kk d ρ.T } ⟨ds.map .val ++ List.replicate 3 .un, TT⟩ := by
  obtain ⟨d, xs, rfl, hd, hT, hx, k⟩ := h
  have go : ∀ d, (tSeq3 (tFor3 (iRng3 (tLenO 2)) (gName3 4) (tAppO 3 (tPopO 2 (tFn3 2 s__law_draw (tCons3 (tVar3 0) (tCons3 (tLenO 2) tNil3)))))) (tRet3 (tVar3 3))) { nx := fun ρ => kk .non ρ.T, rt := fun d ρ => kk d ρ.T } ⟨[.val .pen, .val d, .own (.lst xs), .own (.lst []), .un], TT⟩ := fun d => by
    refine ⟨⟨by show -(2 ^ 62) ≤ ((xs.length : Nat) : Int); omega, by show ((xs.length : Nat) : Int) < 2 ^ 62; omega⟩, ?_⟩
    have e : ((xs.length : Nat) : Int).toNat = xs.length := rfl
    show loop3 _ _ (upto 0 ((xs.length : Nat) : Int).toNat) _ _
    rw [e]
    refine loop_mixed xs.length 0 xs [] TT .un rfl hT (by simpa using hx) fun ys hp T' hT' s s4 => ?_
    exact k ys hp T' hT'
  have z : (0 : Nat) ≤ sizeLine := by decide
  rcases hd with rfl | rfl
  · exact ⟨z, ⟨⟨by decide, (by decide : 2 < 5)⟩, by decide, (by decide : 3 < 5)⟩, go _⟩
  · exact ⟨z, ⟨⟨by decide, (by decide : 2 < 5)⟩, by decide, (by decide : 3 < 5)⟩, go _⟩
/-! ### Euclid -/
inductive Eu : Nat → Nat → Nat → Prop
  | done {n a : Nat} : Eu n a 0
  | step {n a b : Nat} : b ≠ 0 → Eu n b (a % b) → Eu (n + 1) a b
theorem Eu.more {n a b : Nat} (h : Eu n a b) : ∀ {m : Nat}, n ≤ m → Eu m a b := by
  induction h with
  | done => exact fun _ => .done
  | @step n a b hb h ih =>
    intro m hm
    obtain ⟨m', rfl⟩ : ∃ m', m = m' + 1 := ⟨m - 1, by omega⟩
    exact .step hb (ih (by omega))
theorem eu_pow : ∀ (m a b : Nat), b < 2 ^ m → Eu (2 * m) a b
  | 0, a, b, h => by
    have : b = 0 := by simpa using h
    subst this; exact .done
  | m + 1, a, b, h => by
    by_cases hb : b = 0
    · subst hb; exact .done
    · refine .step (n := 2 * m + 1) hb ?_
      by_cases hr : a % b = 0
      · rw [hr]; exact .done
      · refine .step (n := 2 * m) hr (eu_pow m _ _ ?_)
        have h1 : b % (a % b) < a % b := Nat.mod_lt _ (by omega)
        have h2 : a % b < b := Nat.mod_lt _ (by omega)
        have h3 : b % (a % b) ≤ b - (a % b) := by
          have := Nat.mod_add_div b (a % b)
          have h4 : 1 ≤ b / (a % b) := Nat.div_pos (by omega) (by omega)
          have h5 : (a % b) * 1 ≤ (a % b) * (b / (a % b)) := Nat.mul_le_mul_left _ h4
          omega
        rw [Nat.pow_succ] at h
        omega
theorem eu_start {a b : Nat} (h : a < 2 ^ 1900) : Eu 3999 a b := by
  by_cases hb : b = 0
  · subst hb; exact .done
  · have h1 : a % b < 2 ^ 1900 := Nat.lt_of_le_of_lt (Nat.mod_le _ _) h
    exact (Eu.step hb (eu_pow 1900 b (a % b) h1)).more (by decide)
end K18
/-! k18: lowest terms by the law's own reckoning, values, common multiples, read -/
namespace K18
open PySem PySem.Spec PyProof.Rows L2 L3
theorem eqv_int (i j : Int) : PyData.eqv (.int i) (.int j) = decide (i = j) := by
  simp only [PyData.eqv]
  rfl
theorem shaped_int (i : Int) : SeqAt.shaped (D.int i).py = true := by
  show (true && decide (PyData.depth (.int i) ≤ 64)) = true
  simp [PyData.depth]
theorem loop_eu {E : Ends3} {T : Nat} {n a b : Nat} (h : Eu n a b) : ∀ (ds : List D) (s : Slot), n ≤ ds.length → (∀ (y s : Slot), E.nx ⟨[.val (.int ((a.gcd b : Nat) : Int)), y, s], T⟩) →
    loop3 (gName3 2) (tSeq3 (tIfS3 (tB3 (b3 gEq (tVar3 1) (tC3 (.int 0)))) tBreak3 tNext3)
      (tPar3 0 1 (tCons3 (tVar3 1) (tCons3 (b3 gMod (tCB3 gInt (tCons3 (tVar3 0) tNil3)) (tCB3 gInt (tCons3 (tVar3 1) tNil3))) tNil3)))) ds E ⟨[.val (.int (a : Int)), .val (.int (b : Int)), s], T⟩ := by
  induction h with
  | @done n a =>
    intro ds s _ fin
    rw [Nat.gcd_zero_right] at fin
    cases ds with
    | nil => exact fin _ _
    | cons d r =>
      exact ⟨shaped_int _, shaped_int _, fin _ _⟩
  | @step n a b hb h ih =>
    intro ds s hl fin
    cases ds with
    | nil => simp at hl
    | cons d r =>
      refine ⟨shaped_int _, shaped_int _, ?_⟩
      show (match PyData.eqv (.int ((b : Nat) : Int)) (.int 0) with | true => _ | false => _)
      rw [eqv_int, decide_eq_false (by omega)]
      refine ⟨by omega, ?_⟩
      have e : Int.fmod ((a : Nat) : Int) ((b : Nat) : Int) = ((a % b : Nat) : Int) := (Int.ofNat_fmod a b).symm
      show loop3 _ _ r E ⟨[.val (.int ((b : Nat) : Int)), .val (.int (Int.fmod ((a : Nat) : Int) ((b : Nat) : Int))), .val d], T⟩
      rw [e]
      refine ih r _ (by simpa using hl) fun y s => ?_
      have := fin y s
      rw [Nat.gcd_comm a b, Nat.gcd_rec b a] at this
      rw [Nat.gcd_comm]
      exact this
theorem r__law_gcd (ds : List D) (TT : Nat) (kk : D → Nat → Prop) (hl : ds.length = 2) (h : s__law_gcd ds TT kk) : t__law_gcd { nx := fun ρ => kk .non ρ.T, rt := fun d ρ => kk d ρ.T } ⟨ds.map .val ++ List.replicate 1 .un, TT⟩ := by
  obtain ⟨a, b, rfl, ha, k⟩ := h
  have e1 : (if a < 0 then -a else a) = ((a.natAbs : Nat) : Int) := by split <;> omega
  have e2 : (if b < 0 then -b else b) = ((b.natAbs : Nat) : Int) := by split <;> omega
  show tSeq3 (tFor3 (iRng3 (tC3 (.int 4000))) _ _) _ _ ⟨[.val (.int (if a < 0 then -a else a)), .val (.int (if b < 0 then -b else b)), .un], TT⟩
  rw [e1, e2]
  refine ⟨⟨by decide, by decide⟩, ?_⟩
  refine loop_eu (eu_start ha) (upto 0 4000) .un (by unfold upto; rw [List.length_map, List.length_range]; decide) fun y s => ?_
  exact k
theorem loop_gcdL {E : Ends3} {a L : Slot} {T : Nat} : ∀ (ns : List Int) (p : Int) (s : Slot), 0 < p → Bd 1900 p → (∀ s, E.nx ⟨[a, L, .val (.int (ns.foldl gcdI p)), s], T⟩) →
    loop3 (gName3 3) (tAsg3 (tFn3 2 s__law_gcd (tCons3 (tVar3 2) (tCons3 (tVar3 3) tNil3))) (gName3 2)) (ns.map D.int) E ⟨[a, L, .val (.int p), s], T⟩
  | [], p, s, _, _, h => h s
  | n :: r, p, s, h0, hb, h => by
    have h1 := gcdI_pos (n := n) h0
    have h2 := gcdI_le (n := n) h0
    exact ⟨rfl, p, n, rfl, hb, loop_gcdL r (gcdI p n) _ h1 (hb.of_le (by omega)) h⟩
theorem r__law_lowest (ds : List D) (TT : Nat) (kk : D → Nat → Prop) (hl : ds.length = 2) (h : s__law_lowest ds TT kk) : t__law_lowest { nx := fun ρ => kk .non ρ.T, rt := fun d ρ => kk d ρ.T } ⟨ds.map .val ++ List.replicate 2 .un, TT⟩ := by
  obtain ⟨q, d, ns, rfl, hd, hq, hb, hl, k⟩ := h
  have pl := partL_log (ns := ns) hq hb
  have ap : 0 < absI q := absI_pos hq
  have ab : Bd 1900 (absI q) := hb.of_le (Nat.le_of_eq (absI_nat q))
  have fin : ∀ E : Ends3, (E.rt = fun d ρ => kk d ρ.T) → ∀ (s : Slot) (d : D), seqD d (ns.map D.int) → (tSeq3 (tAsg3 (tIf3 (tB3 (b3 gGt (tVar3 0) (tC3 (.int 0)))) (tVar3 2) (b3 L3.gSub (tC3 (.int 0)) (tVar3 2))) (gName3 2))
    (tRet3 (tTup3 (tCons3 (b3 gDiv (tVar3 0) (tVar3 2)) (tCons3 (tCB3 gTuple (tCons3 (tLc3 (iSeq3 (tVar3 1)) (gName3 3) tYes3 (b3 gDiv (tVar3 3) (tVar3 2)) [3]) tNil3)) tNil3))))) E ⟨[.val (.int q), .val d, .val (.int (gcdL q ns)), s], TT⟩ := by
    intro E hE s d hd
    have tail : ∀ (s : Slot), tRet3 (tTup3 (tCons3 (b3 gDiv (tVar3 0) (tVar3 2)) (tCons3 (tCB3 gTuple (tCons3 (tLc3 (iSeq3 (tVar3 1)) (gName3 3) tYes3 (b3 gDiv (tVar3 3) (tVar3 2)) [3]) tNil3)) tNil3))) E ⟨[.val (.int q), .val d, .val (.int (partL q ns)), s], TT⟩ := by
      intro s
      refine ⟨pl, ?_⟩
      have go : ∀ k : List D → Env3 → Prop, k (ns.map fun n => D.int (n.fdiv (partL q ns))) ⟨[.val (.int q), .val d, .val (.int (partL q ns)), .un], TT⟩ → lcGo (gName3 3) tYes3 (b3 gDiv (tVar3 3) (tVar3 2)) [3] (ns.map D.int) [] ⟨[.val (.int q), .val d, .val (.int (partL q ns)), .un], TT⟩ k := fun k hk =>
        lcGo_map D.int (fun n => D.int (n.fdiv (partL q ns))) ns [] (fun n _ K K2 hK => ⟨pl, hK _ rfl⟩) (by rw [List.length_nil]; exact Nat.le_trans (by omega) (by decide : 1000 ≤ sizeLine)) hk
      have e : (ns.map fun n => D.int (n.fdiv (partL q ns))) = (low q ns).2.map D.int := by
        show _ = (ns.map _).map _
        rw [List.map_map]
        rfl
      rcases hd with rfl | rfl
      all_goals
        refine go _ ⟨by show 2 ≤ sizeLine; decide, ?_⟩
        rw [hE]
        show kk (.tup [.int (q.fdiv (partL q ns)), .tup _]) TT
        rw [e]
        exact k
    unfold partL at tail
    show (match decide (0 < q) with | true => _ | false => _)
    by_cases h0 : 0 < q
    · rw [decide_eq_true h0]
      have := tail s
      rw [if_neg (by omega)] at this
      exact this
    · rw [decide_eq_false h0]
      have := tail s
      rw [if_pos (by omega)] at this
      exact this
  rcases hd with rfl | rfl
  · exact loop_gcdL ns (absI q) .un ap ab fun s => fin _ rfl s _ (.inl rfl)
  · exact loop_gcdL ns (absI q) .un ap ab fun s => fin _ rfl s _ (.inr rfl)
/-! ### values -/
theorem pairUp_ints : ∀ cs ns : List Int, pairUp (cs.map D.int) (ns.map D.int) = (cs.zip ns).map fun p => D.tup [.int p.1, .int p.2]
  | [], _ => by simp [pairUp]
  | _ :: _, [] => by simp [pairUp]
  | c :: cs, n :: ns => by simp only [List.map_cons, pairUp, List.zip_cons_cons, pairUp_ints cs ns]
theorem dot_zip (cs ns : List Int) : ((cs.zip ns).map fun p => p.1 * p.2).sum = dot cs ns := by
  unfold dot
  congr 1
  rw [List.zip, List.map_zipWith]
theorem read_value {TT : Nat} {kk : D → Nat → Prop} {pl p : Pt} (h3 : Bd 1000 pl.1) (h4 : Bd 1000 p.1) (h5 : ∀ c ∈ pl.2, Bd 1000 c) (h6 : ∀ c ∈ p.2, Bd 1000 c) (h7 : p.2.length ≤ 1000) (k : kk (.int (pl.1 * p.1 + dot pl.2 p.2)) TT) :
    t_value { nx := fun ρ => kk .non ρ.T, rt := fun d ρ => kk d ρ.T } ⟨[.val (ptD pl), .val (ptD p), .un, .un], TT⟩ := by
  refine ⟨h3.cmul h4 (by decide) (by decide) (by decide), ?_⟩
  show lcGo _ _ _ _ (pairUp (pl.2.map D.int) (p.2.map D.int)) [] _ _
  rw [pairUp_ints]
  refine lcGo_map (fun q : Int × Int => D.tup [.int q.1, .int q.2]) (fun q : Int × Int => D.int (q.1 * q.2)) (pl.2.zip p.2) [] (fun q hq K K2 hK => ?_) ?_ ?_
  · have hq1 := List.of_mem_zip hq
    exact ⟨rfl, (h5 _ hq1.1).cmul (h6 _ hq1.2) (by decide) (by decide) (by decide), hK _ rfl⟩
  · rw [List.length_nil, List.length_zip]
    exact Nat.le_trans (by omega) (by decide : 1000 ≤ sizeLine)
  · have e : ([] ++ (pl.2.zip p.2).map fun q : Int × Int => D.int (q.1 * q.2)) = ((pl.2.zip p.2).map fun q : Int × Int => q.1 * q.2).map D.int := by
      rw [List.nil_append, List.map_map]; rfl
    rw [e]
    show optK (allInts _) _
    rw [allInts_of]
    show kk (.int (pl.1 * p.1 + ((pl.2.zip p.2).map fun q : Int × Int => q.1 * q.2).sum)) TT
    rw [dot_zip]
    exact k
theorem r_value (ds : List D) (TT : Nat) (kk : D → Nat → Prop) (hl : ds.length = 2) (h : s_value ds TT kk) : t_value { nx := fun ρ => kk .non ρ.T, rt := fun d ρ => kk d ρ.T } ⟨ds.map .val ++ List.replicate 2 .un, TT⟩ := by
  obtain ⟨pl, p, rfl, h3, h4, h5, h6, h7, k⟩ := h
  exact read_value h3 h4 h5 h6 h7 k
theorem r__law_value (ds : List D) (TT : Nat) (kk : D → Nat → Prop) (hl : ds.length = 2) (h : s__law_value ds TT kk) : t__law_value { nx := fun ρ => kk .non ρ.T, rt := fun d ρ => kk d ρ.T } ⟨ds.map .val ++ List.replicate 2 .un, TT⟩ := by
  obtain ⟨pl, p, rfl, h3, h4, h5, h6, h7, k⟩ := h
  exact read_value h3 h4 h5 h6 h7 k
/-! ### a common multiple -/
theorem loop_whole {E : Ends3} {a : Slot} {T : Nat} : ∀ (pts : List Pt) (w : Int) (b : Nat) (s : Slot), (∀ p ∈ pts, 0 < p.1 ∧ Bd 14 p.1) → 0 < w → Bd b w → 0 < b → b + 14 * pts.length ≤ 3000 →
    (∀ W s, 0 < W → w ∣ W → (∀ p ∈ pts, p.1 ∣ W) → Bd (b + 14 * pts.length) W → E.nx ⟨[a, .val (.int W), s], T⟩) →
    loop3 (gName3 2) (tAsg3 (b3 gDiv (b3 gMul (tVar3 1) (b3 gIx (tVar3 2) (tC3 (.int 0)))) (tCB3 gGcd (tCons3 (tVar3 1) (tCons3 (b3 gIx (tVar3 2) (tC3 (.int 0))) tNil3)))) (gName3 1)) (pts.map ptD) E ⟨[a, .val (.int w), s], T⟩
  | [], w, b, s, hp, h0, hb, hb0, hl, fin => fin w s h0 (Int.dvd_refl _) (by simp) hb
  | p :: r, w, b, s, hp, h0, hb, hb0, hl, fin => by
    obtain ⟨p0, pb⟩ := hp p (by simp)
    rw [List.length_cons] at hl
    have g0 := gcdI_pos (n := p.1) h0
    have g1 : gcdI w p.1 ∣ w := by unfold gcdI; exact Int.ofNat_dvd_left.mpr (Nat.gcd_dvd_left _ _)
    have g2 : gcdI w p.1 ∣ p.1 := by unfold gcdI; exact Int.ofNat_dvd_left.mpr (Nat.gcd_dvd_right _ _)
    have gb : Bd b (gcdI w p.1) := hb.of_le (by have := gcdI_le (n := p.1) h0; omega)
    refine ⟨hb.cmul pb hb0 (by decide) (by omega), ?_⟩
    refine ⟨⟨show gcdI w p.1 ≠ 0 by omega, Nat.lt_of_lt_of_le (gb.log hb0) (by omega)⟩, ?_⟩
    show loop3 _ _ (r.map ptD) E ⟨[a, .val (.int ((w * p.1).fdiv (gcdI w p.1))), .val (ptD p)], T⟩
    -- what comes out is a multiple of both
    have e : (w * p.1).fdiv (gcdI w p.1) = w * (p.1 / gcdI w p.1) := by
      obtain ⟨c, hc⟩ := g2
      have hc2 : p.1 / gcdI w p.1 = c := by
        have := Int.mul_ediv_cancel_left c (show gcdI w p.1 ≠ 0 by omega)
        rw [← hc] at this
        exact this
      rw [hc2]
      have h3 : w * p.1 = (w * c) * gcdI w p.1 := by
        rw [Int.mul_assoc, Int.mul_comm c]
        exact congrArg (fun z => w * z) hc
      rw [h3, Int.fdiv_eq_ediv_of_nonneg _ (by omega), Int.mul_ediv_cancel _ (by omega)]
    have e2 : (w * p.1).fdiv (gcdI w p.1) = p.1 * (w / gcdI w p.1) := by
      obtain ⟨c, hc⟩ := g1
      have hc2 : w / gcdI w p.1 = c := by
        have := Int.mul_ediv_cancel_left c (show gcdI w p.1 ≠ 0 by omega)
        rw [← hc] at this
        exact this
      rw [hc2]
      have h3 : w * p.1 = (p.1 * c) * gcdI w p.1 := by
        rw [Int.mul_comm w, Int.mul_assoc, Int.mul_comm c]
        exact congrArg (fun z => p.1 * z) hc
      rw [h3, Int.fdiv_eq_ediv_of_nonneg _ (by omega), Int.mul_ediv_cancel _ (by omega)]
    have hpos : 0 < p.1 / gcdI w p.1 := by
      obtain ⟨c, hc⟩ := g2
      have hc2 : p.1 / gcdI w p.1 = c := by
        have := Int.mul_ediv_cancel_left c (show gcdI w p.1 ≠ 0 by omega)
        rw [← hc] at this
        exact this
      rw [hc2]
      rw [hc] at p0
      refine Decidable.byContradiction fun hc0 => ?_
      have z : gcdI w p.1 * c ≤ gcdI w p.1 * 0 := Int.mul_le_mul_of_nonneg_left (show c ≤ 0 by omega) (show 0 ≤ gcdI w p.1 by omega)
      rw [Int.mul_zero] at z
      omega
    have hle : (p.1 / gcdI w p.1).natAbs ≤ p.1.natAbs := by
      have := Int.ediv_le_self (gcdI w p.1) (by omega : 0 ≤ p.1)
      omega
    have d1 : w ∣ (w * p.1).fdiv (gcdI w p.1) := ⟨_, e⟩
    have d2 : p.1 ∣ (w * p.1).fdiv (gcdI w p.1) := ⟨_, e2⟩
    refine loop_whole r _ (b + 14) _ (fun z hz => hp z (by simp [hz])) (by rw [e]; exact Int.mul_pos h0 hpos) (by rw [e]; exact hb.mul (pb.of_le hle)) (by omega) (by omega) fun W s hW hd hr hB => ?_
    refine fin W s hW (Int.dvd_trans d1 hd) (fun z hz => ?_) (by rw [List.length_cons]; exact hB.mono (by omega))
    rcases List.mem_cons.mp hz with rfl | hz
    · exact Int.dvd_trans d2 hd
    · exact hr z hz
theorem r_whole_of (ds : List D) (TT : Nat) (kk : D → Nat → Prop) (hl : ds.length = 1) (h : s_whole_of ds TT kk) : t_whole_of { nx := fun ρ => kk .non ρ.T, rt := fun d ρ => kk d ρ.T } ⟨ds.map .val ++ List.replicate 2 .un, TT⟩ := by
  obtain ⟨d, pts, m, rfl, hd, hp, k⟩ := h
  have go : ∀ d, loop3 (gName3 2) (tAsg3 (b3 gDiv (b3 gMul (tVar3 1) (b3 gIx (tVar3 2) (tC3 (.int 0)))) (tCB3 gGcd (tCons3 (tVar3 1) (tCons3 (b3 gIx (tVar3 2) (tC3 (.int 0))) tNil3)))) (gName3 1)) (pts.map ptD) { nx := fun ρ => tRet3 (tVar3 1) { nx := fun ρ => kk .non ρ.T, rt := fun d ρ => kk d ρ.T } ρ, rt := fun d ρ => kk d ρ.T } ⟨[.val d, .val (.int 1), .un], TT⟩ := fun d =>
    loop_whole pts 1 1 .un (fun p hh => ⟨hp.pos p hh, hp.bq p hh⟩) (by decide) (show (1 : Int).natAbs < 2 ^ 1 by decide) (by decide) (by have := hp.few; omega) fun W s h0 _ hd hb => k W ⟨h0, hd, hb⟩
  rcases hd with rfl | rfl
  · exact go _
  · exact go _
end K18
/-! k18: rows of points in order -/
namespace K18
open PySem PySem.Spec PyProof.Rows L2 L3
/-! ### lists of ints, scaled -/
theorem scale_lt {c : Int} (h : 0 < c) : ∀ l l' : List Int, (l.map fun n => n * c) < (l'.map fun n => n * c) ↔ l < l'
  | [], [] => by simp
  | [], y :: ys => by simp
  | x :: xs, [] => by simp
  | x :: xs, y :: ys => by
    rw [List.map_cons, List.map_cons, List.cons_lt_cons_iff, List.cons_lt_cons_iff, scale_lt h xs ys]
    have e1 : x * c < y * c ↔ x < y := Int.mul_lt_mul_right h
    have e2 : x * c = y * c ↔ x = y := ⟨fun z => Int.eq_of_mul_eq_mul_right (by omega) z, fun z => by rw [z]⟩
    rw [e1, e2]
theorem scale_inj {c : Int} (h : 0 < c) : ∀ l l' : List Int, (l.map fun n => n * c) = (l'.map fun n => n * c) → l = l'
  | [], [], _ => rfl
  | [], y :: ys, e => by simp at e
  | x :: xs, [], e => by simp at e
  | x :: xs, y :: ys, e => by
    rw [List.map_cons, List.map_cons] at e
    obtain ⟨e1, e2⟩ := List.cons.inj e
    rw [Int.eq_of_mul_eq_mul_right (by omega) e1, scale_inj h xs ys e2]
theorem fdiv_mul_of {W q : Int} (hq : 0 < q) (h : q ∣ W) : W.fdiv q * q = W := by
  rw [Int.fdiv_eq_ediv_of_nonneg _ (by omega)]
  exact Int.ediv_mul_cancel h
theorem fdiv_pos_of {W q : Int} (hq : 0 < q) (hW : 0 < W) (h : q ∣ W) : 0 < W.fdiv q := by
  have e := fdiv_mul_of hq h
  refine Decidable.byContradiction fun hc => ?_
  have z : W.fdiv q * q ≤ 0 * q := Int.mul_le_mul_of_nonneg_right (show W.fdiv q ≤ 0 by omega) (by omega)
  rw [Int.zero_mul] at z
  omega
/-- the order told by any common multiple is the order told by products -/
theorem scaled_up {W : Int} {p p' : Pt} (hq : 0 < p.1) (h : p.1 ∣ W) : (scaled W p).map (fun n => n * (p.1 * p'.1)) = (p.2.map fun n => n * p'.1).map fun n => n * W := by
  unfold scaled
  rw [List.map_map, List.map_map]
  apply List.map_congr_left
  intro n _
  show n * W.fdiv p.1 * (p.1 * p'.1) = n * p'.1 * W
  have e := fdiv_mul_of hq h
  calc n * W.fdiv p.1 * (p.1 * p'.1) = n * p'.1 * (W.fdiv p.1 * p.1) := by
        simp only [Int.mul_assoc, Int.mul_comm, Int.mul_left_comm]
    _ = n * p'.1 * W := by rw [e]
theorem scaled_lt {W : Int} {p p' : Pt} (hW : 0 < W) (hq : 0 < p.1) (h : p.1 ∣ W) (hq' : 0 < p'.1) (h' : p'.1 ∣ W) : scaled W p < scaled W p' ↔ lt2 p p' := by
  have c : 0 < p.1 * p'.1 := Int.mul_pos hq hq'
  rw [← scale_lt c, scaled_up hq h, Int.mul_comm p.1 p'.1, scaled_up hq' h', scale_lt hW]
  rfl
theorem scaled_eq {W : Int} {p p' : Pt} (hW : 0 < W) (hq : 0 < p.1) (h : p.1 ∣ W) (hq' : 0 < p'.1) (h' : p'.1 ∣ W) (e : scaled W p = scaled W p') : (p.2.map fun n => n * p'.1) = (p'.2.map fun n => n * p.1) := by
  have e2 := congrArg (fun l => l.map fun n => n * (p.1 * p'.1)) e
  have e2 : (scaled W p).map (fun n => n * (p.1 * p'.1)) = (scaled W p').map (fun n => n * (p.1 * p'.1)) := e2
  rw [scaled_up hq h, Int.mul_comm p.1 p'.1, scaled_up hq' h'] at e2
  exact scale_inj hW _ _ e2
/-! ### lowest terms are one -/
theorem gcdI_dvd {a b d : Int} (h1 : d ∣ a) (h2 : d ∣ b) : d ∣ gcdI a b := by
  unfold gcdI
  have z : d.natAbs ∣ Nat.gcd a.natAbs b.natAbs := Nat.dvd_gcd (Int.natAbs_dvd_natAbs.mpr h1) (Int.natAbs_dvd_natAbs.mpr h2)
  exact Int.ofNat_dvd_right.mpr z
/-- what divides x times each of them divides x times their greatest divisor -/
theorem gcdI_mul (x a b : Int) : gcdI (x * a) (x * b) = (x.natAbs : Int) * gcdI a b := by
  unfold gcdI
  rw [Int.natAbs_mul, Int.natAbs_mul, Nat.gcd_mul_left]
  push_cast
  rfl
theorem gcdI_abs (a b : Int) : gcdI (a.natAbs : Int) b = gcdI a b := by
  unfold gcdI
  rw [Int.natAbs_natCast]
theorem fold_mul (x : Int) : ∀ (ns : List Int) (a : Int), (ns.map fun n => x * n).foldl gcdI ((x.natAbs : Int) * a) = (x.natAbs : Int) * ns.foldl gcdI a
  | [], a => rfl
  | n :: r, a => by
    rw [List.map_cons, List.foldl_cons, List.foldl_cons, ← fold_mul x r (gcdI a n)]
    congr 1
    rw [← gcdI_mul x a n]
    unfold gcdI
    rw [Int.natAbs_mul, Int.natAbs_mul, Int.natAbs_natCast, Int.natAbs_mul]
theorem fold_dvd {d : Int} : ∀ (ns : List Int) (a : Int), d ∣ a → (∀ n ∈ ns, d ∣ n) → d ∣ ns.foldl gcdI a
  | [], a, h, _ => h
  | n :: r, a, h, hn => fold_dvd r _ (gcdI_dvd h (hn n (by simp))) fun z hz => hn z (by simp [hz])
theorem low_dvd {p p' : Pt} (hq : 0 < p.1) (hq' : 0 < p'.1) (hl : Low p) (e : (p.2.map fun n => n * p'.1) = (p'.2.map fun n => n * p.1)) : p.1 ∣ p'.1 := by
  have h1 : (p.2.map fun n => p'.1 * n).foldl gcdI ((p'.1.natAbs : Int) * absI p.1) = (p'.1.natAbs : Int) * 1 := by
    rw [fold_mul]
    have hl : p.2.foldl gcdI (absI p.1) = 1 := hl
    rw [hl]
  have h2 : p.1 ∣ (p.2.map fun n => p'.1 * n).foldl gcdI ((p'.1.natAbs : Int) * absI p.1) := by
    refine fold_dvd _ _ ?_ fun n hn => ?_
    · rw [absI_eq]
      have : ((p.1.natAbs : Nat) : Int) = p.1 := by omega
      rw [this]
      exact Int.dvd_mul_left _ _
    · have e2 : (p.2.map fun n => p'.1 * n) = (p'.2.map fun n => n * p.1) := by
        rw [← e]
        exact List.map_congr_left fun n _ => Int.mul_comm _ _
      rw [e2] at hn
      obtain ⟨z, _, rfl⟩ := List.mem_map.mp hn
      exact Int.dvd_mul_left _ _
  rw [h1, Int.mul_one] at h2
  have : ((p'.1.natAbs : Nat) : Int) = p'.1 := by omega
  rw [this] at h2
  exact h2
theorem low_inj {p p' : Pt} (hq : 0 < p.1) (hq' : 0 < p'.1) (hl : Low p) (hl' : Low p') (e : (p.2.map fun n => n * p'.1) = (p'.2.map fun n => n * p.1)) : p = p' := by
  have d1 := low_dvd hq hq' hl e
  have d2 := low_dvd hq' hq hl' e.symm
  have e1 : p.1 = p'.1 := Int.dvd_antisymm (by omega) (by omega) d1 d2
  have e2 : p.2 = p'.2 := by
    rw [e1] at e
    exact scale_inj hq' _ _ e
  exact Prod.ext e1 e2
/-! ### the dict of a row of points -/
def keyP (W : Int) (p : Pt) : List Key := (scaled W p).map Sum.inl
structure Dict (W : Int) (pts : List Pt) (acc : List (List Key × D)) : Prop where
  from_ : ∀ e ∈ acc, ∃ p ∈ pts, e = (keyP W p, ptD p)
  has : ∀ p ∈ pts, keyP W p ∈ acc.map (·.1)
  nd : (acc.map (·.1)).Nodup
  few : acc.length ≤ pts.length
theorem Dict.nil {W : Int} : Dict W [] [] := ⟨by simp, by simp, by simp, by simp⟩
theorem Dict.put {W : Int} {pts : List Pt} {acc : List (List Key × D)} (h : Dict W pts acc) (p : Pt) : Dict W (pts ++ [p]) (putD acc (keyP W p) (ptD p)) := by
  unfold putD
  by_cases hk : (acc.any fun kv => decide (kv.1 = keyP W p)) = true
  · rw [if_pos hk]
    have ek : (acc.map fun kv => if kv.1 = keyP W p then (kv.1, ptD p) else kv).map (·.1) = acc.map (·.1) := by
      rw [List.map_map]
      apply List.map_congr_left
      intro kv _
      show (if kv.1 = keyP W p then (kv.1, ptD p) else kv).1 = kv.1
      split <;> rfl
    refine ⟨fun e he => ?_, fun z hz => ?_, by rw [ek]; exact h.nd, by rw [List.length_map, List.length_append]; have := h.few; omega⟩
    · obtain ⟨kv, h1, rfl⟩ := List.mem_map.mp he
      by_cases hkv : kv.1 = keyP W p
      · rw [if_pos hkv]
        exact ⟨p, by simp, by rw [hkv]⟩
      · rw [if_neg hkv]
        obtain ⟨q, hq, e⟩ := h.from_ kv h1
        exact ⟨q, by simp [hq], e⟩
    · rw [ek]
      rcases List.mem_append.mp hz with hz | hz
      · exact h.has z hz
      · obtain rfl : z = p := by simpa using hz
        obtain ⟨kv, h1, h2⟩ := List.any_eq_true.mp hk
        exact List.mem_map.mpr ⟨kv, h1, of_decide_eq_true h2⟩
  · rw [if_neg hk]
    refine ⟨fun e he => ?_, fun z hz => ?_, ?_, by rw [List.length_append, List.length_append]; have := h.few; simp; omega⟩
    · rcases List.mem_append.mp he with he | he
      · obtain ⟨q, hq, e⟩ := h.from_ e he
        exact ⟨q, by simp [hq], e⟩
      · exact ⟨p, by simp, by simpa using he⟩
    · rw [List.map_append]
      rcases List.mem_append.mp hz with hz | hz
      · exact List.mem_append_left _ (h.has z hz)
      · obtain rfl : z = p := by simpa using hz
        simp
    · rw [List.map_append]
      refine List.nodup_append.mpr ⟨h.nd, by simp, fun a ha b hb e => hk ?_⟩
      have hb : b = keyP W p := by simpa using hb
      obtain ⟨kv, h1, h2⟩ := List.mem_map.mp ha
      refine List.any_eq_true.mpr ⟨kv, h1, decide_eq_true ?_⟩
      rw [h2, e, hb]
theorem keyInts_inl : ∀ ns : List Int, keyInts (ns.map Sum.inl) = some ns
  | [] => rfl
  | n :: r => by simp only [List.map_cons, keyInts, keyInts_inl r, Option.map_some]
theorem keysInts_of : ∀ {acc : List (List Key × D)}, (∀ e ∈ acc, ∃ ns : List Int, e.1 = ns.map Sum.inl) → ∃ nss, keysInts acc = some nss ∧ acc.map (·.1) = nss.map (List.map Sum.inl)
  | [], _ => ⟨[], rfl, rfl⟩
  | (k, d) :: r, h => by
    obtain ⟨ns, e⟩ := h (k, d) (by simp)
    obtain ⟨nss, h1, h2⟩ := keysInts_of (acc := r) fun e he => h e (by simp [he])
    have e : k = ns.map Sum.inl := e
    subst e
    exact ⟨ns :: nss, by simp only [keysInts, keyInts_inl, Option.bind_some, h1, Option.map_some], by rw [List.map_cons, List.map_cons, h2]⟩
theorem inl_inj : ∀ {a b : List Int}, (a.map Sum.inl : List Key) = b.map Sum.inl → a = b
  | [], [], _ => rfl
  | [], _ :: _, e => by simp at e
  | _ :: _, [], e => by simp at e
  | x :: xs, y :: ys, e => by
    rw [List.map_cons, List.map_cons] at e
    obtain ⟨e1, e2⟩ := List.cons.inj e
    rw [Sum.inl.inj e1, inl_inj e2]
theorem valD_of : ∀ {acc : List (List Key × D)} {k : List Key} {d : D}, (acc.map (·.1)).Nodup → (k, d) ∈ acc → valD acc k = some d
  | [], _, _, _, h => by simp at h
  | (k', d') :: r, k, d, nd, h => by
    rw [List.map_cons, List.nodup_cons] at nd
    unfold valD
    by_cases e : k' = k
    · rw [List.find?_cons_of_pos (by simpa using e)]
      rcases List.mem_cons.mp h with h | h
      · cases h; rfl
      · exact (nd.1 (List.mem_map.mpr ⟨(k, d), h, e.symm⟩)).elim
    · rw [List.find?_cons_of_neg (by simpa using e)]
      rcases List.mem_cons.mp h with h | h
      · cases h; exact (e rfl).elim
      · exact valD_of nd.2 h
theorem pairwise_lt : ∀ {l : List (List Int)}, l.Pairwise (fun a b => leI a b = true) → l.Nodup → l.Pairwise (· < ·)
  | [], _, _ => .nil
  | x :: r, h, nd => by
    rw [List.pairwise_cons] at h
    rw [List.nodup_cons] at nd
    refine List.pairwise_cons.mpr ⟨fun y hy => ?_, pairwise_lt h.2 nd.2⟩
    have h1 : x ≤ y := of_decide_eq_true (h.1 y hy)
    refine Decidable.byContradiction fun hn => nd.1 ?_
    have h2 : y ≤ x := List.not_lt.mp hn
    rw [List.le_antisymm h1 h2]
    exact hy
/-- what sorting the dict's keys and looking them up gives -/
theorem dict_order {W : Int} {pts : List Pt} {m : Nat} {acc : List (List Key × D)} (h : Dict W pts acc) (hp : Pts m pts) (hW : 0 < W) (hd : ∀ p ∈ pts, p.1 ∣ W) (hlow : ∀ p ∈ pts, Low p) :
    ∃ nss R, keysInts acc = some nss ∧ (∀ ns ∈ nss, ∃ p ∈ pts, ns = scaled W p) ∧ nss.mergeSort leI = R.map (scaled W) ∧ (∀ p ∈ R, valD acc (keyP W p) = some (ptD p)) ∧ R.length ≤ pts.length ∧ Ord pts R := by
  obtain ⟨nss, h1, h2⟩ := keysInts_of (acc := acc) fun e he => by
    obtain ⟨p, _, e2⟩ := h.from_ e he
    exact ⟨scaled W p, by rw [e2]; rfl⟩
  have hmem : ∀ ns ∈ nss, ∃ p ∈ pts, ns = scaled W p := fun ns hns => by
    have : ns.map Sum.inl ∈ acc.map (·.1) := by rw [h2]; exact List.mem_map.mpr ⟨ns, hns, rfl⟩
    obtain ⟨e, he, e1⟩ := List.mem_map.mp this
    obtain ⟨p, hp, e2⟩ := h.from_ e he
    refine ⟨p, hp, inl_inj ?_⟩
    rw [← e1, e2]
    rfl
  have hall : ∀ p ∈ pts, scaled W p ∈ nss := fun p hp => by
    have := h.has p hp
    rw [h2] at this
    obtain ⟨ns, hns, e⟩ := List.mem_map.mp this
    rw [← inl_inj e]
    exact hns
  have hnd : nss.Nodup := by
    have := h.nd
    rw [h2] at this
    exact List.Pairwise.of_map _ (fun a b hab e => hab (by rw [e])) this
  -- the points behind the keys
  have back : ∀ l : List (List Int), (∀ ns ∈ l, ∃ p ∈ pts, ns = scaled W p) → ∃ R : List Pt, l = R.map (scaled W) ∧ ∀ p ∈ R, p ∈ pts := by
    intro l
    induction l with
    | nil => exact fun _ => ⟨[], rfl, by simp⟩
    | cons x r ih =>
      intro hx
      obtain ⟨p, hp, e⟩ := hx x (by simp)
      obtain ⟨R, e2, h3⟩ := ih fun ns hns => hx ns (by simp [hns])
      exact ⟨p :: R, by rw [List.map_cons, e, e2], fun z hz => by rcases List.mem_cons.mp hz with rfl | hz; exact hp; exact h3 z hz⟩
  have perm := List.mergeSort_perm nss leI
  obtain ⟨R, hR, hRp⟩ := back (nss.mergeSort leI) fun ns hns => hmem ns (perm.mem_iff.mp hns)
  have inj : ∀ p ∈ pts, ∀ p' ∈ pts, scaled W p = scaled W p' → p = p' := fun p hp1 p' hp2 e =>
    low_inj (hp.pos p hp1) (hp.pos p' hp2) (hlow p hp1) (hlow p' hp2) (scaled_eq hW (hp.pos p hp1) (hd p hp1) (hp.pos p' hp2) (hd p' hp2) e)
  have sorted : (nss.mergeSort leI).Pairwise fun a b => leI a b = true := List.pairwise_mergeSort (le := leI) (fun a b c h1 h2 => decide_eq_true (List.le_trans (of_decide_eq_true h1 : a ≤ b) (of_decide_eq_true h2 : b ≤ c)))
    (fun a b => by
      rcases List.le_total a b with z | z
      · have : leI a b = true := decide_eq_true z
        rw [this]; rfl
      · have : leI b a = true := decide_eq_true z
        rw [this, Bool.or_true]) nss
  have strict := pairwise_lt sorted (perm.nodup_iff.mpr hnd)
  refine ⟨nss, R, h1, hmem, hR, fun p hpR => ?_, ?_, ⟨fun p => ⟨hRp p, fun hpp => ?_⟩, ?_⟩⟩
  · have hpp := hRp p hpR
    obtain ⟨e, he, e1⟩ := List.mem_map.mp (h.has p hpp)
    obtain ⟨p', hp', e2⟩ := h.from_ e he
    have e3 : p' = p := by
      refine inj p' hp' p hpp (inl_inj ?_)
      rw [e2] at e1
      exact e1
    rw [e2, e3] at he
    exact valD_of h.nd he
  · have : R.length = nss.length := by
      have e := congrArg List.length hR
      rw [List.length_map] at e
      rw [← e, perm.length_eq]
    have e2 := congrArg List.length h2
    rw [List.length_map, List.length_map] at e2
    have := h.few
    omega
  · have : scaled W p ∈ R.map (scaled W) := by rw [← hR]; exact perm.mem_iff.mpr (hall p hpp)
    obtain ⟨p', hp', e⟩ := List.mem_map.mp this
    rw [← inj p' (hRp p' hp') p hpp e]
    exact hp'
  · rw [hR, List.pairwise_map] at strict
    refine strict.imp_of_mem fun {a b} ha hb hab => ?_
    exact (scaled_lt hW (hp.pos a (hRp a ha)) (hd a (hRp a ha)) (hp.pos b (hRp b hb)) (hd b (hRp b hb))).mp hab
end K18
/-! k18: points in order, read -/
namespace K18
open PySem PySem.Spec PyProof.Rows L2 L3
theorem keyA_ints : ∀ ns : List Int, keyA (ns.map D.int) = some (ns.map Sum.inl)
  | [] => rfl
  | n :: r => by simp only [List.map_cons, keyA, keyI, keyA_ints r, Option.map_some, Option.bind_some]
theorem mul_few {W : Int} {pts : List Pt} {m : Nat} (hp : Pts m pts) (h : Mul W pts) : Bd 1891 W := h.bd.mono (by have := hp.few; omega)
theorem quo_bd {W q : Int} (hW : 0 < W) (hq : 0 < q) (h : q ∣ W) (hb : Bd 1891 W) : Bd 1891 (W.fdiv q) := by
  have e := fdiv_mul_of hq h
  have p := fdiv_pos_of hq hW h
  refine hb.of_le ?_
  have : W.fdiv q * 1 ≤ W.fdiv q * q := Int.mul_le_mul_of_nonneg_left (by omega) (by omega)
  omega
theorem bd_log9 {q : Int} (h : Bd 14 q) : q.natAbs.log2 < 9000 := Nat.lt_of_lt_of_le (h.log (by decide)) (by decide)
/-- the row of a point's numbers, scaled: [number * (whole // point[0]) for number in point[1]] -/
theorem row_go {g : G3} {te : E3} {vs : List Nat} {ρ : Env3} {W : Int} {p : Pt} {k : List D → Env3 → Prop} (hz : p.2.length ≤ 1000)
    (h : ∀ n ∈ p.2, ∀ (K : D → Env3 → Prop) (K2 : Env3 → Prop), (∀ ρ3, ρ3.wipe vs = ρ → K (.int (n * W.fdiv p.1)) ρ3) → g (.int n) ρ (fun ρ1 => tYes3 ρ1 (fun b ρ2 => match b with | true => te ρ2 K (fun _ _ => False) | false => K2 ρ2) (fun _ _ => False))) (q : k ((scaled W p).map D.int) ρ) :
    lcGo g tYes3 te vs (p.2.map D.int) [] ρ k := by
  refine lcGo_map D.int (fun n => D.int (n * W.fdiv p.1)) p.2 [] h (by rw [List.length_nil]; exact Nat.le_trans (by omega) (by decide : 1000 ≤ sizeLine)) ?_
  have e : [] ++ (p.2.map fun n => D.int (n * W.fdiv p.1)) = (scaled W p).map D.int := by
    unfold scaled
    rw [List.nil_append, List.map_map]
    rfl
  rw [e]
  exact q
/-- [keys[key] for key in sorted(keys)] -/
theorem sorted_go {g : G3} {te : E3} {vs : List Nat} {ρ : Env3} {W : Int} {R : List Pt} {k : List D → Env3 → Prop} {nss : List (List Int)} (hz : R.length ≤ 1000) (hR : nss.mergeSort leI = R.map (scaled W))
    (h : ∀ p ∈ R, ∀ (K : D → Env3 → Prop) (K2 : Env3 → Prop), (∀ ρ3, ρ3.wipe vs = ρ → K (ptD p) ρ3) → g (tupI (scaled W p)) ρ (fun ρ1 => tYes3 ρ1 (fun b ρ2 => match b with | true => te ρ2 K (fun _ _ => False) | false => K2 ρ2) (fun _ _ => False))) (q : k (R.map ptD) ρ) :
    lcGo g tYes3 te vs ((nss.mergeSort leI).map tupI) [] ρ k := by
  rw [hR, List.map_map]
  exact lcGo_map (fun p => tupI (scaled W p)) ptD R [] h (by rw [List.length_nil]; exact Nat.le_trans (by omega) (by decide : 1000 ≤ sizeLine)) q
theorem scaled_ne {W : Int} {p : Pt} {m : Nat} (h : p.2.length = m) (hm : 0 < m) : scaled W p ≠ [] := fun z => by
  have := congrArg List.length z
  unfold scaled at this
  rw [List.length_map, List.length_nil] at this
  omega
/-! ### by the law's own reckoning -/
theorem loop_prod {E : Ends3} {a s3 s4 s5 : Slot} {T : Nat} : ∀ (pts : List Pt) (w : Int) (b : Nat) (s : Slot), (∀ p ∈ pts, 0 < p.1 ∧ Bd 14 p.1) → 0 < w → Bd b w → 0 < b → b + 14 * pts.length ≤ 3000 →
    (∀ W s, 0 < W → w ∣ W → (∀ p ∈ pts, p.1 ∣ W) → Bd (b + 14 * pts.length) W → E.nx ⟨[a, .val (.int W), s, s3, s4, s5], T⟩) →
    loop3 (gName3 2) (tAsg3 (b3 gMul (tVar3 1) (b3 gIx (tVar3 2) (tC3 (.int 0)))) (gName3 1)) (pts.map ptD) E ⟨[a, .val (.int w), s, s3, s4, s5], T⟩
  | [], w, b, s, hp, h0, hb, hb0, hl, fin => fin w s h0 (Int.dvd_refl _) (by simp) hb
  | p :: r, w, b, s, hp, h0, hb, hb0, hl, fin => by
    obtain ⟨p0, pb⟩ := hp p (by simp)
    rw [List.length_cons] at hl
    refine ⟨hb.cmul pb hb0 (by decide) (by omega), ?_⟩
    refine loop_prod r (w * p.1) (b + 14) _ (fun z hz => hp z (by simp [hz])) (Int.mul_pos h0 p0) (hb.mul pb) (by omega) (by omega) fun W s hW hd hr hB => ?_
    refine fin W s hW (Int.dvd_trans (Int.dvd_mul_right _ _) hd) (fun z hz => ?_) (by rw [List.length_cons]; exact hB.mono (by omega))
    rcases List.mem_cons.mp hz with rfl | hz
    · exact Int.dvd_trans (Int.dvd_mul_left _ _) hd
    · exact hr z hz
theorem loop_dict {E : Ends3} {a s5 : Slot} {T : Nat} {W : Int} (hW : 0 < W) (hB : Bd 1891 W) : ∀ (pts done : List Pt) (acc : List (List Key × D)) (s s4 : Slot), Dict W done acc → done.length + pts.length ≤ 1000 → (∀ p ∈ pts, 0 < p.1 ∧ Bd 14 p.1 ∧ p.1 ∣ W ∧ p.2.length ≤ 1000 ∧ ∀ n ∈ p.2, Bd 14 n) →
    (∀ acc s s4, Dict W (done ++ pts) acc → E.nx ⟨[a, .val (.int W), s, .own (.dT acc), s4, s5], T⟩) →
    loop3 (gName3 2) (tDPutO 3 (tCB3 gTuple (tCons3 (tLc3 (iSeq3 (b3 gIx (tVar3 2) (tC3 (.int 1)))) (gName3 4) tYes3 (b3 gMul (tVar3 4) (b3 gDiv (tVar3 1) (b3 gIx (tVar3 2) (tC3 (.int 0))))) [4]) tNil3)) (tVar3 2)) (pts.map ptD) E ⟨[a, .val (.int W), s, .own (.dT acc), s4, s5], T⟩
  | [], done, acc, s, s4, hD, hl, hp, fin => fin acc s s4 (by rw [List.append_nil]; exact hD)
  | p :: r, done, acc, s, s4, hD, hl, hp, fin => by
    obtain ⟨p0, pb, pd, pz, pn⟩ := hp p (by simp)
    rw [List.length_cons] at hl
    refine row_go (W := W) pz (fun n hn K K2 hK => ?_) ?_
    · exact ⟨⟨by omega, bd_log9 pb⟩, (pn n hn).cmul (quo_bd hW p0 pd hB) (by decide) (by decide) (by decide), hK _ rfl⟩
    · show optK (keyA ((scaled W p).map D.int)) _
      rw [keyA_ints]
      refine ⟨Nat.lt_of_lt_of_le (by have := hD.few; omega : acc.length < 1001) (by decide), ?_⟩
      exact loop_dict hW hB r (done ++ [p]) (putD acc (keyP W p) (ptD p)) _ _ (hD.put p) (by rw [List.length_append]; simp; omega) (fun z hz => hp z (by simp [hz])) fun acc s s4 h => fin acc s s4 (by rw [List.append_assoc] at h; exact h)
def byRest : S3 := (tSeq3 (tOwn3 3 tEmptyT)
    (tSeq3 (tFor3 (iSeq3 (tVar3 0)) (gName3 2) (tDPutO 3 (tCB3 gTuple (tCons3 (tLc3 (iSeq3 (b3 gIx (tVar3 2) (tC3 (.int 1)))) (gName3 4) tYes3 (b3 gMul (tVar3 4) (b3 gDiv (tVar3 1) (b3 gIx (tVar3 2) (tC3 (.int 0))))) [4]) tNil3)) (tVar3 2)))
    (tRet3 (tLc3 (iSeq3 (tCB3 gSortedT (tCons3 (tVar3 3) tNil3))) (gName3 5) tYes3 (b3 gDG (tVar3 3) (tVar3 5)) [5]))))
theorem r__law_by_order (ds : List D) (TT : Nat) (kk : D → Nat → Prop) (hl : ds.length = 1) (h : s__law_by_order ds TT kk) : t__law_by_order { nx := fun ρ => kk .non ρ.T, rt := fun d ρ => kk d ρ.T } ⟨ds.map .val ++ List.replicate 5 .un, TT⟩ := by
  obtain ⟨d, pts, m, rfl, hd, hp, hm, hm2, hlow, k⟩ := h
  -- behind the product
  have rest : ∀ (W : Int) (s : Slot), Mul W pts → ∀ d, seqD d (pts.map ptD) → byRest { nx := fun ρ => kk .non ρ.T, rt := fun d ρ => kk d ρ.T } ⟨[.val d, .val (.int W), s, .un, .un, .un], TT⟩ := by
    intro W s M d hd
    have hB := mul_few hp M
    have main : ∀ d, loop3 (gName3 2) (tDPutO 3 (tCB3 gTuple (tCons3 (tLc3 (iSeq3 (b3 gIx (tVar3 2) (tC3 (.int 1)))) (gName3 4) tYes3 (b3 gMul (tVar3 4) (b3 gDiv (tVar3 1) (b3 gIx (tVar3 2) (tC3 (.int 0))))) [4]) tNil3)) (tVar3 2)) (pts.map ptD)
        { nx := tRet3 (tLc3 (iSeq3 (tCB3 gSortedT (tCons3 (tVar3 3) tNil3))) (gName3 5) tYes3 (b3 gDG (tVar3 3) (tVar3 5)) [5]) { nx := fun ρ => kk .non ρ.T, rt := fun d ρ => kk d ρ.T }, rt := fun d ρ => kk d ρ.T } ⟨[.val d, .val (.int W), s, .own (.dT []), .un, .un], TT⟩ := fun d =>
      loop_dict M.pos hB pts [] [] s .un .nil (by have := hp.few; simp; omega) (fun p hpp => ⟨hp.pos p hpp, hp.bq p hpp, M.dvd p hpp, by rw [hp.dim p hpp]; exact hm2, hp.bn p hpp⟩) fun acc s s4 hD => by
        rw [List.nil_append] at hD
        obtain ⟨nss, R, e1, e2, e3, e4, e5, e6⟩ := dict_order hD hp M.pos M.dvd hlow
        show optK (keysInts acc) _
        rw [e1]
        refine ⟨fun ns hns => ?_, ?_⟩
        · obtain ⟨p, hpp, rfl⟩ := e2 ns hns
          exact scaled_ne (hp.dim p hpp) hm
        · refine sorted_go (by have := hp.few; omega) e3 (fun p hpR K K2 hK => ?_) (k R e6)
          show optK (keyA ((scaled W p).map D.int)) _
          rw [keyA_ints]
          show optK (valD acc (keyP W p)) _
          rw [e4 p hpR]
          exact hK _ rfl
    rcases hd with rfl | rfl
    · exact ⟨⟨by decide, (by decide : 3 < 6)⟩, main _⟩
    · exact ⟨⟨by decide, (by decide : 3 < 6)⟩, main _⟩
  have first : ∀ d, seqD d (pts.map ptD) → loop3 (gName3 2) (tAsg3 (b3 gMul (tVar3 1) (b3 gIx (tVar3 2) (tC3 (.int 0)))) (gName3 1)) (pts.map ptD) { nx := byRest { nx := fun ρ => kk .non ρ.T, rt := fun d ρ => kk d ρ.T }, rt := fun d ρ => kk d ρ.T } ⟨[.val d, .val (.int 1), .un, .un, .un, .un], TT⟩ := fun d hd =>
    loop_prod pts 1 1 .un (fun p hh => ⟨hp.pos p hh, hp.bq p hh⟩) (by decide) (show (1 : Int).natAbs < 2 ^ 1 by decide) (by decide) (by have := hp.few; omega) fun W s h0 _ hdv hb => rest W s ⟨h0, hdv, hb⟩ d hd
  rcases hd with rfl | rfl
  · exact first _ (.inl rfl)
  · exact first _ (.inr rfl)
/-! ### by the program -/
theorem dcGo_pts {ρ : Env3} {W : Int} {k : List (List Key × D) → Env3 → Prop} {g : G3} {tk tv : E3} {vs : List Nat} : ∀ (pts done : List Pt) (acc : List (List Key × D)), Dict W done acc → done.length + pts.length ≤ 1000 →
    (∀ p ∈ pts, ∀ (K : List Key → D → Env3 → Prop) (K2 : Env3 → Prop), (∀ ρ4, ρ4.wipe vs = ρ → K (keyP W p) (ptD p) ρ4) → g (ptD p) ρ (fun ρ1 => tYes3 ρ1 (fun b ρ2 => match b with | true => tk ρ2 (fun y ρ3 => tv ρ3 (fun z ρ4 => isT y fun ds => optK (keyA ds) fun ks => K ks z ρ4) (fun _ _ => False)) (fun _ _ => False) | false => K2 ρ2) (fun _ _ => False))) →
    (∀ acc, Dict W (done ++ pts) acc → k acc ρ) → dcGo g tYes3 tk tv vs (pts.map ptD) acc ρ k
  | [], done, acc, hD, hl, h, fin => fin acc (by rw [List.append_nil]; exact hD)
  | p :: r, done, acc, hD, hl, h, fin => by
    rw [List.length_cons] at hl
    refine h p (by simp) (fun ks z ρ4 => acc.length < sizeLine ∧ dcGo g tYes3 tk tv vs (r.map ptD) (putD acc ks z) (ρ4.wipe vs) k) _ fun ρ4 e => ⟨Nat.lt_of_lt_of_le (by have := hD.few; omega : acc.length < 1001) (by decide), ?_⟩
    rw [e]
    exact dcGo_pts r (done ++ [p]) _ (hD.put p) (by rw [List.length_append]; simp; omega) (fun z hz => h z (by simp [hz])) fun acc h => fin acc (by rw [List.append_assoc] at h; exact h)
theorem r_in_order (ds : List D) (TT : Nat) (kk : D → Nat → Prop) (hl : ds.length = 1) (h : s_in_order ds TT kk) : t_in_order { nx := fun ρ => kk .non ρ.T, rt := fun d ρ => kk d ρ.T } ⟨ds.map .val ++ List.replicate 5 .un, TT⟩ := by
  obtain ⟨d, pts, m, rfl, hd, hp, hm, hm2, hlow, k⟩ := h
  refine ⟨rfl, d, pts, m, rfl, hd, hp, fun W M => ?_⟩
  have hB := mul_few hp M
  have main : ∀ (d : D), dcGo (gName3 4) tYes3 (tCB3 gTuple (tCons3 (tLc3 (iSeq3 (b3 gIx (tVar3 4) (tC3 (.int 1)))) (gName3 3) tYes3 (b3 gMul (tVar3 3) (b3 gDiv (tVar3 1) (b3 gIx (tVar3 4) (tC3 (.int 0))))) [3]) tNil3)) (tVar3 4) [4] (pts.map ptD) [] ⟨[.val d, .val (.int W), .un, .un, .un, .un], TT⟩
      (fun acc ρ2 => tRet3 (tLc3 (iSeq3 (tCB3 gSortedT (tCons3 (tVar3 2) tNil3))) (gName3 5) tYes3 (b3 gDG (tVar3 2) (tVar3 5)) [5]) { nx := fun ρ => kk .non ρ.T, rt := fun d ρ => kk d ρ.T } ((Env3.back ⟨[.val d, .val (.int W), .un, .un, .un, .un], TT⟩ ρ2 [4]).put 2 (.val (.dT acc)))) := fun d => by
    refine dcGo_pts (W := W) pts [] [] .nil (by have := hp.few; simp; omega) (fun p hpp K K2 hK => ?_) fun acc hD => ?_
    · refine row_go (W := W) (by rw [hp.dim p hpp]; exact hm2) (fun n hn K K2 hK => ?_) ?_
      · exact ⟨⟨by have := hp.pos p hpp; omega, bd_log9 (hp.bq p hpp)⟩, (hp.bn p hpp n hn).cmul (quo_bd M.pos (hp.pos p hpp) (M.dvd p hpp) hB) (by decide) (by decide) (by decide), hK _ rfl⟩
      · show optK (keyA ((scaled W p).map D.int)) _
        rw [keyA_ints]
        exact hK _ rfl
    · rw [List.nil_append] at hD
      obtain ⟨nss, R, e1, e2, e3, e4, e5, e6⟩ := dict_order hD hp M.pos M.dvd hlow
      show optK (keysInts acc) _
      rw [e1]
      refine ⟨fun ns hns => ?_, ?_⟩
      · obtain ⟨p, hpp, rfl⟩ := e2 ns hns
        exact scaled_ne (hp.dim p hpp) hm
      · refine sorted_go (by have := hp.few; omega) e3 (fun p hpR K K2 hK => ?_) (k R e6)
        show optK (keyA ((scaled W p).map D.int)) _
        rw [keyA_ints]
        show optK (valD acc (keyP W p)) _
        rw [e4 p hpR]
        exact hK _ rfl
  rcases hd with rfl | rfl
  · exact main _
  · exact main _
end K18
/-! k18: lowest terms -/
namespace K18
open PySem PySem.Spec PyProof.Rows L2 L3
theorem fdiv_exact {P u : Int} (h : P ≠ 0) : (P * u).fdiv P = u := Int.mul_fdiv_cancel_left u h
theorem fdiv_of_eq {P u x : Int} (h : P ≠ 0) (e : x = P * u) : x.fdiv P = u := by
  subst e
  exact fdiv_exact h
theorem foldG_dvd : ∀ (ns : List Int) (a : Int), ns.foldl gcdI a ∣ a ∧ ∀ n ∈ ns, ns.foldl gcdI a ∣ n
  | [], a => ⟨Int.dvd_refl _, by simp⟩
  | n :: r, a => by
    have ih := foldG_dvd r (gcdI a n)
    have g1 : gcdI a n ∣ a := by unfold gcdI; exact Int.ofNat_dvd_left.mpr (Nat.gcd_dvd_left _ _)
    have g2 : gcdI a n ∣ n := by unfold gcdI; exact Int.ofNat_dvd_left.mpr (Nat.gcd_dvd_right _ _)
    refine ⟨Int.dvd_trans ih.1 g1, fun z hz => ?_⟩
    rcases List.mem_cons.mp hz with rfl | hz
    · exact Int.dvd_trans ih.1 g2
    · exact ih.2 z hz
theorem absI_dvd {q d : Int} (h : d ∣ absI q) : d ∣ q := by
  unfold absI at h
  split at h
  · exact (Int.dvd_neg).mp h
  · exact h
theorem part_dvd {q : Int} {ns : List Int} : partL q ns ∣ q ∧ ∀ n ∈ ns, partL q ns ∣ n := by
  have h := foldG_dvd ns (absI q)
  have h1 : gcdL q ns ∣ q := absI_dvd h.1
  have h2 : ∀ n ∈ ns, gcdL q ns ∣ n := h.2
  unfold partL
  split
  · rw [Int.zero_sub]
    exact ⟨Int.neg_dvd.mpr h1, fun n hn => Int.neg_dvd.mpr (h2 n hn)⟩
  · exact ⟨h1, h2⟩
theorem part_exact {q : Int} {ns : List Int} (h : q ≠ 0) : q = partL q ns * q.fdiv (partL q ns) ∧ ∀ n ∈ ns, n = partL q ns * n.fdiv (partL q ns) := by
  have hP := (partL_bd (ns := ns) h).1
  have hd := part_dvd (q := q) (ns := ns)
  refine ⟨?_, fun n hn => ?_⟩
  · obtain ⟨u, hu⟩ := hd.1
    rw [fdiv_of_eq hP hu]
    exact hu
  · obtain ⟨u, hu⟩ := hd.2 n hn
    rw [fdiv_of_eq hP hu]
    exact hu
/-- told by its parts -/
theorem low_parts {q : Int} {ns : List Int} (h : q ≠ 0) : q = partL q ns * (low q ns).1 ∧ ns = (low q ns).2.map (fun n => partL q ns * n) ∧ 0 < (low q ns).1 := by
  have hP := (partL_bd (ns := ns) h).1
  obtain ⟨e1, e2⟩ := part_exact (ns := ns) h
  have e1 : q = partL q ns * (low q ns).1 := e1
  refine ⟨e1, ?_, ?_⟩
  · have e3 : (low q ns).2.map (fun n => partL q ns * n) = ns := by
      show (ns.map fun n => n.fdiv (partL q ns)).map (fun n => partL q ns * n) = ns
      rw [List.map_map]
      conv => rhs; rw [← List.map_id ns]
      exact List.map_congr_left fun n hn => (e2 n hn).symm
    exact e3.symm
  · have g := (gcdL_pos (ns := ns) h).1
    generalize (low q ns).1 = u at e1
    refine Decidable.byContradiction fun hu => ?_
    unfold partL at e1
    split at e1
    · have z : (0 - gcdL q ns) * u = gcdL q ns * (-u) := by rw [Int.zero_sub, Int.neg_mul, Int.mul_neg]
      have z2 : 0 ≤ gcdL q ns * (-u) := Int.mul_nonneg (by omega) (by omega)
      omega
    · have z2 : 0 ≤ gcdL q ns * (-u) := Int.mul_nonneg (by omega) (by omega)
      rw [Int.mul_neg] at z2
      omega
theorem gcdL_mul (c q : Int) (ns : List Int) : gcdL (c * q) (ns.map fun n => c * n) = (c.natAbs : Int) * gcdL q ns := by
  unfold gcdL
  rw [← fold_mul c ns (absI q)]
  congr 1
  rw [absI_eq, absI_eq, Int.natAbs_mul]
  push_cast
  rfl
theorem partL_mul {c q : Int} {ns : List Int} (hc : c ≠ 0) (hq : q ≠ 0) : partL (c * q) (ns.map fun n => c * n) = c * partL q ns := by
  unfold partL
  rw [gcdL_mul]
  rcases Int.lt_or_gt_of_ne hc with c0 | c0 <;> rcases Int.lt_or_gt_of_ne hq with q0 | q0
  · have : 0 < c * q := Int.mul_pos_of_neg_of_neg c0 q0
    rw [if_neg (by omega), if_pos q0]
    have e : ((c.natAbs : Nat) : Int) = -c := by omega
    rw [e, Int.zero_sub, Int.neg_mul, Int.mul_neg]
  · have : c * q < 0 := Int.mul_neg_of_neg_of_pos c0 q0
    rw [if_pos this, if_neg (by omega)]
    have e : ((c.natAbs : Nat) : Int) = -c := by omega
    rw [e, Int.zero_sub, Int.neg_mul, Int.neg_neg]
  · have : c * q < 0 := Int.mul_neg_of_pos_of_neg c0 q0
    rw [if_pos this, if_pos q0]
    have e : ((c.natAbs : Nat) : Int) = c := by omega
    rw [e, Int.zero_sub, Int.zero_sub, Int.mul_neg]
  · have : 0 < c * q := Int.mul_pos c0 q0
    rw [if_neg (by omega), if_neg (by omega)]
    have e : ((c.natAbs : Nat) : Int) = c := by omega
    rw [e]
theorem low_mul {c q : Int} {ns : List Int} (hc : c ≠ 0) (hq : q ≠ 0) : low (c * q) (ns.map fun n => c * n) = low q ns := by
  have hP := (partL_bd (ns := ns) hq).1
  have hcP : c * partL q ns ≠ 0 := Int.mul_ne_zero hc hP
  obtain ⟨e1, e2⟩ := part_exact (ns := ns) hq
  unfold low
  rw [partL_mul hc hq]
  have key : ∀ x : Int, x = partL q ns * x.fdiv (partL q ns) → (c * x).fdiv (c * partL q ns) = x.fdiv (partL q ns) := fun x e => fdiv_of_eq hcP (by
    rw [Int.mul_assoc, ← e])
  refine Prod.ext (key q e1) ?_
  show (ns.map fun n => c * n).map (fun n => n.fdiv (c * partL q ns)) = ns.map fun n => n.fdiv (partL q ns)
  rw [List.map_map]
  exact List.map_congr_left fun n hn => key n (e2 n hn)
theorem low_low {q : Int} {ns : List Int} (hq : q ≠ 0) : Low (low q ns) := by
  obtain ⟨e1, e2, _⟩ := low_parts (ns := ns) hq
  have g := (gcdL_pos (ns := ns) hq).1
  have h := gcdL_mul (partL q ns) (low q ns).1 (low q ns).2
  rw [← e1, ← e2] at h
  have e : (((partL q ns).natAbs : Nat) : Int) = gcdL q ns := by
    unfold partL
    split <;> omega
  rw [e] at h
  show gcdL (low q ns).1 (low q ns).2 = 1
  have z : gcdL q ns * 1 = gcdL q ns * gcdL (low q ns).1 (low q ns).2 := by rw [Int.mul_one]; exact h
  exact (Int.eq_of_mul_eq_mul_left (by omega) z).symm
theorem low_same {p : Pt} (h0 : 0 < p.1) (hl : Low p) : low p.1 p.2 = p := by
  have hl : gcdL p.1 p.2 = 1 := hl
  unfold low partL
  rw [if_neg (by omega), hl]
  refine Prod.ext ?_ ?_
  · show p.1.fdiv 1 = p.1
    exact Int.fdiv_one _
  · show p.2.map (fun n => n.fdiv 1) = p.2
    conv => rhs; rw [← List.map_id p.2]
    exact List.map_congr_left fun n _ => Int.fdiv_one n
theorem part_le {P u n : Int} (hP : P ≠ 0) (h : n = P * u) : u.natAbs ≤ n.natAbs := by
  rw [h, Int.natAbs_mul]
  have : 1 ≤ P.natAbs := by omega
  calc u.natAbs = 1 * u.natAbs := by omega
    _ ≤ P.natAbs * u.natAbs := Nat.mul_le_mul_right _ this
/-- lowest terms of small numbers are small -/
theorem low_small {q : Int} {ns : List Int} {k : Nat} (hq : q ≠ 0) (hb : Bd k q) (hn : ∀ n ∈ ns, Bd k n) : Bd k (low q ns).1 ∧ (∀ n ∈ (low q ns).2, Bd k n) ∧ (low q ns).2.length = ns.length := by
  have hP := (partL_bd (ns := ns) hq).1
  obtain ⟨e1, e2, _⟩ := low_parts (ns := ns) hq
  refine ⟨hb.of_le (part_le hP e1), fun n hm => ?_, by unfold low; rw [List.length_map]⟩
  have : partL q ns * n ∈ ns := by
    have z : partL q ns * n ∈ (low q ns).2.map (fun n => partL q ns * n) := List.mem_map.mpr ⟨n, hm, rfl⟩
    rw [← e2] at z
    exact z
  exact (hn _ this).of_le (part_le hP rfl)
/-- two rows in order of the same points are one row -/
theorem lex_irrefl (l : List Int) : ¬ l < l := List.lt_irrefl l
theorem sorted_unique : ∀ {R R' : List Pt}, (∀ p, p ∈ R ↔ p ∈ R') → R.Pairwise lt2 → R'.Pairwise lt2 → (∀ p ∈ R, ∀ p' ∈ R, lt2 p p' → ¬ lt2 p' p) → R = R'
  | [], [], _, _, _, _ => rfl
  | [], y :: ys, h, _, _, _ => by have := (h y).mpr (by simp); simp at this
  | x :: xs, [], h, _, _, _ => by have := (h x).mp (by simp); simp at this
  | x :: xs, y :: ys, h, h1, h2, as => by
    have h1' := List.pairwise_cons.mp h1
    have h2' := List.pairwise_cons.mp h2
    have irr : ∀ p ∈ x :: xs, ¬ lt2 p p := fun p hp z => as p hp p hp z z
    have yx : y ∈ x :: xs := (h y).mpr (by simp)
    have xy : x ∈ y :: ys := (h x).mp (by simp)
    have e : x = y := by
      rcases List.mem_cons.mp xy with e | hx
      · exact e
      · rcases List.mem_cons.mp yx with e | hy
        · exact e.symm
        · exact (as x (by simp) y yx (h1'.1 y hy) (h2'.1 x hx)).elim
    subst e
    have hin : ∀ p, p ∈ xs ↔ p ∈ ys := fun p => by
      constructor
      · intro hp
        rcases List.mem_cons.mp ((h p).mp (by simp [hp])) with e | hp'
        · subst e; exact (irr p (by simp) (h1'.1 p hp)).elim
        · exact hp'
      · intro hp
        rcases List.mem_cons.mp ((h p).mpr (by simp [hp])) with e | hp'
        · subst e; exact (irr p (by simp) (h2'.1 p hp)).elim
        · exact hp'
    rw [sorted_unique hin h1'.2 h2'.2 fun p hp p' hp' => as p (by simp [hp]) p' (by simp [hp'])]
theorem ord_unique {pts pts' R R' : List Pt} (h : Ord pts R) (h' : Ord pts' R') (e : ∀ p, p ∈ pts ↔ p ∈ pts') : R = R' := by
  refine sorted_unique (fun p => by rw [h.mem, h'.mem, e]) h.asc h'.asc fun p _ p' _ h1 h2 => ?_
  exact List.lt_asymm h1 h2
end K18
/-! k18: points of the plane as the program tells them -/
namespace K18
open PySem PySem.Spec PyProof.Rows L2 L3
theorem gcdL_gT (a : Gt) : gcdL a.q [a.x, a.y] = Geo.gT a := by
  show gcdI (gcdI (absI a.q) a.x) a.y = _
  unfold gcdI Geo.gT
  rw [Int.natAbs_natCast, absI_nat]
theorem gcdL_gT1 (a : Gt) (h : a.y = 0) : gcdL a.q [a.x] = Geo.gT a := by
  show gcdI (absI a.q) a.x = _
  unfold gcdI Geo.gT
  rw [absI_nat, h, Int.natAbs_zero, Nat.gcd_zero_right]
theorem low_eP {m : Nat} (a : Gt) (hf : Flat m a) : low a.q (ePt m a).2 = ePt m (Geo.lowT a) := by
  rcases hf with rfl | ⟨rfl, hy⟩
  · show (a.q.fdiv (partL a.q [a.x, a.y]), [a.x.fdiv (partL a.q [a.x, a.y]), a.y.fdiv (partL a.q [a.x, a.y])]) = _
    have e : partL a.q [a.x, a.y] = Geo.partT a := by unfold partL Geo.partT; rw [gcdL_gT]
    rw [e]; rfl
  · show (a.q.fdiv (partL a.q [a.x]), [a.x.fdiv (partL a.q [a.x])]) = _
    have e : partL a.q [a.x] = Geo.partT a := by unfold partL Geo.partT; rw [gcdL_gT1 a hy]
    rw [e]; rfl
theorem flat_low {m : Nat} {a : Gt} (hf : Flat m a) : Flat m (Geo.lowT a) := by
  rcases hf with rfl | ⟨rfl, hy⟩
  · exact .inl rfl
  · refine .inr ⟨rfl, ?_⟩
    show a.y.fdiv _ = 0
    rw [hy, Int.zero_fdiv]
def dePt (p : Pt) : Gt := ⟨p.1, p.2.getD 0 0, p.2.getD 1 0⟩
theorem de_e {m : Nat} {a : Gt} (hf : Flat m a) : dePt (ePt m a) = a := by
  rcases hf with rfl | ⟨rfl, hy⟩
  · rfl
  · show (⟨a.q, a.x, 0⟩ : Gt) = a
    rw [← hy]
theorem ePt_dim {m : Nat} {a : Gt} (h : Dim m) : (ePt m a).2.length = m := by
  rcases h with rfl | rfl <;> rfl
theorem ePt_inj {m : Nat} {a b : Gt} (ha : Flat m a) (hb : Flat m b) (e : ePt m a = ePt m b) : a = b := by
  rw [← de_e ha, ← de_e hb, e]
theorem low_of {m : Nat} {a : Gt} (hf : Flat m a) (h : Geo.Low a) : Low (ePt m a) := by
  have e : Geo.gT a = 1 := by unfold Geo.gT; rw [h.low]; rfl
  rcases hf with rfl | ⟨rfl, hy⟩
  · show gcdL a.q [a.x, a.y] = 1
    rw [gcdL_gT, e]
  · show gcdL a.q [a.x] = 1
    rw [gcdL_gT1 a hy, e]
theorem bd_wee {i : Int} (h : i.natAbs < 4096) : Bd 14 i := by
  show i.natAbs < 2 ^ 14
  have : (2 : Nat) ^ 14 = 16384 := by decide
  omega
theorem ePt_mem {m : Nat} {a : Gt} (h : Dim m) : ∀ n ∈ (ePt m a).2, n = a.x ∨ n = a.y := by
  rcases h with rfl | rfl
  · intro n hn
    exact .inl (List.mem_singleton.mp hn)
  · intro n hn
    rcases List.mem_cons.mp hn with g | g
    · exact .inl g
    · exact .inr (List.mem_singleton.mp g)
theorem pts_cor {m : Nat} {L : List Gt} (hm : Dim m) (h : ∀ c ∈ L, Cor m c) (hl : L.length ≤ 130) : Pts m (L.map (ePt m)) := by
  refine ⟨fun p hp => ?_, fun p hp => ?_, fun p hp n hn => ?_, fun p hp => ?_, by rw [List.length_map]; exact hl⟩
  · obtain ⟨c, hc, rfl⟩ := List.mem_map.mp hp
    exact (h c hc).low.pos
  · obtain ⟨c, hc, rfl⟩ := List.mem_map.mp hp
    exact bd_wee (h c hc).wee.1
  · obtain ⟨c, hc, rfl⟩ := List.mem_map.mp hp
    rcases ePt_mem hm n hn with e | e
    · rw [e]; exact bd_wee (h c hc).wee.2.1
    · rw [e]; exact bd_wee (h c hc).wee.2.2
  · obtain ⟨c, hc, rfl⟩ := List.mem_map.mp hp
    exact ePt_dim hm
theorem lex2 {a b c d : Int} : [a, b] < [c, d] ↔ a < c ∨ (a = c ∧ b < d) := by
  simp [List.cons_lt_cons_iff]
theorem lex1 {a c : Int} : [a] < [c] ↔ a < c := by
  simp [List.cons_lt_cons_iff]
theorem lt2_lt {m : Nat} {a b : Gt} (ha : Flat m a) (hb : Flat m b) : lt2 (ePt m a) (ePt m b) ↔ Geo.lt a b := by
  unfold lt2 Geo.lt
  rcases ha with rfl | ⟨rfl, hy⟩
  · show [a.x * b.q, a.y * b.q] < [b.x * a.q, b.y * a.q] ↔ _
    exact lex2
  · rcases hb with h | ⟨_, hy'⟩
    · cases h
    · show [a.x * b.q] < [b.x * a.q] ↔ _
      rw [lex1, hy, hy', Int.zero_mul, Int.zero_mul]
      omega
/-- what comes out in order -/
theorem ord_geo {m : Nat} {L : List Gt} {R : List Pt} (h : ∀ c ∈ L, Flat m c) (o : Ord (L.map (ePt m)) R) : ∃ r : List Gt, R = r.map (ePt m) ∧ r.Pairwise Geo.lt ∧ ∀ x, x ∈ r ↔ x ∈ L := by
  have img : ∀ p ∈ R, ∃ c ∈ L, p = ePt m c := fun p hp => by
    obtain ⟨c, hc, e⟩ := List.mem_map.mp ((o.mem p).mp hp)
    exact ⟨c, hc, e.symm⟩
  have back : ∀ p ∈ R, ePt m (dePt p) = p ∧ dePt p ∈ L := fun p hp => by
    obtain ⟨c, hc, rfl⟩ := img p hp
    rw [de_e (h c hc)]
    exact ⟨rfl, hc⟩
  refine ⟨R.map dePt, ?_, ?_, fun x => ?_⟩
  · rw [List.map_map]
    conv => lhs; rw [← List.map_id R]
    exact List.map_congr_left fun p hp => (back p hp).1.symm
  · rw [List.pairwise_map]
    refine o.asc.imp_of_mem fun {p p'} hp hp' g => ?_
    obtain ⟨e1, k1⟩ := back p hp
    obtain ⟨e2, k2⟩ := back p' hp'
    rw [← e1, ← e2] at g
    exact (lt2_lt (h _ k1) (h _ k2)).mp g
  · constructor
    · intro hx
      obtain ⟨p, hp, rfl⟩ := List.mem_map.mp hx
      exact (back p hp).2
    · intro hx
      exact List.mem_map.mpr ⟨ePt m x, (o.mem _).mpr (List.mem_map_of_mem hx), de_e (h x hx)⟩
/-! ### equality -/
theorem eqvAll_ints : ∀ as bs : List Int, PyData.eqvAll (as.map .int) (bs.map .int) = decide (as = bs)
  | [], [] => by simp [PyData.eqvAll]
  | [], b :: bs => by simp [PyData.eqvAll]
  | a :: as, [] => by simp [PyData.eqvAll]
  | a :: as, b :: bs => by
    simp only [List.map_cons, PyData.eqvAll, eqvAll_ints as bs, PyData.eqv]
    by_cases h1 : a = b
    · subst h1
      simp
    · simp [h1]
theorem eqv_pt (p p' : Pt) : PyData.eqv (ptD p).py (ptD p').py = decide (p = p') := by
  have e : ∀ p : Pt, (ptD p).py = .tuple [.int p.1, .tuple (p.2.map .int)] := fun p => by
    show PyData.tuple [PyData.int p.1, PyData.tuple (pyA (p.2.map D.int))] = _
    rw [pyA_ints]
  rw [e, e]
  simp only [PyData.eqv, PyData.eqvAll, eqvAll_ints, Bool.and_true]
  obtain ⟨q, ns⟩ := p
  obtain ⟨q', ns'⟩ := p'
  by_cases h1 : q = q'
  · subst h1
    by_cases h2 : ns = ns'
    · subst h2; simp
    · simp [h2]
  · simp [h1]
theorem eqv_eD {m : Nat} {a b : Gt} (ha : Flat m a) (hb : Flat m b) : PyData.eqv (eD m a).py (eD m b).py = decide (a = b) := by
  unfold eD
  rw [eqv_pt]
  by_cases h : a = b
  · subst h; simp
  · rw [decide_eq_false h, decide_eq_false fun e => h (ePt_inj ha hb e)]
theorem lay_eD (m : Nat) (a : Gt) : (eD m a).py.canLay0 = true ∧ (eD m a).py.depth ≤ 4 := by
  have e : (eD m a).py = .tuple [.int (ePt m a).1, .tuple ((ePt m a).2.map .int)] := by
    show PyData.tuple [PyData.int _, PyData.tuple (pyA ((ePt m a).2.map D.int))] = _
    rw [pyA_ints]
  rw [e]
  have := depth_ints' (ePt m a).2
  simp only [PyData.canLay0, PyData.canLayAll0, lay_ints, PyData.depth, PyData.depthAll, Bool.and_self, true_and]
  omega
theorem lay_eDs (m : Nat) : ∀ R : List Gt, PyData.canLayAll0 (pyA (R.map (eD m))) = true ∧ PyData.depthAll (pyA (R.map (eD m))) ≤ 4
  | [] => by simp [pyA, PyData.canLayAll0, PyData.depthAll]
  | p :: r => by
    obtain ⟨h1, h2⟩ := lay_eD m p
    obtain ⟨h3, h4⟩ := lay_eDs m r
    simp only [List.map_cons, pyA, PyData.canLayAll0, PyData.depthAll, h1, h3, Bool.and_self, true_and]
    omega
theorem shaped_eD (m : Nat) (a : Gt) : SeqAt.shaped (eD m a).py = true := by
  obtain ⟨h1, h2⟩ := lay_eD m a
  unfold SeqAt.shaped
  rw [h1, Bool.true_and]
  exact decide_eq_true (by omega)
theorem shaped_lst (m : Nat) (L : List Gt) : SeqAt.shaped (D.lst (L.map (eD m))).py = true := by
  obtain ⟨h1, h2⟩ := lay_eDs m L
  unfold SeqAt.shaped
  simp only [D.py, PyData.canLay0, PyData.depth, h1, Bool.true_and]
  exact decide_eq_true (by omega)
theorem shaped_tup (m : Nat) (L : List Gt) : SeqAt.shaped (D.tup (L.map (eD m))).py = true := by
  obtain ⟨h1, h2⟩ := lay_eDs m L
  unfold SeqAt.shaped
  simp only [D.py, PyData.canLay0, PyData.depth, h1, Bool.true_and]
  exact decide_eq_true (by omega)
theorem any_eD {m : Nat} {c : Gt} (hc : Flat m c) : ∀ {L : List Gt}, (∀ x ∈ L, Flat m x) → (pyA (L.map (eD m))).any (fun z => PyData.eqv z (eD m c).py) = decide (c ∈ L)
  | [], _ => by simp [pyA]
  | a :: L, h => by
    simp only [List.map_cons, pyA, List.any_cons, eqv_eD (h a (by simp)) hc, any_eD hc (L := L) fun x hx => h x (by simp [hx])]
    by_cases h1 : a = c
    · subst h1; simp
    · have h2 : c ≠ a := fun e => h1 e.symm
      simp [h1, h2]
theorem value_eD {m : Nat} {p a : Gt} (hm : Dim m) (hp : Flat m p) (ha : Flat m a) : (ePt m p).1 * (ePt m a).1 + dot (ePt m p).2 (ePt m a).2 = Geo.val p a := by
  rcases hm with rfl | rfl
  · rcases hp with h | ⟨_, h⟩
    · cases h
    · unfold Geo.val
      rw [h, Int.zero_mul, Int.add_zero]
      show p.q * a.q + ([p.x * a.x] : List Int).sum = _
      simp
  · unfold Geo.val
    show p.q * a.q + ([p.x * a.x, p.y * a.y] : List Int).sum = _
    simp only [List.sum_cons, List.sum_nil]
    omega
end K18
/-! k18: differences, points between, where planes meet, turns, pairs: read -/
namespace K18
open PySem PySem.Spec PyProof.Rows L2 L3
theorem sub_eD {m : Nat} {a b : Gt} (hm : Dim m) : eD m (sub a b) = .tup [.int (a.q - b.q), .tup (((ePt m a).2.zip (ePt m b).2).map fun q : Int × Int => D.int (q.1 - q.2))] := by
  rcases hm with rfl | rfl <;> rfl
theorem zip_len {m : Nat} {a b : Gt} (hm : Dim m) : ((ePt m a).2.zip (ePt m b).2).length ≤ 2 := by
  rcases hm with rfl | rfl <;> simp [ePt]
theorem r_lesser (ds : List D) (TT : Nat) (kk : D → Nat → Prop) (hl : ds.length = 2) (h : s_lesser ds TT kk) : t_lesser { nx := fun ρ => kk .non ρ.T, rt := fun d ρ => kk d ρ.T } ⟨ds.map .val ++ List.replicate 2 .un, TT⟩ := by
  obtain ⟨m, a, b, rfl, hm, k⟩ := h
  show lcGo _ _ _ _ (pairUp ((ePt m a).2.map D.int) ((ePt m b).2.map D.int)) [] _ _
  rw [pairUp_ints]
  refine lcGo_map (fun q : Int × Int => D.tup [.int q.1, .int q.2]) (fun q : Int × Int => D.int (q.1 - q.2)) ((ePt m a).2.zip (ePt m b).2) [] (fun q hq K K2 hK => ?_) ?_ ?_
  · exact ⟨rfl, hK _ rfl⟩
  · have := zip_len (a := a) (b := b) hm
    rw [List.length_nil]
    exact Nat.le_trans (by omega) (by decide : 2 ≤ sizeLine)
  · rw [List.nil_append]
    refine ⟨by show 2 ≤ sizeLine; decide, ?_⟩
    rw [sub_eD hm] at k
    exact k
theorem btw_eP {m : Nat} {c d : Gt} {i j : Int} (hm : Dim m) : ((ePt m c).2.zip (ePt m d).2).map (fun q : Int × Int => j * q.1 - i * q.2) = (ePt m ⟨j * c.q - i * d.q, j * c.x - i * d.x, j * c.y - i * d.y⟩).2 := by
  rcases hm with rfl | rfl <;> rfl
theorem bd_any {k : Nat} {i : Int} (h : Bd 14 i) (hk : 14 ≤ k) : Bd k i := h.mono hk
theorem cor_bd {m : Nat} {c : Gt} (hm : Dim m) (h : Cor m c) : Bd 14 c.q ∧ ∀ n ∈ (ePt m c).2, Bd 14 n := by
  refine ⟨bd_wee h.wee.1, fun n hn => ?_⟩
  rcases ePt_mem hm n hn with e | e
  · rw [e]; exact bd_wee h.wee.2.1
  · rw [e]; exact bd_wee h.wee.2.2
theorem r_between (ds : List D) (TT : Nat) (kk : D → Nat → Prop) (hl : ds.length = 4) (h : s_between ds TT kk) : t_between { nx := fun ρ => kk .non ρ.T, rt := fun d ρ => kk d ρ.T } ⟨ds.map .val ++ List.replicate 3 .un, TT⟩ := by
  obtain ⟨m, c, i, d, j, rfl, hm, hc, hd, bi, bj, hq, k⟩ := h
  obtain ⟨c1, c2⟩ := cor_bd hm hc
  obtain ⟨d1, d2⟩ := cor_bd hm hd
  show lcGo _ _ _ _ (pairUp ((ePt m c).2.map D.int) ((ePt m d).2.map D.int)) [] _ _
  rw [pairUp_ints]
  refine lcGo_map (fun q : Int × Int => D.tup [.int q.1, .int q.2]) (fun q : Int × Int => D.int (j * q.1 - i * q.2)) ((ePt m c).2.zip (ePt m d).2) [] (fun q hq K K2 hK => ?_) ?_ ?_
  · have hq1 := List.of_mem_zip hq
    exact ⟨rfl, bj.cmul (c2 _ hq1.1) (by decide) (by decide) (by decide), bi.cmul (d2 _ hq1.2) (by decide) (by decide) (by decide), hK _ rfl⟩
  · have := zip_len (a := c) (b := d) hm
    rw [List.length_nil]
    exact Nat.le_trans (by omega) (by decide : 2 ≤ sizeLine)
  · rw [List.nil_append]
    refine ⟨bj.cmul c1 (by decide) (by decide) (by decide), bi.cmul d1 (by decide) (by decide) (by decide), ?_⟩
    have e := btw_eP (c := c) (d := d) (i := i) (j := j) hm
    have e2 : ((ePt m c).2.zip (ePt m d).2).map (fun q : Int × Int => D.int (j * q.1 - i * q.2)) = ((ePt m ⟨j * c.q - i * d.q, j * c.x - i * d.x, j * c.y - i * d.y⟩).2).map D.int := by
      rw [← e, List.map_map]; rfl
    have b1 : Bd 115 (j * c.q - i * d.q) := by
      have := (bj.mul c1).add (bi.mul d1).neg
      rw [Int.sub_eq_add_neg]
      exact this
    refine ⟨rfl, j * c.q - i * d.q, _, (ePt m ⟨j * c.q - i * d.q, j * c.x - i * d.x, j * c.y - i * d.y⟩).2, rfl, .inl (by rw [e2]), hq, b1.mono (by decide), ?_, ?_⟩
    · rw [ePt_dim hm]; rcases hm with rfl | rfl <;> decide
    · have hf : Flat m ⟨j * c.q - i * d.q, j * c.x - i * d.x, j * c.y - i * d.y⟩ := by
        rcases hc.flat with h | ⟨h, hy⟩
        · exact .inl h
        · rcases hd.flat with h' | ⟨_, hy'⟩
          · exact .inl h'
          · exact .inr ⟨h, by show j * c.y - i * d.y = 0; rw [hy, hy', Int.mul_zero, Int.mul_zero]; rfl⟩
      have := low_eP (m := m) ⟨j * c.q - i * d.q, j * c.x - i * d.x, j * c.y - i * d.y⟩ hf
      show kk (ptD (low (j * c.q - i * d.q) _)) TT
      rw [this]
      exact k
theorem box_bd {s : Gt} (h : Geo.Box s) : Bd 14 s.q ∧ Bd 14 s.x ∧ Bd 14 s.y := by
  obtain ⟨h1, h2, h3⟩ := h
  exact ⟨bd_wee (by omega), bd_wee (by omega), bd_wee (by omega)⟩
theorem r__law_met (ds : List D) (TT : Nat) (kk : D → Nat → Prop) (hl : ds.length = 2) (h : s__law_met ds TT kk) : t__law_met { nx := fun ρ => kk .non ρ.T, rt := fun d ρ => kk d ρ.T } ⟨ds.map .val ++ List.replicate 1 .un, TT⟩ := by
  obtain ⟨s, t, rfl, hs, ht, k⟩ := h
  obtain ⟨s1, s2, s3⟩ := box_bd hs
  obtain ⟨t1, t2, t3⟩ := box_bd ht
  have cm : ∀ {i j : Int}, Bd 14 i → Bd 14 j → CMulW i j ∨ CMul i j := fun h h' => h.cmul h' (by decide) (by decide) (by decide)
  refine ⟨cm s2 t3, cm s3 t2, ?_⟩
  refine ⟨shaped_int (Geo.cross s t), shaped_int 0, ?_⟩
  show (match PyData.eqv (.int (Geo.cross s t)) (.int 0) with | true => _ | false => _)
  rw [eqv_int]
  unfold metD at k
  by_cases h0 : Geo.cross s t = 0
  · rw [decide_eq_true h0]
    rw [if_pos h0] at k
    exact k
  · rw [decide_eq_false h0]
    rw [if_neg h0] at k
    refine ⟨cm s3 t1, cm t3 s1, cm t2 s1, cm s2 t1, by show 2 ≤ sizeLine; decide, ?_⟩
    have b1 : Bd 29 (Geo.cross s t) := by
      have := (s2.mul t3).add (s3.mul t2).neg
      unfold Geo.cross
      rw [Int.sub_eq_add_neg]
      exact this
    refine ⟨rfl, Geo.cross s t, _, [s.y * t.q - t.y * s.q, t.x * s.q - s.x * t.q], rfl, .inl rfl, h0, b1.mono (by decide), by simp, ?_⟩
    have := low_eP (m := 2) (Geo.crs s t) (.inl rfl)
    show kk (ptD (low (Geo.cross s t) [s.y * t.q - t.y * s.q, t.x * s.q - s.x * t.q])) TT
    have e : low (Geo.cross s t) [s.y * t.q - t.y * s.q, t.x * s.q - s.x * t.q] = low (Geo.crs s t).q (ePt 2 (Geo.crs s t)).2 := rfl
    rw [e, this]
    exact k
theorem r__law_turn (ds : List D) (TT : Nat) (kk : D → Nat → Prop) (hl : ds.length = 3) (h : s__law_turn ds TT kk) : t__law_turn { nx := fun ρ => kk .non ρ.T, rt := fun d ρ => kk d ρ.T } ⟨ds.map .val ++ List.replicate 9 .un, TT⟩ := by
  obtain ⟨a, b, c, rfl, ha, hb, hc, k⟩ := h
  have a1 := bd_wee ha.1
  have a2 := bd_wee ha.2.1
  have a3 := bd_wee ha.2.2
  have b1 := bd_wee hb.1
  have b2 := bd_wee hb.2.1
  have b3 := bd_wee hb.2.2
  have c1 := bd_wee hc.1
  have c2 := bd_wee hc.2.1
  have c3 := bd_wee hc.2.2
  have cm : ∀ {k l : Nat} {i j : Int}, Bd k i → Bd l j → 0 < k → 0 < l → k + l ≤ 1000000 → CMulW i j ∨ CMul i j := fun h h' a b c => h.cmul h' a b c
  have sb : ∀ {k : Nat} {i j : Int}, Bd k i → Bd k j → Bd (k + 1) (i - j) := fun h h' => by
    have := h.add h'.neg
    rw [Int.sub_eq_add_neg]; exact this
  refine ⟨by show 3 ≤ sizeLine; decide, rfl, rfl, rfl, rfl, rfl, rfl, rfl, ?_⟩
  refine ⟨cm b2 c3 (by decide) (by decide) (by decide), cm c2 b3 (by decide) (by decide) (by decide), cm a1 (sb (b2.mul c3) (c2.mul b3)) (by decide) (by decide) (by decide), ?_⟩
  refine ⟨cm b1 c3 (by decide) (by decide) (by decide), cm c1 b3 (by decide) (by decide) (by decide), cm a2 (sb (b1.mul c3) (c1.mul b3)) (by decide) (by decide) (by decide), ?_⟩
  refine ⟨cm b1 c2 (by decide) (by decide) (by decide), cm c1 b2 (by decide) (by decide) (by decide), cm a3 (sb (b1.mul c2) (c1.mul b2)) (by decide) (by decide) (by decide), ?_⟩
  exact k
theorem upto_nat (n : Nat) : upto 0 n = (List.range n).map fun i => D.int ((i : Nat) : Int) := by
  unfold upto
  exact List.map_congr_left fun i _ => by rw [Int.zero_add]
theorem allLsts_map {α : Type} (f : α → List D) : ∀ xs : List α, allLsts (xs.map fun x => D.lst (f x)) = some (xs.map f)
  | [] => rfl
  | x :: xs => by simp only [List.map_cons, allLsts, allLsts_map f xs, Option.map_some]
theorem pairs_len (n : Nat) : (pairsD n).length ≤ n * n := by
  unfold pairsD
  rw [List.length_flatten, List.map_map]
  have : ∀ l : List Nat, (∀ i ∈ l, i ≤ n) → (l.map (List.length ∘ fun i => (List.range i).map fun j => D.tup [.int (i : Nat), .int (j : Nat)])).sum ≤ l.length * n := by
    intro l
    induction l with
    | nil => intro _; simp
    | cons a l ih =>
      intro h
      have h1 := h a (by simp)
      have h2 := ih fun i hi => h i (by simp [hi])
      simp only [List.map_cons, List.sum_cons, Function.comp, List.length_map, List.length_range, List.length_cons] at h2 ⊢
      rw [Nat.add_mul]
      omega
  have := this (List.range n) fun i hi => Nat.le_of_lt (List.mem_range.mp hi)
  rw [List.length_range] at this
  exact this
theorem r__law_pairs (ds : List D) (TT : Nat) (kk : D → Nat → Prop) (hl : ds.length = 1) (h : s__law_pairs ds TT kk) : t__law_pairs { nx := fun ρ => kk .non ρ.T, rt := fun d ρ => kk d ρ.T } ⟨ds.map .val ++ List.replicate 2 .un, TT⟩ := by
  obtain ⟨n, rfl, h1, h40, k⟩ := h
  refine ⟨⟨by omega, by omega⟩, ?_⟩
  show lcGo _ _ _ _ (upto 0 ((n : Nat) : Int).toNat) [] _ _
  rw [Int.toNat_natCast, upto_nat]
  refine lcGo_map (fun i : Nat => D.int ((i : Nat) : Int)) (fun i : Nat => D.lst ((List.range i).map fun j => D.tup [.int (i : Nat), .int (j : Nat)])) (List.range n) [] (fun i hi K K2 hK => ?_) ?_ ?_
  · have hi := List.mem_range.mp hi
    refine ⟨⟨by omega, by omega⟩, ?_⟩
    show lcGo _ _ _ _ (upto 0 ((i : Nat) : Int).toNat) [] _ _
    rw [Int.toNat_natCast, upto_nat]
    refine lcGo_map (fun j : Nat => D.int ((j : Nat) : Int)) (fun j : Nat => D.tup [.int (i : Nat), .int (j : Nat)]) (List.range i) [] (fun j hj K K2 hK => ?_) ?_ ?_
    · exact ⟨by show 2 ≤ sizeLine; decide, hK _ rfl⟩
    · rw [List.length_nil, List.length_range]
      exact Nat.le_trans (by omega) (by decide : 40 ≤ sizeLine)
    · rw [List.nil_append]
      exact hK _ rfl
  · rw [List.length_nil, List.length_range]
    exact Nat.le_trans (by omega) (by decide : 40 ≤ sizeLine)
  · rw [List.nil_append]
    refine ⟨by show 0 ≤ sizeLine; decide, _, allLsts_map _ _, ?_, ?_, k⟩
    · intro e
      have := congrArg List.length e
      rw [List.length_map, List.length_range] at this
      simp at this; omega
    · have h2 := pairs_len n
      have h3 : n * n ≤ 40 * 40 := Nat.mul_le_mul h40 h40
      exact Nat.le_trans h2 (Nat.le_trans h3 (by decide))
end K18
/-! k18: tidy, read -/
namespace K18
open PySem PySem.Spec PyProof.Rows L2 L3
theorem cutL_to {α : Type} (xs : List α) (k : Nat) : cutL xs none (some (k : Int)) = xs.take k := by
  unfold cutL
  rw [HT.sIx_none, HT.sIx_nat, List.drop_zero, Nat.sub_zero, Nat.min_comm, ← List.take_take]
  exact List.take_of_length_le (by rw [List.length_take]; omega)
theorem atI_nat {α : Type} {xs : List α} {k : Nat} {d : α} (h : xs[k]? = some d) : atI xs ((k : Nat) : Int) = some d := by
  have hk := (List.getElem?_eq_some_iff.mp h).1
  unfold atI ixN
  rw [if_pos (by omega), if_pos (by omega)]
  exact h
theorem atI_last {α : Type} {xs : List α} {d : α} (h : xs.getLast? = some d) : atI xs (-1) = some d := by
  rw [List.getLast?_eq_getElem?] at h
  have hk := (List.getElem?_eq_some_iff.mp h).1
  unfold atI ixN
  rw [if_neg (by decide)]
  have e : (-1 + (xs.length : Int)).toNat = xs.length - 1 := by omega
  simp only [e]
  rw [if_pos (by omega)]
  exact h
theorem cutL_from {α : Type} (xs : List α) (k : Nat) : cutL xs (some (k : Int)) none = xs.drop k := by
  unfold cutL
  rw [HT.sIx_none, HT.sIx_nat]
  by_cases h : k ≤ xs.length
  · rw [Nat.min_eq_left h]
    exact List.take_of_length_le (by rw [List.length_drop]; omega)
  · rw [Nat.min_eq_right (by omega), List.drop_of_length_le (Nat.le_refl _), List.drop_of_length_le (by omega), List.take_nil]
abbrev stepT (acc : List Gt) (c : Gt) : List Gt := if c ∈ acc then acc else acc ++ [c]
theorem loop_tidy {E : Ends3} {a s3 : Slot} {T m : Nat} : ∀ (l acc : List Gt) (s : Slot), (∀ c ∈ l, Flat m c) → (∀ c ∈ acc, Flat m c) → acc.length + l.length ≤ 200 →
    (∀ s, E.nx ⟨[a, .own (.lst ((l.foldl stepT acc).map (eD m))), s, s3], T⟩) →
    loop3 (gName3 2) (tIfS3 (tNotInO 1 (tVar3 2)) (tAppO 1 (tVar3 2)) tNext3) (l.map (eD m)) E ⟨[a, .own (.lst (acc.map (eD m))), s, s3], T⟩
  | [], acc, s, _, _, _, h => h s
  | c :: l, acc, s, hl, ha, hn, h => by
    have hc := hl c (by simp)
    refine ⟨shaped_eD m c, shaped_lst m acc, ?_⟩
    show (match !(pyA (acc.map (eD m))).any (fun z => PyData.eqv z (eD m c).py) with | true => _ | false => _)
    rw [any_eD hc ha]
    rw [List.foldl_cons] at h
    rw [List.length_cons] at hn
    by_cases hm : c ∈ acc
    · rw [decide_eq_true hm]
      have e : stepT acc c = acc := if_pos hm
      rw [e] at h
      exact loop_tidy l acc _ (fun z hz => hl z (by simp [hz])) ha (by omega) h
    · rw [decide_eq_false hm]
      have e : stepT acc c = acc ++ [c] := if_neg hm
      rw [e] at h
      refine ⟨?_, ?_⟩
      · show (acc.map (eD m)).length < sizeLine
        rw [List.length_map]
        exact Nat.lt_of_lt_of_le (by omega : acc.length < 201) (by decide)
      · have := loop_tidy l (acc ++ [c]) (.val (eD m c)) (fun z hz => hl z (by simp [hz])) (fun z hz => by
          rcases List.mem_append.mp hz with g | g
          · exact ha z g
          · rw [List.mem_singleton.mp g]; exact hc) (by rw [List.length_append]; simp; omega) h
        rw [List.map_append] at this
        exact this
theorem ded_is (l : List Gt) : Geo.ded l = l.foldl stepT [] := rfl
theorem map_eD (m : Nat) (r : List Gt) : r.map (eD m) = (r.map (ePt m)).map ptD := by rw [List.map_map]; rfl
theorem nodup_go : ∀ (l acc : List Gt), acc.Nodup → (l.foldl stepT acc).Nodup
  | [], _, h => h
  | c :: l, acc, h => by
    rw [List.foldl_cons]
    refine nodup_go l _ ?_
    show (if c ∈ acc then acc else acc ++ [c]).Nodup
    by_cases hc : c ∈ acc
    · rw [if_pos hc]; exact h
    · rw [if_neg hc]
      refine List.nodup_append.mpr ⟨h, by simp, fun a ha b hb => ?_⟩
      rw [List.mem_singleton.mp hb]
      exact fun e => hc (e ▸ ha)
theorem r_tidy (ds : List D) (TT : Nat) (kk : D → Nat → Prop) (hl : ds.length = 1) (h : s_tidy ds TT kk) : t_tidy { nx := fun ρ => kk .non ρ.T, rt := fun d ρ => kk d ρ.T } ⟨ds.map .val ++ List.replicate 3 .un, TT⟩ := by
  obtain ⟨m, L, d, rfl, hd, hm, hL, hn, k⟩ := h
  have hf : ∀ c ∈ L, Flat m c := fun c hc => (hL c hc).flat
  have tail : ∀ (a s : Slot), (tSeq3 (tIfS3 (tB3 (b3 gLt (tCB3 gLen (tCons3 (tVar3 1) tNil3)) (tC3 (.int 3)))) (tRet3 (tIf3 (tTru3 (tVar3 1)) (tCB3 gTuple (tCons3 (tFn3 1 s_in_order (tCons3 (tVar3 1) tNil3)) tNil3)) (tTup3 tNil3))) tNext3)
      (tSeq3 (tAsg3 (tIdx3 (tVar3 1) (b3 gIx (tFn3 1 s_in_order (tCons3 (tVar3 1) tNil3)) (tC3 (.int 0)))) (gName3 3))
      (tRet3 (tCB3 gTuple (tCons3 (b3 gAdd (tSl3 (tVar3 1) (tPart3 (tVar3 3)) tNoPart3) (tSl3 (tVar3 1) tNoPart3 (tPart3 (tVar3 3)))) tNil3))))) { nx := fun ρ => kk .non ρ.T, rt := fun d ρ => kk d ρ.T } ⟨[a, .own (.lst ((L.foldl stepT []).map (eD m))), s, .un], TT⟩ := by
    intro a s
    rw [← ded_is]
    have hmem : ∀ x, x ∈ Geo.ded L ↔ x ∈ L := fun x => Geo.ded_mem
    have hlen : (Geo.ded L).length ≤ 100 := Nat.le_trans Geo.ded_len hn
    have hnd : (Geo.ded L).Nodup := nodup_go L [] .nil
    have hff : ∀ c ∈ Geo.ded L, Cor m c := fun c hc => hL c ((hmem c).mp hc)
    generalize hF : Geo.ded L = f at hmem hlen hnd hff
    -- what in_order gives
    have ord : ∀ (K : D → Nat → Prop), (∀ r : List Gt, r.Pairwise Geo.lt → (∀ x, x ∈ r ↔ x ∈ f) → K (.lst (r.map (eD m))) TT) → s_in_order [.lst (f.map (eD m))] TT K := by
      intro K hK
      refine ⟨_, f.map (ePt m), m, rfl, .inl (by rw [map_eD]), pts_cor hm hff (by omega), by rcases hm with rfl | rfl <;> decide, by rcases hm with rfl | rfl <;> decide, fun p hp => ?_, fun R o => ?_⟩
      · obtain ⟨c, hc, rfl⟩ := List.mem_map.mp hp
        exact low_of (hff c hc).flat (hff c hc).low
      · obtain ⟨r, e, h1, h2⟩ := ord_geo (fun c hc => (hff c hc).flat) o
        rw [e, ← map_eD]
        exact hK r h1 h2
    show (match decide ((((f.map (eD m)).length : Nat) : Int) < 3) with | true => _ | false => _)
    rw [List.length_map]
    by_cases h3 : f.length < 3
    · rw [decide_eq_true (by omega)]
      show (match !(f.map (eD m)).isEmpty with | true => _ | false => _)
      cases f with
      | nil =>
        refine ⟨by show 0 ≤ sizeLine; decide, ?_⟩
        exact k [] ⟨fun _ => ⟨.nil, fun x => by rw [hF]⟩, fun h => by rw [hF] at h; simp at h⟩
      | cons c f =>
        refine ⟨rfl, ?_⟩
        refine ord _ fun r h1 h2 => ?_
        exact k r ⟨fun _ => ⟨h1, fun x => by rw [hF]; exact h2 x⟩, fun h => by rw [hF] at h; omega⟩
    · rw [decide_eq_false (by omega)]
      refine ⟨rfl, ord _ fun r h1 h2 => ?_⟩
      match r, h1, h2 with
      | [], h1, h2 =>
        exfalso
        match f, h3, h2 with
        | [], h3, _ => simp at h3
        | c :: f, _, h2 => have := (h2 c).mpr (by simp); simp at this
      | b :: r, h1, h2 =>
        have hb : b ∈ f := (h2 b).mp (by simp)
        obtain ⟨A, B, e, hA⟩ := List.eq_append_cons_of_mem hb
        have least : ∀ c ∈ f, c = b ∨ Geo.lt b c := fun c hc => by
          rcases List.mem_cons.mp ((h2 c).mpr hc) with g | g
          · exact .inl g
          · exact .inr ((List.pairwise_cons.mp h1).1 c g)
        have e0 : atI ((b :: r).map (eD m)) 0 = some (eD m b) := atI_nat (k := 0) rfl
        show optK (atI ((b :: r).map (eD m)) 0) _
        rw [e0]
        refine ⟨shaped_lst m f, shaped_eD m b, A.length, eD m b, ?_, ?_, fun j z hj hz => ?_, ?_⟩
        · rw [e, List.getElem?_map]; simp
        · rw [eqv_eD (hff b hb).flat (hff b hb).flat]; simp
        · rw [e, List.getElem?_map, List.getElem?_append_left hj, List.getElem?_eq_getElem hj] at hz
          have ez : eD m A[j] = z := Option.some.inj hz
          have hAj : A[j] ∈ A := List.getElem_mem hj
          have hAf : A[j] ∈ f := by rw [e]; exact List.mem_append_left _ hAj
          rw [← ez, eqv_eD (hff _ hAf).flat (hff b hb).flat]
          exact decide_eq_false fun z => hA (z ▸ hAj)
        · show ((cutL (f.map (eD m)) (some ((A.length : Nat) : Int)) none).length + (cutL (f.map (eD m)) none (some ((A.length : Nat) : Int))).length ≤ sizeLine) ∧ kk (.tup (cutL (f.map (eD m)) (some ((A.length : Nat) : Int)) none ++ cutL (f.map (eD m)) none (some ((A.length : Nat) : Int)))) TT
          rw [cutL_from, cutL_to]
          have e1 : (f.map (eD m)).drop A.length = (b :: B).map (eD m) := by rw [← List.map_drop, e, List.drop_left]
          have e2 : (f.map (eD m)).take A.length = A.map (eD m) := by rw [← List.map_take, e, List.take_left]
          rw [e1, e2]
          have hl2 := congrArg List.length e
          simp only [List.length_append, List.length_cons] at hl2
          refine ⟨?_, ?_⟩
          · rw [List.length_map, List.length_map, List.length_cons]
            exact Nat.le_trans (by omega) (by decide : 100 ≤ sizeLine)
          · rw [← List.map_append]
            exact k ((b :: B) ++ A) ⟨fun h => by rw [hF] at h; omega, fun _ => ⟨A, B, b, by rw [hF]; exact e, rfl, fun c hc => least c (by rw [hF] at hc; exact hc)⟩⟩
  have run : ∀ d, seqD d (L.map (eD m)) → t_tidy { nx := fun ρ => kk .non ρ.T, rt := fun d ρ => kk d ρ.T } ⟨[.val d, .un, .un, .un], TT⟩ := by
    intro d hd
    refine ⟨by show 0 ≤ sizeLine; decide, ⟨by decide, (by decide : 1 < 4)⟩, ?_⟩
    rcases hd with rfl | rfl
    · exact loop_tidy L [] .un hf (by simp) (by simp; omega) fun s => tail _ s
    · exact loop_tidy L [] .un hf (by simp) (by simp; omega) fun s => tail _ s
  exact run d hd
end K18
/-! k18: cut, read -/
namespace K18
open PySem PySem.Spec PyProof.Rows L2 L3
theorem val_bd {m : Nat} {p c : Gt} (hp : Pln m p) (hc : Cor m c) : Bd 30 (Geo.val p c) := by
  obtain ⟨p1, p2, p3⟩ := box_bd hp.box
  have c1 := bd_wee hc.wee.1
  have c2 := bd_wee hc.wee.2.1
  have c3 := bd_wee hc.wee.2.2
  unfold Geo.val
  exact ((p1.mul c1).add (p2.mul c2)).add ((p3.mul c3).mono (by decide))
theorem meet_nz {p c d : Gt} (hc : Geo.Low c) (hd : Geo.Low d) (hn : Geo.val p c * Geo.val p d < 0) : Geo.val p d * c.q - Geo.val p c * d.q ≠ 0 := by
  have pc := hc.pos
  have pd := hd.pos
  by_cases h : Geo.val p c < 0
  · have : 0 < Geo.val p d := by
      refine Classical.byContradiction fun g => ?_
      have := Int.mul_nonneg_of_nonpos_of_nonpos (Int.le_of_lt h) (by omega : Geo.val p d ≤ 0)
      omega
    have n1 := Int.mul_pos this pc
    have n2 := Int.mul_neg_of_neg_of_pos h pd
    omega
  · have h0 : Geo.val p c ≠ 0 := fun e => by rw [e, Int.zero_mul] at hn; omega
    have h1 : 0 < Geo.val p c := by omega
    have : Geo.val p d < 0 := by
      refine Classical.byContradiction fun g => ?_
      have := Int.mul_nonneg (Int.le_of_lt h1) (by omega : 0 ≤ Geo.val p d)
      omega
    have n1 := Int.mul_neg_of_neg_of_pos this pc
    have n2 := Int.mul_pos h1 pd
    omega
abbrev bodyC : S3 := tSeq3 (tAsg3 (b3 gMod (b3 gAdd (tVar3 5) (tC3 (.int 1))) (tCB3 gLen (tCons3 (tVar3 0) tNil3))) (gName3 6))
  (tSeq3 (tIfS3 (tB3 (b3 gLe (b3 gIx (tVar3 2) (tVar3 5)) (tC3 (.int 0)))) (tAppO 3 (tVar3 4)) tNext3)
  (tIfS3 (tB3 (b3 gLt (b3 gMul (b3 gIx (tVar3 2) (tVar3 5)) (b3 gIx (tVar3 2) (tVar3 6))) (tC3 (.int 0)))) (tAppO 3 (tFn3 4 s_between (tCons3 (tVar3 4) (tCons3 (b3 gIx (tVar3 2) (tVar3 5)) (tCons3 (b3 gIx (tVar3 0) (tVar3 6)) (tCons3 (b3 gIx (tVar3 2) (tVar3 6)) tNil3)))))) tNext3))
/-- one corner of the row, and the next one -/
theorem body_cut {E : Ends3} {m : Nat} {p c d : Gt} {L acc : List Gt} {i j : Nat} {s6 : Slot} {T : Nat} (hm : Dim m) (hp : Pln m p) (hL : ∀ c ∈ L, Cor m c) (hi : L[i]? = some c) (hj : L[j]? = some d) (hij : (((i : Nat) : Int) + 1).fmod ((L.length : Nat) : Int) = (j : Nat)) (hacc : acc.length ≤ 200)
    (fin : ∀ s, E.nx ⟨[.val (.tup (L.map (eD m))), .val (eD m p), .val (.lst (L.map fun c => .int (Geo.val p c))), .own (.lst ((acc ++ Geo.st Geo.mt p c d).map (eD m))), .val (eD m c), .val (.int (i : Nat)), s], T⟩) :
    bodyC E ⟨[.val (.tup (L.map (eD m))), .val (eD m p), .val (.lst (L.map fun c => .int (Geo.val p c))), .own (.lst (acc.map (eD m))), .val (eD m c), .val (.int (i : Nat)), s6], T⟩ := by
  have hlen : 0 < L.length := by have := (List.getElem?_eq_some_iff.mp hi).1; omega
  have cm := hL c (List.mem_of_getElem? hi)
  have dm := hL d (List.mem_of_getElem? hj)
  have vi : atI (L.map fun c => D.int (Geo.val p c)) ((i : Nat) : Int) = some (.int (Geo.val p c)) := atI_nat (by rw [List.getElem?_map, hi]; rfl)
  have vj : atI (L.map fun c => D.int (Geo.val p c)) ((j : Nat) : Int) = some (.int (Geo.val p d)) := atI_nat (by rw [List.getElem?_map, hj]; rfl)
  have cj : atI (L.map (eD m)) ((j : Nat) : Int) = some (eD m d) := atI_nat (by rw [List.getElem?_map, hj]; rfl)
  have bi := val_bd hp cm
  have bj := val_bd hp dm
  have low : ∀ n : Nat, n ≤ 201 → n < sizeLine := fun n h => Nat.lt_of_lt_of_le (by omega : n < 202) (by decide)
  refine ⟨by rw [List.length_map]; omega, ?_⟩
  have e6 : (((i : Nat) : Int) + 1).fmod (((L.map (eD m)).length : Nat) : Int) = (j : Nat) := by rw [List.length_map]; exact hij
  -- behind the first test
  have second : ∀ acc : List Gt, acc.length ≤ 201 → (∀ s, E.nx ⟨[.val (.tup (L.map (eD m))), .val (eD m p), .val (.lst (L.map fun c => .int (Geo.val p c))), .own (.lst ((acc ++ if Geo.val p c * Geo.val p d < 0 then [Geo.mt p c d] else []).map (eD m))), .val (eD m c), .val (.int (i : Nat)), s], T⟩) →
      (tIfS3 (tB3 (b3 gLt (b3 gMul (b3 gIx (tVar3 2) (tVar3 5)) (b3 gIx (tVar3 2) (tVar3 6))) (tC3 (.int 0)))) (tAppO 3 (tFn3 4 s_between (tCons3 (tVar3 4) (tCons3 (b3 gIx (tVar3 2) (tVar3 5)) (tCons3 (b3 gIx (tVar3 0) (tVar3 6)) (tCons3 (b3 gIx (tVar3 2) (tVar3 6)) tNil3)))))) tNext3) E
      ⟨[.val (.tup (L.map (eD m))), .val (eD m p), .val (.lst (L.map fun c => .int (Geo.val p c))), .own (.lst (acc.map (eD m))), .val (eD m c), .val (.int (i : Nat)), .val (.int ((((i : Nat) : Int) + 1).fmod (((L.map (eD m)).length : Nat) : Int)))], T⟩ := by
    intro acc ha fin
    rw [e6]
    show optK (atI (L.map fun c => D.int (Geo.val p c)) ((i : Nat) : Int)) _
    rw [vi]
    show optK (atI (L.map fun c => D.int (Geo.val p c)) ((j : Nat) : Int)) _
    rw [vj]
    refine ⟨bi.cmul bj (by decide) (by decide) (by decide), ?_⟩
    show (match decide (Geo.val p c * Geo.val p d < 0) with | true => _ | false => _)
    by_cases hn : Geo.val p c * Geo.val p d < 0
    · rw [decide_eq_true hn]
      rw [if_pos hn] at fin
      show optK (atI (L.map fun c => D.int (Geo.val p c)) ((i : Nat) : Int)) _
      rw [vi]
      show optK (atI (L.map (eD m)) ((j : Nat) : Int)) _
      rw [cj]
      show optK (atI (L.map fun c => D.int (Geo.val p c)) ((j : Nat) : Int)) _
      rw [vj]
      refine ⟨rfl, m, c, Geo.val p c, d, Geo.val p d, rfl, hm, cm, dm, bi.mono (by decide), bj.mono (by decide), meet_nz cm.low dm.low hn, ?_⟩
      refine ⟨by rw [List.length_map]; exact low _ ha, ?_⟩
      have := fin (.val (.int (j : Nat)))
      rw [List.map_append] at this
      exact this
    · rw [decide_eq_false hn]
      rw [if_neg hn] at fin
      rw [List.append_nil] at fin
      exact fin _
  show optK (atI (L.map fun c => D.int (Geo.val p c)) ((i : Nat) : Int)) _
  rw [vi]
  show (match decide (Geo.val p c ≤ 0) with | true => _ | false => _)
  unfold Geo.st at fin
  by_cases hv : Geo.val p c ≤ 0
  · rw [decide_eq_true hv]
    rw [if_pos hv] at fin
    refine ⟨by rw [List.length_map]; exact low _ (by omega), ?_⟩
    have := second (acc ++ [c]) (by rw [List.length_append]; simp; omega) fun s => by
      have := fin s
      rw [← List.append_assoc] at this
      exact this
    rw [List.map_append] at this
    exact this
  · rw [decide_eq_false hv]
    rw [if_neg hv] at fin
    refine second acc (by omega) fun s => ?_
    have := fin s
    rw [List.nil_append] at this
    exact this
theorem st_few {p c d : Gt} : (Geo.st Geo.mt p c d).length ≤ 2 := Geo.st_len
theorem fmod_small {i n : Nat} (h : i + 1 < n) : (((i : Nat) : Int) + 1).fmod ((n : Nat) : Int) = ((i + 1 : Nat) : Int) := by
  rw [Int.fmod_eq_emod_of_nonneg _ (by omega), Int.emod_eq_of_lt (by omega) (by omega)]; omega
theorem fmod_wrap {i n : Nat} (h : i + 1 = n) : (((i : Nat) : Int) + 1).fmod ((n : Nat) : Int) = ((0 : Nat) : Int) := by
  have e : ((i : Nat) : Int) + 1 = ((n : Nat) : Int) := by omega
  rw [e, Int.fmod_self]; rfl
def restW (p a : Gt) : List Gt → List Gt
  | [] => []
  | c :: r => Geo.wk Geo.mt p c (r ++ [a])
theorem loop_cut {E : Ends3} {m : Nat} {p a : Gt} {L l : List Gt} {T : Nat} (hm : Dim m) (hp : Pln m p) (hL : ∀ c ∈ L, Cor m c) (ea : L = a :: l) : ∀ (suf pre acc : List Gt) (s4 s5 s6 : Slot), L = pre ++ suf → acc.length + 2 * suf.length ≤ 200 →
    (∀ s4 s5 s6, E.nx ⟨[.val (.tup (L.map (eD m))), .val (eD m p), .val (.lst (L.map fun c => .int (Geo.val p c))), .own (.lst ((acc ++ restW p a suf).map (eD m))), s4, s5, s6], T⟩) →
    loop3 (gTup3 2 (gCons3 (gName3 5) (gCons3 (gName3 4) gNil3))) bodyC (nums pre.length (suf.map (eD m))) E ⟨[.val (.tup (L.map (eD m))), .val (eD m p), .val (.lst (L.map fun c => .int (Geo.val p c))), .own (.lst (acc.map (eD m))), s4, s5, s6], T⟩
  | [], pre, acc, s4, s5, s6, e, hn, h => by
    have := h s4 s5 s6
    have e0 : restW p a [] = [] := rfl
    rw [e0, List.append_nil] at this
    exact this
  | c :: suf, pre, acc, s4, s5, s6, e, hn, h => by
    rw [List.length_cons] at hn
    have hi : L[pre.length]? = some c := by rw [e]; simp
    have e' : L = (pre ++ [c]) ++ suf := by rw [e]; simp
    have hlen : L.length = pre.length + suf.length + 1 := by rw [e]; simp; omega
    have next : ∀ (d : Gt) (j : Nat), L[j]? = some d → (((pre.length : Nat) : Int) + 1).fmod ((L.length : Nat) : Int) = (j : Nat) → (∀ s4 s5 s6, E.nx ⟨[.val (.tup (L.map (eD m))), .val (eD m p), .val (.lst (L.map fun c => .int (Geo.val p c))), .own (.lst (((acc ++ Geo.st Geo.mt p c d) ++ restW p a suf).map (eD m))), s4, s5, s6], T⟩) →
        loop3 (gTup3 2 (gCons3 (gName3 5) (gCons3 (gName3 4) gNil3))) bodyC (nums pre.length ((c :: suf).map (eD m))) E ⟨[.val (.tup (L.map (eD m))), .val (eD m p), .val (.lst (L.map fun c => .int (Geo.val p c))), .own (.lst (acc.map (eD m))), s4, s5, s6], T⟩ := by
      intro d j hj hf fin
      have st2 := st_few (p := p) (c := c) (d := d)
      refine ⟨rfl, ?_⟩
      refine body_cut hm hp hL hi hj hf (by omega) fun s => ?_
      have := loop_cut hm hp hL ea suf (pre ++ [c]) (acc ++ Geo.st Geo.mt p c d) (.val (eD m c)) (.val (.int (pre.length : Nat))) s e' (by rw [List.length_append]; omega) fin
      rw [List.length_append] at this
      exact this
    cases suf with
    | nil =>
      refine next a 0 (by rw [ea]; rfl) (fmod_wrap (by simp at hlen; omega)) fun s4 s5 s6 => ?_
      have := h s4 s5 s6
      have e2 : restW p a [c] = Geo.st Geo.mt p c a := by simp [Geo.wk, restW]
      rw [e2] at this
      have e0 : restW p a [] = [] := rfl
      rw [e0, List.append_nil]
      exact this
    | cons d r =>
      refine next d (pre.length + 1) (by rw [e]; simp) (fmod_small (by simp at hlen; omega)) fun s4 s5 s6 => ?_
      have := h s4 s5 s6
      have e2 : restW p a (c :: d :: r) = Geo.st Geo.mt p c d ++ restW p a (d :: r) := rfl
      rw [e2, ← List.append_assoc] at this
      exact this
theorem r_cut (ds : List D) (TT : Nat) (kk : D → Nat → Prop) (hl : ds.length = 2) (h : s_cut ds TT kk) : t_cut { nx := fun ρ => kk .non ρ.T, rt := fun d ρ => kk d ρ.T } ⟨ds.map .val ++ List.replicate 5 .un, TT⟩ := by
  obtain ⟨m, L, p, rfl, hm, hL, hp, hn, hfd, k⟩ := h
  obtain ⟨p1, p2, p3⟩ := box_bd hp.box
  refine lcGo_map (eD m) (fun c => D.int (Geo.val p c)) L [] (fun c hc K K2 hK => ?_) ?_ ?_
  · obtain ⟨c1, c2⟩ := cor_bd hm (hL c hc)
    refine ⟨rfl, ePt m p, ePt m c, rfl, p1.mono (by decide), c1.mono (by decide), fun n hn => ?_, fun n hn => (c2 n hn).mono (by decide), ?_, ?_⟩
    · rcases ePt_mem hm n hn with e | e
      · rw [e]; exact p2.mono (by decide)
      · rw [e]; exact p3.mono (by decide)
    · rw [ePt_dim hm]; rcases hm with rfl | rfl <;> decide
    · rw [value_eD hm hp.flat (hL c hc).flat]
      exact hK _ rfl
  · rw [List.length_nil]
    exact Nat.le_trans (by omega) (by decide : 40 ≤ sizeLine)
  · rw [List.nil_append]
    refine ⟨by show 0 ≤ sizeLine; decide, ⟨by decide, (by decide : 3 < 7)⟩, ?_⟩
    have tail : ∀ (F : List Gt) (a1 a2 s4 s5 s6 : Slot), F = Geo.found Geo.mt p L → (tRet3 (tFn3 1 s_tidy (tCons3 (tVar3 3) tNil3))) { nx := fun ρ => kk .non ρ.T, rt := fun d ρ => kk d ρ.T } ⟨[.val (.tup (L.map (eD m))), a1, a2, .own (.lst (F.map (eD m))), s4, s5, s6], TT⟩ := by
      intro F a1 a2 s4 s5 s6 e
      subst e
      refine ⟨rfl, m, _, _, rfl, .inl rfl, hm, hfd, ?_, k⟩
      have : (Geo.found Geo.mt p L).length ≤ 2 * L.length := by
        have wkl : ∀ (l : List Gt) (a : Gt), (Geo.wk Geo.mt p a l).length ≤ 2 * l.length := by
          intro l
          induction l with
          | nil => intro a; simp [Geo.wk]
          | cons b l ih =>
            intro a
            have := ih b
            have := Geo.st_len (m := Geo.mt) (p := p) (a := a) (b := b)
            simp only [Geo.wk, List.length_append, List.length_cons]
            omega
        cases L with
        | nil => simp [Geo.found]
        | cons a l =>
          have := wkl (l ++ [a]) a
          simp only [List.length_append, List.length_cons, List.length_nil] at this
          show (Geo.wk Geo.mt p a (l ++ [a])).length ≤ 2 * (l.length + 1)
          omega
      omega
    show loop3 _ _ (nums 0 (L.map (eD m))) _ _
    cases L with
    | nil => exact tail [] _ _ _ _ _ rfl
    | cons a l => exact loop_cut (L := a :: l) (a := a) (l := l) hm hp hL rfl (a :: l) [] [] .un .un .un rfl (by simp; simp at hn; omega) fun s4 s5 s6 => tail _ _ _ _ _ _ rfl
end K18
/-! k18: cut_by, region, read -/
namespace K18
open PySem PySem.Spec PyProof.Rows L2 L3
theorem flat_sat {m : Nat} {S : List Gt} {c : Gt} (hm : Dim m) (hx : ∀ s ∈ X1 m, s ∈ S) (h : Geo.Sat S c) : Flat m c := by
  rcases hm with rfl | rfl
  · have h1 := h _ (hx ⟨0, 0, 1⟩ (by simp [X1]))
    have h2 := h _ (hx ⟨0, 0, -1⟩ (by simp [X1]))
    unfold Geo.val at h1 h2
    dsimp only at h1 h2
    exact .inr ⟨rfl, by omega⟩
  · exact .inl rfl
theorem cor_vert {m : Nat} {S : List Gt} {c : Gt} (hm : Dim m) (hx : ∀ s ∈ X1 m, s ∈ S) (hb : ∀ s ∈ S, Geo.Box s) (hl : Geo.Low c) (hv : Geo.Vert S c) : Cor m c := ⟨hl, Geo.wee_vert hb hl hv, flat_sat hm hx hv.sat⟩
theorem Base.cor {m : Nat} {S L : List Gt} (hm : Dim m) (h : Base m S L) : ∀ c ∈ L, Cor m c := fun c hc => by
  obtain ⟨h1, h2⟩ := (h.rep.mem c).mp hc
  exact cor_vert hm h.x1 h.box h1 h2
theorem box_app {m : Nat} {S : List Gt} {p : Gt} (h : ∀ s ∈ S, Geo.Box s) (hp : Pln m p) : ∀ s ∈ S ++ [p], Geo.Box s := fun s hs => by
  rcases List.mem_append.mp hs with g | g
  · exact h s g
  · rw [List.mem_singleton.mp g]; exact hp.box
theorem Base.cut {m : Nat} {S L r : List Gt} {p : Gt} (hm : Dim m) (h : Base m S L) (hp : Pln m p) (t : Geo.Tidy (Geo.found Geo.mt p L) r) : Base m (S ++ [p]) r :=
  ⟨Geo.rep_cut Geo.meetOk h.rep t, box_app h.box hp, fun s hs => List.mem_append_left _ (h.x1 s hs)⟩
theorem Base.found {m : Nat} {S L : List Gt} {p : Gt} (hm : Dim m) (h : Base m S L) (hp : Pln m p) : ∀ x ∈ Geo.found Geo.mt p L, Cor m x := fun x hx => by
  obtain ⟨h1, h2⟩ := Geo.found_vert Geo.meetOk h.rep x hx
  exact cor_vert hm (fun s hs => List.mem_append_left _ (h.x1 s hs)) (box_app h.box hp) h1 h2
/-- a cut of what is told right -/
theorem cut_base {m : Nat} {S L : List Gt} {p : Gt} {T : Nat} {k : D → Nat → Prop} (hm : Dim m) (h : Base m S L) (hp : Pln m p) (hn : L.length ≤ 40) (hk : ∀ r, Base m (S ++ [p]) r → r.length ≤ max 3 (L.length + 1) → k (.tup (r.map (eD m))) T) : s_cut [.tup (L.map (eD m)), eD m p] T k :=
  ⟨m, L, p, rfl, hm, h.cor hm, hp, hn, h.found hm hp, fun r t => hk r (h.cut hm hp t) (Geo.rep_len Geo.meetOk h.rep t)⟩
theorem loop_cut_by {E : Ends3} {a : Slot} {m T : Nat} (hm : Dim m) : ∀ (ps S L : List Gt) (s : Slot), Base m S L → (∀ p ∈ ps, Pln m p) → max 3 L.length + ps.length ≤ 33 →
    (∀ r s, Geo.Rep (S ++ ps) r → r.length ≤ max 3 L.length + ps.length → E.nx ⟨[.val (.tup (r.map (eD m))), a, s], T⟩) →
    loop3 (gName3 2) (tAsg3 (tFn3 2 s_cut (tCons3 (tVar3 0) (tCons3 (tVar3 2) tNil3))) (gName3 0)) (ps.map (eD m)) E ⟨[.val (.tup (L.map (eD m))), a, s], T⟩
  | [], S, L, s, hb, hp, hn, h => h L s (by rw [List.append_nil]; exact hb.rep) (by simp; omega)
  | p :: ps, S, L, s, hb, hp, hn, h => by
    rw [List.length_cons] at hn
    refine ⟨rfl, cut_base hm hb (hp p (by simp)) (by omega) fun r hr hl => ?_⟩
    refine loop_cut_by hm ps (S ++ [p]) r _ hr (fun q hq => hp q (by simp [hq])) (by omega) fun r' s' h1 h2 => ?_
    rw [List.append_assoc] at h1
    exact h r' s' h1 (by rw [List.length_cons]; omega)
theorem r_cut_by (ds : List D) (TT : Nat) (kk : D → Nat → Prop) (hl : ds.length = 2) (h : s_cut_by ds TT kk) : t_cut_by { nx := fun ρ => kk .non ρ.T, rt := fun d ρ => kk d ρ.T } ⟨ds.map .val ++ List.replicate 1 .un, TT⟩ := by
  obtain ⟨m, S, L, ps, d, rfl, hd, hm, hb, hp, hn, k⟩ := h
  rcases hd with rfl | rfl
  · exact loop_cut_by hm ps S L .un hb hp (by omega) fun r s h1 h2 => k r h1 h2
  · exact loop_cut_by hm ps S L .un hb hp (by omega) fun r s h1 h2 => k r h1 h2
theorem sml_sub {m : Nat} {a b : Gt} (ha : Sml m a) (hb : Sml m b) : Pln m (sub a b) := by
  obtain ⟨a1, a2, a3, a4⟩ := ha
  obtain ⟨b1, b2, b3, b4⟩ := hb
  refine ⟨⟨?_, ?_, ?_⟩, ?_⟩
  · show (a.q - b.q).natAbs ≤ 200; omega
  · show (a.x - b.x).natAbs ≤ 8; omega
  · show (a.y - b.y).natAbs ≤ 8; omega
  · rcases a4 with h | ⟨h, hy⟩
    · exact .inl h
    · rcases b4 with h' | ⟨_, hy'⟩
      · exact .inl h'
      · exact .inr ⟨h, by show a.y - b.y = 0; omega⟩
theorem r_region (ds : List D) (TT : Nat) (kk : D → Nat → Prop) (hl : ds.length = 3) (h : s_region ds TT kk) : t_region { nx := fun ρ => kk .non ρ.T, rt := fun d ρ => kk d ρ.T } ⟨ds.map .val ++ List.replicate 1 .un, TT⟩ := by
  obtain ⟨m, S, L, ps, d, i, pa, rfl, hd, hm, hb, hp, hi, hn, k⟩ := h
  have hpa := hp pa (List.mem_of_getElem? hi)
  have at_ : atI (ps.map (eD m)) ((i : Nat) : Int) = some (eD m pa) := atI_nat (by rw [List.getElem?_map, hi]; rfl)
  have fin : s_cut_by [.tup (L.map (eD m)), .lst (ps.map fun p => eD m (sub p pa))] TT kk := by
    refine ⟨m, S, L, ps.map (sub · pa), _, rfl, .inl (by rw [List.map_map]; rfl), hm, hb, fun p hq => ?_, by rw [List.length_map]; exact hn, fun r h1 h2 => k r h1 (by rw [List.length_map] at h2; exact h2)⟩
    obtain ⟨q, hq2, rfl⟩ := List.mem_map.mp hq
    exact sml_sub (hp q hq2) hpa
  have go : ∀ (a1 : Slot) (K : List D → Env3 → Prop), (a1 = .val (.lst (ps.map (eD m))) ∨ a1 = .val (.tup (ps.map (eD m)))) → K (ps.map fun p => eD m (sub p pa)) ⟨[.val (.tup (L.map (eD m))), a1, .val (.int (i : Nat)), .un], TT⟩ →
      lcGo (gName3 3) tYes3 (tFn3 2 s_lesser (tCons3 (tVar3 3) (tCons3 (b3 gIx (tVar3 1) (tVar3 2)) tNil3))) [3] (ps.map (eD m)) [] ⟨[.val (.tup (L.map (eD m))), a1, .val (.int (i : Nat)), .un], TT⟩ K := by
    intro a1 K ha hK
    refine lcGo_map (eD m) (fun p => eD m (sub p pa)) ps [] (fun p hq K1 K2 hK1 => ?_) (by rw [List.length_nil]; exact Nat.le_trans (by omega) (by decide : 40 ≤ sizeLine)) (by rw [List.nil_append]; exact hK)
    rcases ha with rfl | rfl
    · show optK (atI (ps.map (eD m)) ((i : Nat) : Int)) _
      rw [at_]
      exact ⟨rfl, m, p, pa, rfl, hm, hK1 _ rfl⟩
    · show optK (atI (ps.map (eD m)) ((i : Nat) : Int)) _
      rw [at_]
      exact ⟨rfl, m, p, pa, rfl, hm, hK1 _ rfl⟩
  rcases hd with rfl | rfl
  · exact go _ _ (.inl rfl) ⟨rfl, fin⟩
  · exact go _ _ (.inr rfl) ⟨rfl, fin⟩
end K18
/-! k18: windows and settings, read -/
namespace K18
open PySem PySem.Spec PyProof.Rows L2 L3
def unitL (n i : Nat) : List Int := (List.range n).map fun j => if j = i then 1 else 0
theorem unit_lc {n i : Nat} {s0 s1 s3 s4 s5 s6 s8 : Slot} {T : Nat} {K : List D → Env3 → Prop} (hn : n ≤ 10) (k : K ((unitL n i).map D.int) ⟨[s0, s1, .val (.int (i : Nat)), s3, s4, s5, s6, .un, s8], T⟩) :
    lcGo (gName3 7) tYes3 (tCB3 gInt (tCons3 (b3 gEq (tVar3 7) (tVar3 2)) tNil3)) [7] (upto 0 n) [] ⟨[s0, s1, .val (.int (i : Nat)), s3, s4, s5, s6, .un, s8], T⟩ K := by
  rw [upto_nat]
  refine lcGo_map (fun j : Nat => D.int ((j : Nat) : Int)) (fun j => D.int (if j = i then 1 else 0)) (List.range n) [] (fun j hj K K2 hK => ?_) (by rw [List.length_nil, List.length_range]; exact Nat.le_trans (by omega) (by decide : 10 ≤ sizeLine)) ?_
  · refine ⟨shaped_int (j : Nat), shaped_int (i : Nat), ?_⟩
    show K (.int (if PyData.eqv (.int ((j : Nat) : Int)) (.int ((i : Nat) : Int)) = true then 1 else 0)) _
    rw [eqv_int]
    have e : (if decide (((j : Nat) : Int) = ((i : Nat) : Int)) = true then (1 : Int) else 0) = if j = i then 1 else 0 := by
      by_cases h : j = i
      · subst h; simp
      · have : ¬ ((j : Nat) : Int) = ((i : Nat) : Int) := by omega
        simp [h, this]
    rw [e]
    exact hK _ rfl
  · rw [List.nil_append]
    unfold unitL at k
    rw [List.map_map] at k
    exact k
abbrev bodyE : S3 := tSeq3 (tAsg3 (tCB3 gTuple (tCons3 (tLc3 (iRng3 (tCB3 gLen (tCons3 (tVar3 0) tNil3))) (gName3 7) tYes3 (tCB3 gInt (tCons3 (b3 gEq (tVar3 7) (tVar3 2)) tNil3)) [7]) tNil3)) (gName3 6))
  (tSeq3 (tAppO 1 (tTup3 (tCons3 (tVar3 4) (tCons3 (tCB3 gTuple (tCons3 (tLc3 (iSeq3 (tVar3 6)) (gName3 8) tYes3 (b3 L3.gSub (tC3 (.int 0)) (tVar3 8)) [8]) tNil3)) tNil3))))
  (tAppO 1 (tTup3 (tCons3 (b3 L3.gSub (tC3 (.int 0)) (tVar3 5)) (tCons3 (tVar3 6) tNil3)))))
def edgeD (n i : Nat) (o : Int × Int) : List D := [.tup [.int o.1, .tup ((unitL n i).map fun x => .int (0 - x))], .tup [.int (0 - o.2), .tup ((unitL n i).map D.int)]]
theorem body_edge {E : Ends3} {n i : Nat} {o : Int × Int} {xs acc : List D} {d3 s6 : Slot} {T : Nat} (hn : n ≤ 10) (hx : xs.length = n) (ha : acc.length ≤ 20)
    (fin : ∀ s6, E.nx ⟨[.val (.lst xs), .own (.lst (acc ++ edgeD n i o)), .val (.int (i : Nat)), d3, .val (.int o.1), .val (.int o.2), s6, .un, .un], T⟩) :
    bodyE E ⟨[.val (.lst xs), .own (.lst acc), .val (.int (i : Nat)), d3, .val (.int o.1), .val (.int o.2), s6, .un, .un], T⟩ := by
  have low : ∀ k : Nat, k ≤ 50 → k < sizeLine := fun k h => Nat.lt_of_lt_of_le (by omega : k < 51) (by decide)
  refine ⟨⟨by omega, by omega⟩, ?_⟩
  show lcGo _ _ _ _ (upto 0 ((xs.length : Nat) : Int).toNat) [] _ _
  rw [Int.toNat_natCast, hx]
  refine unit_lc hn ?_
  show (tSeq3 (tAppO 1 (tTup3 (tCons3 (tVar3 4) (tCons3 (tCB3 gTuple (tCons3 (tLc3 (iSeq3 (tVar3 6)) (gName3 8) tYes3 (b3 L3.gSub (tC3 (.int 0)) (tVar3 8)) [8]) tNil3)) tNil3))))
    (tAppO 1 (tTup3 (tCons3 (b3 L3.gSub (tC3 (.int 0)) (tVar3 5)) (tCons3 (tVar3 6) tNil3))))) E ⟨[.val (.lst xs), .own (.lst acc), .val (.int (i : Nat)), d3, .val (.int o.1), .val (.int o.2), .val (.tup ((unitL n i).map D.int)), .un, .un], T⟩
  refine lcGo_map D.int (fun x => D.int (0 - x)) (unitL n i) [] (fun x hx K K2 hK => hK _ rfl) (by unfold unitL; rw [List.length_nil, List.length_map, List.length_range]; exact Nat.le_trans (by omega) (by decide : 10 ≤ sizeLine)) ?_
  rw [List.nil_append]
  refine ⟨by show 2 ≤ sizeLine; decide, low _ (by omega), ?_⟩
  show (tAppO 1 (tTup3 (tCons3 (b3 L3.gSub (tC3 (.int 0)) (tVar3 5)) (tCons3 (tVar3 6) tNil3)))) E ⟨[.val (.lst xs), .own (.lst (acc ++ [.tup [.int o.1, .tup ((unitL n i).map fun x => D.int (0 - x))]])), .val (.int (i : Nat)), d3, .val (.int o.1), .val (.int o.2), .val (.tup ((unitL n i).map D.int)), .un, .un], T⟩
  refine ⟨by show 2 ≤ sizeLine; decide, low _ (by rw [List.length_append]; simp; omega), ?_⟩
  have := fin (.val (.tup ((unitL n i).map D.int)))
  unfold edgeD at this
  rw [List.append_cons] at this
  exact this
theorem r__law_edges_of (ds : List D) (TT : Nat) (kk : D → Nat → Prop) (hl : ds.length = 1) (h : s__law_edges_of ds TT kk) : t__law_edges_of { nx := fun ρ => kk .non ρ.T, rt := fun d ρ => kk d ρ.T } ⟨ds.map .val ++ List.replicate 8 .un, TT⟩ := by
  obtain ⟨ops, rfl, hd, k⟩ := h
  match ops, hd, k with
  | [], hd, k => exact absurd hd (by unfold Dim; simp)
  | [a], hd, k =>
    refine ⟨by show 0 ≤ sizeLine; decide, ⟨by decide, (by decide : 1 < 9)⟩, rfl, rfl, ?_⟩
    refine body_edge (n := 1) (i := 0) (o := a) (acc := []) (by decide) rfl (by decide) fun s6 => ?_
    have e : edgeD 1 0 a = (edges [a]).map (eD 1) := by
      show [D.tup [.int a.1, .tup [.int (0 - 1)]], D.tup [.int (0 - a.2), .tup [.int 1]]] = [D.tup [.int a.1, .tup [.int (-1)]], D.tup [.int (-a.2), .tup [.int 1]]]
      rw [Int.zero_sub a.2]
      rfl
    show kk (.lst ([] ++ edgeD 1 0 a)) TT
    rw [e]
    exact k
  | [a, b], hd, k =>
    refine ⟨by show 0 ≤ sizeLine; decide, ⟨by decide, (by decide : 1 < 9)⟩, rfl, rfl, ?_⟩
    refine body_edge (n := 2) (i := 0) (o := a) (acc := []) (by decide) rfl (by decide) fun s6 => ?_
    refine ⟨rfl, rfl, ?_⟩
    refine body_edge (n := 2) (i := 1) (o := b) (acc := [] ++ edgeD 2 0 a) (by decide) rfl (by simp [edgeD]) fun s6 => ?_
    have e : edgeD 2 0 a ++ edgeD 2 1 b = (edges [a, b]).map (eD 2) := by
      show [D.tup [.int a.1, .tup [.int (0 - 1), .int (0 - 0)]], D.tup [.int (0 - a.2), .tup [.int 1, .int 0]], D.tup [.int b.1, .tup [.int (0 - 0), .int (0 - 1)]], D.tup [.int (0 - b.2), .tup [.int 0, .int 1]]] =
        [D.tup [.int a.1, .tup [.int (-1), .int 0]], D.tup [.int (-a.2), .tup [.int 1, .int 0]], D.tup [.int b.1, .tup [.int 0, .int (-1)]], D.tup [.int (-b.2), .tup [.int 0, .int 1]]]
      rw [Int.zero_sub a.2, Int.zero_sub b.2]
      rfl
    show kk (.lst (([] ++ edgeD 2 0 a) ++ edgeD 2 1 b)) TT
    rw [List.nil_append, e]
    exact k
  | _ :: _ :: _ :: _, hd, k => exact absurd hd (by unfold Dim; simp)
/-- a drawn number, brought to lowest terms -/
theorem seat_of {ops : List (Int × Int)} {q : Int} {ns : List Int} (hd : Dim ops.length) (ho : ∀ o ∈ ops, Op o) (hq : 1 ≤ q ∧ q ≤ 7) (hns : Paired (fun o n => o.1 * q ≤ n ∧ n ≤ o.2 * q) ops ns) : ∃ P, Seat ops P ∧ ptD (low q ns) = eD ops.length P := by
  have bnd : ∀ (o : Int × Int) (n : Int), Op o → o.1 * q ≤ n ∧ n ≤ o.2 * q → n.natAbs ≤ 133 := by
    intro o n ⟨h0, h1, h2⟩ ⟨h3, h4⟩
    have a1 : o.2 * q ≤ 19 * 7 := by
      by_cases hp : 0 ≤ o.2
      · exact Int.le_trans (Int.mul_le_mul_of_nonneg_right (by omega : o.2 ≤ 19) (by omega)) (Int.mul_le_mul_of_nonneg_left hq.2 (by decide))
      · have := Int.mul_nonpos_of_nonpos_of_nonneg (by omega : o.2 ≤ 0) (by omega : 0 ≤ q); omega
    have a2 : -(19 * 7) ≤ o.1 * q := by
      by_cases hp : o.1 ≤ 0
      · have h5 : (-o.1) * q ≤ 19 * 7 := Int.le_trans (Int.mul_le_mul_of_nonneg_right (by omega : -o.1 ≤ 19) (by omega)) (Int.mul_le_mul_of_nonneg_left hq.2 (by decide))
        rw [Int.neg_mul] at h5
        omega
      · have := Int.mul_nonneg (by omega : 0 ≤ o.1) (by omega : 0 ≤ q); omega
    omega
  match ops, ns, hns, hd, ho with
  | [], _, _, hd, _ => exact absurd hd (by unfold Dim; simp)
  | [a], [n], .cons ha .nil, _, ho =>
    have hf : Flat 1 (⟨q, n, 0⟩ : Gt) := .inr ⟨rfl, rfl⟩
    have hq0 : (⟨q, n, 0⟩ : Gt).q ≠ 0 := by show q ≠ 0; omega
    obtain ⟨l1, l2, l3⟩ := Geo.lowT_le hq0
    have e := low_eP (m := 1) ⟨q, n, 0⟩ hf
    have lw := Geo.lowT_low hq0
    have pp : 0 < Geo.partT ⟨q, n, 0⟩ := by
      unfold Geo.partT
      rw [if_neg (by show ¬ q < 0; omega)]
      exact Geo.gT_pos hq0
    refine ⟨Geo.lowT ⟨q, n, 0⟩, ⟨lw, flat_low hf, ?_, ?_, ?_, fun s hs => ?_⟩, ?_⟩
    · have := lw.pos
      have l1 : (Geo.lowT ⟨q, n, 0⟩).q.natAbs ≤ q.natAbs := l1
      omega
    · have l2 : (Geo.lowT ⟨q, n, 0⟩).x.natAbs ≤ n.natAbs := l2
      have := bnd a n (ho a (by simp)) ha
      omega
    · have l3 : (Geo.lowT ⟨q, n, 0⟩).y.natAbs ≤ (0 : Int).natAbs := l3
      have : (0 : Int).natAbs = 0 := rfl
      omega
    · have v := Geo.lowT_val hq0 s
      refine Classical.byContradiction fun hn => ?_
      have := Int.mul_pos pp (by omega : 0 < Geo.val s (Geo.lowT ⟨q, n, 0⟩))
      rw [v] at this
      have hs : s = ⟨a.1, -1, 0⟩ ∨ s = ⟨-a.2, 1, 0⟩ := by simpa [edges] using hs
      rcases hs with rfl | rfl
      · unfold Geo.val at this
        dsimp only at this
        omega
      · unfold Geo.val at this
        dsimp only at this
        rw [Int.neg_mul] at this
        omega
    · have e2 : low q [n] = low (⟨q, n, 0⟩ : Gt).q (ePt 1 ⟨q, n, 0⟩).2 := rfl
      rw [e2, e]
      rfl
  | [a, b], [n, n'], .cons ha (.cons hb .nil), _, ho =>
    have hf : Flat 2 (⟨q, n, n'⟩ : Gt) := .inl rfl
    have hq0 : (⟨q, n, n'⟩ : Gt).q ≠ 0 := by show q ≠ 0; omega
    obtain ⟨l1, l2, l3⟩ := Geo.lowT_le hq0
    have e := low_eP (m := 2) ⟨q, n, n'⟩ hf
    have lw := Geo.lowT_low hq0
    have pp : 0 < Geo.partT ⟨q, n, n'⟩ := by
      unfold Geo.partT
      rw [if_neg (by show ¬ q < 0; omega)]
      exact Geo.gT_pos hq0
    refine ⟨Geo.lowT ⟨q, n, n'⟩, ⟨lw, flat_low hf, ?_, ?_, ?_, fun s hs => ?_⟩, ?_⟩
    · have := lw.pos
      have l1 : (Geo.lowT ⟨q, n, n'⟩).q.natAbs ≤ q.natAbs := l1
      omega
    · have l2 : (Geo.lowT ⟨q, n, n'⟩).x.natAbs ≤ n.natAbs := l2
      have := bnd a n (ho a (by simp)) ha
      omega
    · have l3 : (Geo.lowT ⟨q, n, n'⟩).y.natAbs ≤ n'.natAbs := l3
      have := bnd b n' (ho b (by simp)) hb
      omega
    · have v := Geo.lowT_val hq0 s
      refine Classical.byContradiction fun hn => ?_
      have := Int.mul_pos pp (by omega : 0 < Geo.val s (Geo.lowT ⟨q, n, n'⟩))
      rw [v] at this
      have hs : s = ⟨a.1, -1, 0⟩ ∨ s = ⟨-a.2, 1, 0⟩ ∨ s = ⟨b.1, 0, -1⟩ ∨ s = ⟨-b.2, 0, 1⟩ := by simpa [edges] using hs
      rcases hs with rfl | rfl | rfl | rfl
      · unfold Geo.val at this
        dsimp only at this
        omega
      · unfold Geo.val at this
        dsimp only at this
        rw [Int.neg_mul] at this
        omega
      · unfold Geo.val at this
        dsimp only at this
        omega
      · unfold Geo.val at this
        dsimp only at this
        rw [Int.neg_mul] at this
        omega
    · have e2 : low q [n, n'] = low (⟨q, n, n'⟩ : Gt).q (ePt 2 ⟨q, n, n'⟩).2 := rfl
      rw [e2, e]
      rfl
  | _ :: _ :: _ :: _, _, _, hd, _ => exact absurd hd (by unfold Dim; simp)
end K18
/-! k18: drawn settings, read -/
namespace K18
open PySem PySem.Spec PyProof.Rows L2 L3
theorem lcGo_drawM {α : Type} {g : G3} {tt : T3} {te : E3} {vs : List Nat} {sl : List Slot} {k : List D → Env3 → Prop} (M : Nat) (emb : α → D) (Ok : α → D → Prop) : ∀ (xs : List α) (acc : List D) (T : Nat), T + xs.length ≤ M →
    (∀ x ∈ xs, ∀ (T : Nat) (K : D → Env3 → Prop) (K2 : Env3 → Prop), T ≤ M → (∀ y T' ρ3, Ok x y → T' ≤ T + 1 → ρ3.wipe vs = ⟨sl, T'⟩ → K y ρ3) → g (emb x) ⟨sl, T⟩ (fun ρ1 => tt ρ1 (fun b ρ2 => match b with | true => te ρ2 K (fun _ _ => False) | false => K2 ρ2) (fun _ _ => False))) →
    acc.length + xs.length ≤ sizeLine → (∀ ys T', Paired Ok xs ys → T' ≤ T + xs.length → k (acc ++ ys) ⟨sl, T'⟩) → lcGo g tt te vs (xs.map emb) acc ⟨sl, T⟩ k
  | [], acc, T, _, _, _, q => by
    have z := q [] T .nil (Nat.le_refl _)
    rw [List.append_nil] at z
    exact z
  | x :: xs, acc, T, hM, h, hz, q => by
    rw [List.map_cons]
    rw [List.length_cons] at hM hz
    refine h x (by simp) T _ _ (by omega) fun y T' ρ3 hy hT e => ⟨by omega, ?_⟩
    rw [e]
    refine lcGo_drawM M emb Ok xs _ T' (by omega) (fun z hz => h z (by simp [hz])) (by rw [List.length_append, List.length_cons, List.length_nil]; omega) fun ys T2 hp hT2 => ?_
    rw [List.append_assoc]
    exact q (y :: ys) T2 (.cons hy hp) (by rw [List.length_cons]; omega)
theorem paired_nums {R : (Int × Int) → Int → Prop} : ∀ {xs : List (Int × Int)} {ys : List D}, Paired (fun o y => ∃ n, y = .int n ∧ R o n) xs ys → ∃ ns : List Int, ys = ns.map D.int ∧ Paired R xs ns
  | _, _, .nil => ⟨[], rfl, .nil⟩
  | _, _, .cons h t => by
    obtain ⟨n, rfl, hn⟩ := h
    obtain ⟨ns, rfl, h2⟩ := paired_nums t
    exact ⟨n :: ns, rfl, .cons hn h2⟩
theorem r__law_drawn_setting (ds : List D) (TT : Nat) (kk : D → Nat → Prop) (hl : ds.length = 2) (h : s__law_drawn_setting ds TT kk) : t__law_drawn_setting { nx := fun ρ => kk .non ρ.T, rt := fun d ρ => kk d ρ.T } ⟨ds.map .val ++ List.replicate 5 .un, TT⟩ := by
  obtain ⟨ops, rfl, hd, ho, hT, k⟩ := h
  have hlen : ops.length ≤ 2 := by rcases hd with e | e <;> omega
  refine ⟨by show 5 ≤ sizeLine; decide, rfl, _, rfl, show TT ≤ 1000000 by omega, by simp, by decide, fun x hx T1 hT1 => ?_⟩
  have hT1 : T1 ≤ TT + 1 := hT1
  obtain ⟨q, rfl, hq⟩ : ∃ q : Int, x = .int q ∧ 1 ≤ q ∧ q ≤ 7 := by
    simp only [List.mem_cons, List.not_mem_nil, or_false] at hx
    rcases hx with rfl | rfl | rfl | rfl | rfl
    · exact ⟨1, rfl, by decide, by decide⟩
    · exact ⟨1, rfl, by decide, by decide⟩
    · exact ⟨2, rfl, by decide, by decide⟩
    · exact ⟨3, rfl, by decide, by decide⟩
    · exact ⟨7, rfl, by decide, by decide⟩
  have bq : Bd 14 q := bd_wee (by omega)
  refine lcGo_drawM (sl := [.val .pen, .val (.lst (ops.map opD)), .val (.int q), .un, .un, .un, .un]) (TT + 5) opD (fun o y => ∃ n, y = .int n ∧ (o.1 * q ≤ n ∧ n ≤ o.2 * q)) ops [] T1 (by omega) (fun o hoo T' K K2 hT' hK => ?_) (by rw [List.length_nil]; exact Nat.le_trans (by omega) (by decide : 5 ≤ sizeLine)) fun ys T2 hys hT2 => ?_
  · obtain ⟨o1, o2, o3⟩ := ho o hoo
    have b1 : Bd 14 o.1 := bd_wee (by omega)
    have b2 : Bd 14 (o.2 - o.1) := bd_wee (by omega)
    have b3 : Bd 29 ((o.2 - o.1) * q + 1) := (b2.mul bq).add (show Bd 28 1 by show (1 : Int).natAbs < 2 ^ 28; decide)
    refine ⟨rfl, b1.cmul bq (by decide) (by decide) (by decide), b2.cmul bq (by decide) (by decide) (by decide), rfl, (o.2 - o.1) * q + 1, rfl, show T' ≤ 1000000 by omega, ?_, fun r T2 hT2 hr => ?_⟩
    · exact Nat.lt_of_lt_of_le (b3.log (by decide)) (by decide)
    · refine hK _ T2 _ ⟨_, rfl, ?_⟩ hT2 rfl
      have hp : 1 ≤ (o.2 - o.1) * q := Int.mul_pos (by omega : 0 < o.2 - o.1) (by omega)
      have hr := hr.2 (by omega)
      have e : (o.2 - o.1) * q = o.2 * q - o.1 * q := Int.sub_mul ..
      rw [e] at hr
      constructor <;> omega
  · obtain ⟨ns, rfl, hns⟩ := paired_nums hys
    obtain ⟨P, hP, e⟩ := seat_of hd ho hq hns
    have hnl : ns.length = ops.length := hns.length.symm
    rw [List.nil_append]
    refine ⟨rfl, q, _, ns, rfl, .inl rfl, by omega, bq.mono (by decide), by omega, ?_⟩
    show kk (ptD (low q ns)) T2
    rw [e]
    exact k P T2 (by omega) hP
end K18
/-! k18: the law's own corners, plain -/
namespace K18
open PySem PySem.Spec PyProof.Rows L2 L3
theorem lcGo_sel {α : Type} {g : G3} {tt : T3} {te : E3} {vs : List Nat} {ρ0 : Env3} {k : List D → Env3 → Prop} (emb : α → D) (p : α → Bool) (f : α → D) : ∀ (xs : List α) (acc : List D),
    (∀ x ∈ xs, ∀ (K : D → Env3 → Prop) (K2 : Env3 → Prop), (p x = true → ∀ ρ', ρ'.wipe vs = ρ0 → K (f x) ρ') → (p x = false → ∀ ρ', ρ'.wipe vs = ρ0 → K2 ρ') → g (emb x) ρ0 (fun ρ1 => tt ρ1 (fun b ρ2 => match b with | true => te ρ2 K (fun _ _ => False) | false => K2 ρ2) (fun _ _ => False))) →
    acc.length + xs.length ≤ sizeLine → k (acc ++ (xs.filter p).map f) ρ0 → lcGo g tt te vs (xs.map emb) acc ρ0 k
  | [], acc, _, _, q => by
    rw [List.filter_nil, List.map_nil, List.append_nil] at q
    exact q
  | x :: xs, acc, h, hz, q => by
    rw [List.map_cons]
    rw [List.length_cons] at hz
    refine h x (by simp) _ _ (fun hp ρ' e => ⟨by omega, ?_⟩) (fun hp ρ' e => ?_)
    · rw [e]
      refine lcGo_sel emb p f xs _ (fun z hz => h z (by simp [hz])) (by rw [List.length_append, List.length_cons, List.length_nil]; omega) ?_
      rw [List.filter_cons_of_pos hp, List.map_cons] at q
      rw [List.append_assoc]
      exact q
    · rw [e]
      refine lcGo_sel emb p f xs _ (fun z hz => h z (by simp [hz])) (by omega) ?_
      rw [List.filter_cons_of_neg (by rw [hp]; exact Bool.false_ne_true)] at q
      exact q
def oD (m : Nat) : Option Gt → D
  | none => .non
  | some c => eD m c
def okC (S0 : List Gt) : Option Gt → Bool
  | none => false
  | some c => decide (∀ s ∈ S0, Geo.val s c ≤ 0)
def prs (n : Nat) : List (Nat × Nat) := ((List.range n).map fun i => (List.range i).map fun j => (i, j)).flatten
theorem prs_mem {n i j : Nat} : (i, j) ∈ prs n ↔ j < i ∧ i < n := by
  unfold prs
  simp only [List.mem_flatten, List.mem_map, List.mem_range]
  constructor
  · rintro ⟨l, ⟨a, ha, rfl⟩, h⟩
    obtain ⟨b, hb, e⟩ := List.mem_map.mp h
    have hb := List.mem_range.mp hb
    cases e
    exact ⟨hb, ha⟩
  · rintro ⟨h1, h2⟩
    exact ⟨_, ⟨i, h2, rfl⟩, List.mem_map.mpr ⟨j, List.mem_range.mpr h1, rfl⟩⟩
theorem pairs_prs (n : Nat) : pairsD n = (prs n).map fun q => D.tup [.int (q.1 : Nat), .int (q.2 : Nat)] := by
  unfold pairsD prs
  rw [List.map_flatten, List.map_map]
  congr 1
  exact List.map_congr_left fun i _ => by simp only [Function.comp, List.map_map]; rfl
theorem prs_len (n : Nat) : (prs n).length * 2 ≤ n * n := by
  induction n with
  | zero => simp [prs]
  | succ n ih =>
    have e : prs (n + 1) = prs n ++ (List.range n).map fun j => (n, j) := by
      unfold prs
      rw [List.range_succ, List.map_append, List.flatten_append]
      simp
    rw [e, List.length_append, List.length_map, List.length_range]
    have e2 : (n + 1) * (n + 1) = n * n + 2 * n + 1 := by grind
    rw [e2]
    omega
/-- candidates of two terms, of one -/
def cand2 (S0 : List Gt) : List (Option Gt) := (prs S0.length).map fun q => match S0[q.1]?, S0[q.2]? with
  | some s, some t => if Geo.cross s t = 0 then none else some (Geo.lowT (Geo.crs s t))
  | _, _ => none
def cand1 (S0 : List Gt) : List (Option Gt) := (S0.filter fun s => decide (s.x ≠ 0)).map fun s => some (Geo.lowT ⟨s.x, -s.q, 0⟩)
structure Cand (m : Nat) (S0 : List Gt) (cs : List (Option Gt)) : Prop where
  sound : ∀ c, some c ∈ cs → ∃ s ∈ X1 m ++ S0, ∃ t ∈ X1 m ++ S0, Geo.cross s t ≠ 0 ∧ c = Geo.lowT (Geo.crs s t)
  all : ∀ X, Geo.Low X → Geo.Vert (X1 m ++ S0) X → some X ∈ cs
  few : cs.length ≤ 128
theorem cand_two {S0 : List Gt} (h16 : S0.length ≤ 16) : Cand 2 S0 (cand2 S0) := by
  refine ⟨fun c hc => ?_, fun X hl hv => ?_, ?_⟩
  · unfold cand2 at hc
    obtain ⟨⟨i, j⟩, hq, e⟩ := List.mem_map.mp hc
    obtain ⟨h1, h2⟩ := prs_mem.mp hq
    have hi : S0[i]? = some S0[i] := List.getElem?_eq_getElem h2
    have hj : S0[j]? = some S0[j] := List.getElem?_eq_getElem (by omega)
    dsimp only at e
    rw [hi, hj] at e
    dsimp only at e
    by_cases h0 : Geo.cross S0[i] S0[j] = 0
    · rw [if_pos h0] at e; cases e
    · rw [if_neg h0] at e
      exact ⟨S0[i], List.mem_append_right _ (List.getElem_mem _), S0[j], List.mem_append_right _ (List.getElem_mem _), h0, (Option.some.inj e).symm⟩
  · obtain ⟨s, hs, t, ht, hx, e⟩ := Geo.vert_crs hl hv
    have hs : s ∈ S0 := by simpa [X1] using hs
    have ht : t ∈ S0 := by simpa [X1] using ht
    obtain ⟨i, hi, ei⟩ := List.getElem_of_mem hs
    obtain ⟨j, hj, ej⟩ := List.getElem_of_mem ht
    have hi' : S0[i]? = some s := by rw [List.getElem?_eq_getElem hi, ei]
    have hj' : S0[j]? = some t := by rw [List.getElem?_eq_getElem hj, ej]
    have hne : i ≠ j := fun z => by
      subst z
      have : s = t := ei.symm.trans ej
      subst this
      apply hx
      unfold Geo.cross
      rw [Int.mul_comm]
      omega
    unfold cand2
    rcases Nat.lt_or_gt_of_ne hne with g | g
    · refine List.mem_map.mpr ⟨(j, i), prs_mem.mpr ⟨g, hj⟩, ?_⟩
      dsimp only
      rw [hi', hj']
      dsimp only
      have hx' : Geo.cross t s ≠ 0 := by
        have : Geo.cross t s = - Geo.cross s t := by unfold Geo.cross; grind
        omega
      rw [if_neg hx', e, Geo.crs_swap s t hx]
    · refine List.mem_map.mpr ⟨(i, j), prs_mem.mpr ⟨g, hi⟩, ?_⟩
      dsimp only
      rw [hi', hj']
      dsimp only
      rw [if_neg hx, e]
  · unfold cand2
    rw [List.length_map]
    have h1 := prs_len S0.length
    have h2 : S0.length * S0.length ≤ 16 * 16 := Nat.mul_le_mul h16 h16
    omega
theorem crs_one {s : Gt} (hy : s.y = 0) : Geo.crs s ⟨0, 0, 1⟩ = ⟨s.x, -s.q, 0⟩ := by
  unfold Geo.crs Geo.cross
  rw [hy]
  congr 1 <;> simp
theorem cand_one {S0 : List Gt} (hf : ∀ s ∈ S0, Flat 1 s) (h16 : S0.length ≤ 16) : Cand 1 S0 (cand1 S0) := by
  have flat : ∀ s ∈ S0, s.y = 0 := fun s hs => by
    rcases hf s hs with h | ⟨_, h⟩
    · cases h
    · exact h
  refine ⟨fun c hc => ?_, fun X hl hv => ?_, ?_⟩
  · unfold cand1 at hc
    obtain ⟨s, hs, e⟩ := List.mem_map.mp hc
    obtain ⟨hs, hx⟩ := List.mem_filter.mp hs
    have hx := of_decide_eq_true hx
    refine ⟨s, List.mem_append_right _ hs, ⟨0, 0, 1⟩, by simp [X1], ?_, ?_⟩
    · unfold Geo.cross
      rw [flat s hs]
      show s.x * 1 - 0 * 0 ≠ 0
      omega
    · rw [crs_one (flat s hs)]; exact (Option.some.inj e).symm
  · -- of the two planes one is the program's
    obtain ⟨s, hs, t, ht, s0, t0, hx⟩ := hv.two
    have hX : X.y = 0 := by
      rcases flat_sat (m := 1) (.inl rfl) (fun s hs => List.mem_append_left _ hs) hv.sat with h | ⟨_, h⟩
      · cases h
      · exact h
    have main : ∀ s ∈ S0, s.x ≠ 0 → Geo.val s X = 0 → some X ∈ cand1 S0 := by
      intro s hs hsx h0
      unfold cand1
      refine List.mem_map.mpr ⟨s, List.mem_filter.mpr ⟨hs, decide_eq_true hsx⟩, ?_⟩
      congr 1
      refine (Geo.low_eq hl (Geo.lowT_low (a := ⟨s.x, -s.q, 0⟩) hsx) ?_).symm
      have sm := Geo.lowT_same (a := ⟨s.x, -s.q, 0⟩) hsx
      -- both are nought on s and on the line
      refine Geo.same_of_two (s := s) (t := ⟨0, 0, 1⟩) (by unfold Geo.cross; rw [flat s hs]; show s.x * 1 - 0 * 0 ≠ 0; omega) h0 (by unfold Geo.val; rw [hX]; simp) ?_ ?_
      · have := Geo.lowT_val (a := ⟨s.x, -s.q, 0⟩) hsx s
        have z : Geo.val s ⟨s.x, -s.q, 0⟩ = 0 := by unfold Geo.val; dsimp only; grind
        rw [z] at this
        exact (Int.mul_eq_zero.mp this).resolve_left (Geo.partT_nz (a := ⟨s.x, -s.q, 0⟩) hsx)
      · have := Geo.lowT_val (a := ⟨s.x, -s.q, 0⟩) hsx ⟨0, 0, 1⟩
        have z : Geo.val ⟨0, 0, 1⟩ (⟨s.x, -s.q, 0⟩ : Gt) = 0 := by unfold Geo.val; dsimp only; grind
        rw [z] at this
        exact (Int.mul_eq_zero.mp this).resolve_left (Geo.partT_nz (a := ⟨s.x, -s.q, 0⟩) hsx)
    have x1 : ∀ t ∈ X1 1, t.x = 0 := fun t ht => by
      have : t = ⟨0, 0, 1⟩ ∨ t = ⟨0, 0, -1⟩ := by simpa [X1] using ht
      rcases this with rfl | rfl <;> rfl
    rcases List.mem_append.mp hs with g | g
    · rcases List.mem_append.mp ht with g' | g'
      · exfalso; apply hx; unfold Geo.cross; rw [x1 s g, x1 t g']; simp
      · refine main t g' (fun z => hx ?_) t0
        unfold Geo.cross; rw [x1 s g, z]; simp
    · by_cases z : s.x = 0
      · exfalso; apply hx; unfold Geo.cross; rw [z, flat s g]; simp
      · exact main s g z s0
  · unfold cand1
    rw [List.length_map]
    have := List.length_filter_le (fun s : Gt => decide (s.x ≠ 0)) S0
    omega
/-- the points that are left -/
def leftC (S0 : List Gt) (cs : List (Option Gt)) : List Gt := (cs.filter (okC S0)).filterMap id
theorem left_map {m : Nat} {S0 : List Gt} : ∀ cs : List (Option Gt), (cs.filter (okC S0)).map (oD m) = (leftC S0 cs).map (eD m)
  | [] => rfl
  | none :: cs => by
    have := left_map (m := m) (S0 := S0) cs
    unfold leftC at this ⊢
    rw [List.filter_cons_of_neg (by simp [okC])]
    exact this
  | some c :: cs => by
    have := left_map (m := m) (S0 := S0) cs
    unfold leftC at this ⊢
    by_cases h : okC S0 (some c) = true
    · rw [List.filter_cons_of_pos h, List.map_cons, this]
      rfl
    · rw [List.filter_cons_of_neg h]
      exact this
theorem left_len {S0 : List Gt} (cs : List (Option Gt)) : (leftC S0 cs).length ≤ cs.length := by
  unfold leftC
  exact Nat.le_trans (List.length_filterMap_le _ _) (List.length_filter_le _ _)
theorem left_mem {S0 : List Gt} {cs : List (Option Gt)} {c : Gt} : c ∈ leftC S0 cs ↔ some c ∈ cs ∧ ∀ s ∈ S0, Geo.val s c ≤ 0 := by
  unfold leftC
  rw [List.mem_filterMap]
  constructor
  · rintro ⟨o, ho, e⟩
    have e : o = some c := e
    subst e
    obtain ⟨h1, h2⟩ := List.mem_filter.mp ho
    exact ⟨h1, of_decide_eq_true h2⟩
  · rintro ⟨h1, h2⟩
    exact ⟨some c, List.mem_filter.mpr ⟨h1, decide_eq_true h2⟩, rfl⟩
theorem cand_flat {m : Nat} {S0 : List Gt} {cs : List (Option Gt)} (hm : Dim m) (h : Cand m S0 cs) (hS : ∀ s ∈ S0, Pln m s) : ∀ c, some c ∈ cs → Geo.Low c ∧ Geo.Wee c ∧ Flat m c := by
  intro c hc
  obtain ⟨s, hs, t, ht, hx, e⟩ := h.sound c hc
  have box : ∀ s ∈ X1 m ++ S0, Geo.Box s := fun s hs => by
    rcases List.mem_append.mp hs with g | g
    · rcases hm with rfl | rfl
      · have : s = ⟨0, 0, 1⟩ ∨ s = ⟨0, 0, -1⟩ := by simpa [X1] using g
        rcases this with rfl | rfl <;> (unfold Geo.Box; decide)
      · simp [X1] at g
    · exact (hS s g).box
  refine ⟨by rw [e]; exact Geo.lowT_low hx, by rw [e]; exact Geo.wee_crs (box s hs) (box t ht) hx, ?_⟩
  rcases hm with rfl | rfl
  · -- a flat plane and a line of x1
    refine .inr ⟨rfl, ?_⟩
    have flat : ∀ s ∈ S0, s.y = 0 := fun s hs => by
      rcases (hS s hs).flat with h | ⟨_, h⟩
      · cases h
      · exact h
    have line : ∀ s ∈ X1 1, s.q = 0 ∧ s.x = 0 := fun t ht => by
      have : t = ⟨0, 0, 1⟩ ∨ t = ⟨0, 0, -1⟩ := by simpa [X1] using ht
      rcases this with rfl | rfl <;> exact ⟨rfl, rfl⟩
    have z : (Geo.crs s t).y = 0 := by
      unfold Geo.crs
      dsimp only
      rcases List.mem_append.mp hs with g | g
      · rw [(line s g).1, (line s g).2]; simp
      · rcases List.mem_append.mp ht with g' | g'
        · rw [(line t g').1, (line t g').2]; simp
        · exfalso; apply hx; unfold Geo.cross; rw [flat s g, flat t g']; simp
    rw [e]
    show (Geo.crs s t).y.fdiv _ = 0
    rw [z, Int.zero_fdiv]
  · exact .inl rfl
theorem left_vert {m : Nat} {S0 : List Gt} {cs : List (Option Gt)} (hm : Dim m) (h : Cand m S0 cs) (hS : ∀ s ∈ S0, Pln m s) (c : Gt) : c ∈ leftC S0 cs ↔ Geo.Low c ∧ Geo.Vert (X1 m ++ S0) c := by
  rw [left_mem]
  constructor
  · rintro ⟨hc, hs⟩
    obtain ⟨h1, h2, h3⟩ := cand_flat hm h hS c hc
    obtain ⟨s, hs', t, ht, hx, e⟩ := h.sound c hc
    refine ⟨h1, ?_⟩
    have sat : Geo.Sat (X1 m ++ S0) c := fun u hu => by
      rcases List.mem_append.mp hu with g | g
      · rcases h3 with rfl | ⟨rfl, hy⟩
        · simp [X1] at g
        · have : u = ⟨0, 0, 1⟩ ∨ u = ⟨0, 0, -1⟩ := by simpa [X1] using g
          rcases this with rfl | rfl <;> (unfold Geo.val; rw [hy]; simp)
      · exact hs u g
    rw [e] at sat ⊢
    exact Geo.crs_vert hs' ht hx sat
  · rintro ⟨hl, hv⟩
    exact ⟨h.all c hl hv, fun s hs => hv.sat s (List.mem_append_right _ hs)⟩
end K18
/-! k18: the law's own corners, read -/
namespace K18
open PySem PySem.Spec PyProof.Rows L2 L3
theorem cutL_mid {α : Type} (xs : List α) (h : 3 ≤ xs.length) : cutL xs (some 1) (some (-1)) = (xs.drop 1).dropLast := by
  unfold cutL
  have e1 : HT.sIx xs.length 0 (some 1) = 1 := by
    have := HT.sIx_nat xs.length 0 1
    rw [Nat.min_eq_left (by omega)] at this
    exact this
  have e2 : HT.sIx xs.length xs.length (some (-1)) = xs.length - 1 := by
    show (if (-1 : Int) < 0 then (-1 + (xs.length : Int)).toNat else min (-1 : Int).toNat xs.length) = _
    rw [if_pos (by decide)]
    omega
  rw [e1, e2, List.dropLast_eq_take, List.length_drop]
theorem shaped_nil : SeqAt.shaped (D.lst []).py = true := shaped_lst 2 []
theorem eqv_nil (m : Nat) (C : List Gt) : PyData.eqv (D.lst (C.map (eD m))).py (D.lst []).py = decide (C = []) := by
  cases C with
  | nil => simp [D.py, pyA, PyData.eqv, PyData.eqvAll]
  | cons a l => simp [D.py, pyA, PyData.eqv, PyData.eqvAll]
theorem one_few {S0 L : List Gt} (h : Geo.Rep (X1 1 ++ S0) L) : L.length < 3 := by
  refine Classical.byContradiction fun hn => ?_
  have flat : ∀ c ∈ L, c.y = 0 := fun c hc => by
    obtain ⟨_, hv⟩ := (h.mem c).mp hc
    rcases flat_sat (m := 1) (.inl rfl) (fun s hs => List.mem_append_left _ hs) hv.sat with g | ⟨_, g⟩
    · cases g
    · exact g
  cases h with
  | poly h g =>
    rename_i a l
    clear g
    match l, h, flat, hn with
    | [], _, _, hn => simp at hn
    | [b], _, _, hn => simp at hn
    | b :: c :: l, h, flat, _ =>
      have := (List.pairwise_cons.mp h.conv.1).1 c (by simp)
      unfold Geo.det at this
      rw [flat a (by simp), flat b (by simp), flat c (by simp)] at this
      simp at this
  | seg h _ => simp at hn
  | pnt h => simp at hn
  | emp h => simp at hn
theorem rep_3 {S L F : List Gt} (h : Geo.Rep S L) (nd : F.Nodup) (hF : ∀ x ∈ F, x ∈ L) : F.length ≤ L.length := Geo.nodup_len nd hF
abbrev cF : S3 := tRet3 (tCB3 gTuple (tCons3 (b3 gAdd (b3 gAdd (b3 gAdd (tLst3 (tCons3 (b3 gIx (tVar3 7) (tC3 (.int 0))) tNil3)) (tVar3 8)) (tLst3 (tCons3 (b3 gIx (tVar3 7) (tNeg3 (tC3 (.int 1)))) tNil3))) (tRev3 (tVar3 9))) tNil3))
abbrev cE2 : S3 := tSeq3 (tAsg3 (tLc3 (iSeq3 (tSl3 (tVar3 7) (tPart3 (tC3 (.int 1))) (tPart3 (tNeg3 (tC3 (.int 1)))))) (gName3 6) (tB3 (b3 gGt (tFn3 3 s__law_turn (tCons3 (b3 gIx (tVar3 7) (tC3 (.int 0))) (tCons3 (b3 gIx (tVar3 7) (tNeg3 (tC3 (.int 1)))) (tCons3 (tVar3 6) tNil3)))) (tC3 (.int 0)))) (tVar3 6) [6]) (gName3 9)) cF
abbrev cE1 : S3 := tSeq3 (tAsg3 (tLc3 (iSeq3 (tSl3 (tVar3 7) (tPart3 (tC3 (.int 1))) (tPart3 (tNeg3 (tC3 (.int 1)))))) (gName3 6) (tB3 (b3 gLt (tFn3 3 s__law_turn (tCons3 (b3 gIx (tVar3 7) (tC3 (.int 0))) (tCons3 (b3 gIx (tVar3 7) (tNeg3 (tC3 (.int 1)))) (tCons3 (tVar3 6) tNil3)))) (tC3 (.int 0)))) (tVar3 6) [6]) (gName3 8)) cE2
abbrev cD : S3 := tSeq3 (tIfS3 (tB3 (b3 gLt (tCB3 gLen (tCons3 (tVar3 7) tNil3)) (tC3 (.int 3)))) (tRet3 (tCB3 gTuple (tCons3 (tVar3 7) tNil3))) tNext3) cE1
abbrev cC : S3 := tSeq3 (tAsg3 (tIf3 (tB3 (b3 gNe (tVar3 2) (tLst3 tNil3))) (tFn3 1 s__law_by_order (tCons3 (tVar3 2) tNil3)) (tLst3 tNil3)) (gName3 7)) cD
abbrev cB : S3 := tSeq3 (tAsg3 (tLc3 (iSeq3 (tVar3 2)) (gName3 6) (tAnd3 (tB3 (tNotN3 (tVar3 6))) (tB3 (b3 gEq (tLc3 (iSeq3 (tVar3 0)) (gName3 3) (tB3 (b3 gGt (tFn3 2 s__law_value (tCons3 (tVar3 3) (tCons3 (tVar3 6) tNil3))) (tC3 (.int 0)))) (tVar3 3) [3]) (tLst3 tNil3)))) (tVar3 6) [6]) (gName3 2)) cC
theorem line_of {n : Nat} (h : n ≤ 300) : n ≤ sizeLine := Nat.le_trans h (by decide)
/-- the corners in order, written down -/
theorem read_F {a0 a1 a2 : Slot} {u z : Gt} {F A B : List Gt} {T : Nat} {kk : D → Nat → Prop} (hu : F[0]? = some u) (hz : F.getLast? = some z) (hA : A.length ≤ 130) (hB : B.length ≤ 130) (k : kk (.tup ((u :: (A ++ z :: B.reverse)).map (eD 2))) T) :
    cF { nx := fun ρ => kk .non ρ.T, rt := fun d ρ => kk d ρ.T } ⟨[a0, a1, a2, .un, .un, .un, .un, .val (.lst (F.map (eD 2))), .val (.lst (A.map (eD 2))), .val (.lst (B.map (eD 2)))], T⟩ := by
  have e0 : atI (F.map (eD 2)) 0 = some (eD 2 u) := atI_nat (k := 0) (by rw [List.getElem?_map, hu]; rfl)
  have e1 : atI (F.map (eD 2)) (-1) = some (eD 2 z) := atI_last (by rw [List.getLast?_map, hz]; rfl)
  show optK (atI (F.map (eD 2)) 0) _
  rw [e0]
  refine ⟨by show 1 ≤ sizeLine; decide, ?_, ?_⟩
  · show [eD 2 u].length + (A.map (eD 2)).length ≤ sizeLine
    rw [List.length_map]
    exact line_of (by simp; omega)
  · show optK (atI (F.map (eD 2)) (-1)) _
    rw [e1]
    refine ⟨by show 1 ≤ sizeLine; decide, ?_, ?_, ?_⟩
    · show ([eD 2 u] ++ A.map (eD 2)).length + [eD 2 z].length ≤ sizeLine
      rw [List.length_append, List.length_map]
      exact line_of (by simp; omega)
    · show (([eD 2 u] ++ A.map (eD 2)) ++ [eD 2 z]).length + (B.map (eD 2)).reverse.length ≤ sizeLine
      rw [List.length_append, List.length_append, List.length_map, List.length_reverse, List.length_map]
      exact line_of (by simp; omega)
    · show kk (.tup ((([eD 2 u] ++ A.map (eD 2)) ++ [eD 2 z]) ++ (B.map (eD 2)).reverse)) T
      have e : (([eD 2 u] ++ A.map (eD 2)) ++ [eD 2 z]) ++ (B.map (eD 2)).reverse = (u :: (A ++ z :: B.reverse)).map (eD 2) := by
        rw [List.map_cons, List.map_append, List.map_cons, List.map_reverse]
        simp
      rw [e]
      exact k
theorem read_E {a0 a1 a2 s8 s9 : Slot} {u z : Gt} {F : List Gt} {T : Nat} {kk : D → Nat → Prop} (hu : F[0]? = some u) (hz : F.getLast? = some z) (h3 : 3 ≤ F.length) (hn : F.length ≤ 130) (hw : ∀ c ∈ F, Geo.Wee c) (k : kk (.tup ((Geo.corners F).map (eD 2))) T) :
    cE1 { nx := fun ρ => kk .non ρ.T, rt := fun d ρ => kk d ρ.T } ⟨[a0, a1, a2, .un, .un, .un, .un, .val (.lst (F.map (eD 2))), s8, s9], T⟩ := by
  have e0 : atI (F.map (eD 2)) 0 = some (eD 2 u) := atI_nat (k := 0) (by rw [List.getElem?_map, hu]; rfl)
  have e1 : atI (F.map (eD 2)) (-1) = some (eD 2 z) := atI_last (by rw [List.getLast?_map, hz]; rfl)
  have um : u ∈ F := List.mem_of_getElem? hu
  have zm : z ∈ F := List.mem_of_getLast? hz
  have ec : cutL (F.map (eD 2)) (some 1) (some (-1)) = ((F.drop 1).dropLast).map (eD 2) := by
    rw [cutL_mid _ (by rw [List.length_map]; exact h3), ← List.map_drop, ← List.map_dropLast]
  have mm : ∀ x ∈ (F.drop 1).dropLast, x ∈ F := fun x hx => List.mem_of_mem_drop ((List.dropLast_sublist _).mem hx)
  have ml : ((F.drop 1).dropLast).length ≤ 130 := by rw [List.length_dropLast, List.length_drop]; omega
  show lcGo _ _ _ _ (cutL (F.map (eD 2)) (some 1) (some (-1))) [] _ _
  rw [ec]
  refine lcGo_sel (eD 2) (fun x => decide (Geo.det u z x < 0)) (eD 2) ((F.drop 1).dropLast) [] (fun x hx K K2 h1 h2 => ?_) (by rw [List.length_nil]; exact line_of (by omega)) ?_
  · show optK (atI (F.map (eD 2)) 0) _
    rw [e0]
    show optK (atI (F.map (eD 2)) (-1)) _
    rw [e1]
    refine ⟨rfl, u, z, x, rfl, hw u um, hw z zm, hw x (mm x hx), ?_⟩
    show (match decide (Geo.det u z x < 0) with | true => _ | false => _)
    by_cases hd : Geo.det u z x < 0
    · rw [decide_eq_true hd]
      exact h1 (decide_eq_true hd) _ rfl
    · rw [decide_eq_false hd]
      exact h2 (decide_eq_false hd) _ rfl
  · rw [List.nil_append]
    show cE2 _ ⟨[a0, a1, a2, .un, .un, .un, .un, .val (.lst (F.map (eD 2))), .val (.lst ((((F.drop 1).dropLast).filter fun x => decide (Geo.det u z x < 0)).map (eD 2))), s9], T⟩
    show lcGo _ _ _ _ (cutL (F.map (eD 2)) (some 1) (some (-1))) [] _ _
    rw [ec]
    refine lcGo_sel (eD 2) (fun x => decide (0 < Geo.det u z x)) (eD 2) ((F.drop 1).dropLast) [] (fun x hx K K2 h1 h2 => ?_) (by rw [List.length_nil]; exact line_of (by omega)) ?_
    · show optK (atI (F.map (eD 2)) 0) _
      rw [e0]
      show optK (atI (F.map (eD 2)) (-1)) _
      rw [e1]
      refine ⟨rfl, u, z, x, rfl, hw u um, hw z zm, hw x (mm x hx), ?_⟩
      show (match decide (0 < Geo.det u z x) with | true => _ | false => _)
      by_cases hd : 0 < Geo.det u z x
      · rw [decide_eq_true hd]
        exact h1 (decide_eq_true hd) _ rfl
      · rw [decide_eq_false hd]
        exact h2 (decide_eq_false hd) _ rfl
    · rw [List.nil_append]
      refine read_F hu hz (Nat.le_trans (List.length_filter_le _ _) ml) (Nat.le_trans (List.length_filter_le _ _) ml) ?_
      have e : Geo.corners F = u :: (((F.drop 1).dropLast).filter (fun x => decide (Geo.det u z x < 0)) ++ z :: (((F.drop 1).dropLast).filter fun x => decide (0 < Geo.det u z x)).reverse) := by
        unfold Geo.corners
        rw [if_neg (by omega)]
        have hh : F.headD ⟨0, 0, 0⟩ = u := by
          cases F with
          | nil => simp at hu
          | cons a l => exact Option.some.inj hu
        have hl : F.getLastD ⟨0, 0, 0⟩ = z := by rw [List.getLastD_eq_getLast?, hz]; rfl
        rw [hh, hl]
        rfl
      rw [← e]
      exact k
end K18
/-! k18: the law's own corners, read to the end -/
namespace K18
open PySem PySem.Spec PyProof.Rows L2 L3
theorem read_D {a0 a1 a2 s8 s9 : Slot} {m : Nat} {S0 L F : List Gt} {T : Nat} {kk : D → Nat → Prop} (hm : Dim m) (h : Geo.Rep (X1 m ++ S0) L) (hs : F.Pairwise Geo.lt) (hF : ∀ X, X ∈ F ↔ Geo.Low X ∧ Geo.Vert (X1 m ++ S0) X) (hn : F.length ≤ 130) (hw : ∀ c ∈ F, Geo.Wee c) (k : kk (.tup (L.map (eD m))) T) :
    cD { nx := fun ρ => kk .non ρ.T, rt := fun d ρ => kk d ρ.T } ⟨[a0, a1, a2, .un, .un, .un, .un, .val (.lst (F.map (eD m))), s8, s9], T⟩ := by
  have ec := Geo.corners_is h hs hF
  show (match decide ((((F.map (eD m)).length : Nat) : Int) < 3) with | true => _ | false => _)
  rw [List.length_map]
  by_cases h3 : F.length < 3
  · rw [decide_eq_true (by omega)]
    have e : Geo.corners F = F := by unfold Geo.corners; rw [if_pos h3]
    rw [e] at ec
    rw [← ec] at k
    exact k
  · rw [decide_eq_false (by omega)]
    have hm2 : m = 2 := by
      rcases hm with rfl | rfl
      · exfalso
        have := one_few h
        have := Geo.nodup_len (Geo.sorted_nodup hs) fun x hx => (h.mem x).mpr ((hF x).mp hx)
        omega
      · rfl
    subst hm2
    obtain ⟨u, hu⟩ : ∃ u, F[0]? = some u := ⟨F[0]'(by omega), List.getElem?_eq_getElem (by omega)⟩
    obtain ⟨z, hz⟩ : ∃ z, F.getLast? = some z := by
      cases F with
      | nil => simp at h3
      | cons a l => exact Geo.has_last a l
    refine read_E hu hz (by omega) hn hw ?_
    rw [ec]
    exact k
theorem read_C {a0 a1 s7 s8 s9 : Slot} {m : Nat} {S0 L C : List Gt} {T : Nat} {kk : D → Nat → Prop} (hm : Dim m) (h : Geo.Rep (X1 m ++ S0) L) (hC : ∀ X, X ∈ C ↔ Geo.Low X ∧ Geo.Vert (X1 m ++ S0) X) (hn : C.length ≤ 130) (hc : ∀ c ∈ C, Cor m c) (k : kk (.tup (L.map (eD m))) T) :
    cC { nx := fun ρ => kk .non ρ.T, rt := fun d ρ => kk d ρ.T } ⟨[a0, a1, .val (.lst (C.map (eD m))), .un, .un, .un, .un, s7, s8, s9], T⟩ := by
  refine ⟨by show 0 ≤ sizeLine; decide, shaped_lst m C, shaped_nil, ?_⟩
  show (match !PyData.eqv (D.lst (C.map (eD m))).py (D.lst []).py with | true => _ | false => _)
  rw [eqv_nil]
  by_cases h0 : C = []
  · rw [decide_eq_true h0]
    refine ⟨by show 0 ≤ sizeLine; decide, ?_⟩
    exact read_D (F := []) hm h .nil (fun X => by rw [← hC, h0]) (by decide) (by simp) k
  · rw [decide_eq_false h0]
    refine ⟨rfl, _, C.map (ePt m), m, rfl, .inl (by rw [map_eD]), pts_cor hm hc hn, by rcases hm with rfl | rfl <;> decide, by rcases hm with rfl | rfl <;> decide, fun p hp => ?_, fun R o => ?_⟩
    · obtain ⟨c, hcc, rfl⟩ := List.mem_map.mp hp
      exact low_of (hc c hcc).flat (hc c hcc).low
    · obtain ⟨r, e, h1, h2⟩ := ord_geo (fun c hcc => (hc c hcc).flat) o
      have hl := Geo.nodup_len (Geo.sorted_nodup h1) fun x hx => (h2 x).mp hx
      subst e
      have e2 : (r.map (ePt m)).map ptD = r.map (eD m) := (map_eD m r).symm
      show cD _ ⟨[a0, a1, .val (.lst (C.map (eD m))), .un, .un, .un, .un, .val (.lst ((r.map (ePt m)).map ptD)), s8, s9], T⟩
      rw [e2]
      exact read_D hm h h1 (fun X => by rw [h2, hC]) (by omega) (fun c hcc => (hc c ((h2 c).mp hcc)).wee) k
theorem filter_nil {S0 : List Gt} {c : Gt} : (S0.filter fun s => decide (0 < Geo.val s c)) = [] ↔ ∀ s ∈ S0, Geo.val s c ≤ 0 := by
  rw [List.filter_eq_nil_iff]
  constructor
  · intro h s hs
    have := h s hs
    simp at this
    omega
  · intro h s hs
    have := h s hs
    simp
    omega
theorem read_B {s7 s8 s9 : Slot} {m : Nat} {S0 L : List Gt} {cs : List (Option Gt)} {T : Nat} {kk : D → Nat → Prop} (hm : Dim m) (hS : ∀ s ∈ S0, Pln m s) (hS16 : S0.length ≤ 16) (h : Geo.Rep (X1 m ++ S0) L) (hc : Cand m S0 cs) (k : kk (.tup (L.map (eD m))) T) :
    cB { nx := fun ρ => kk .non ρ.T, rt := fun d ρ => kk d ρ.T } ⟨[.val (.lst (S0.map (eD m))), .val (.int (m : Nat)), .val (.lst (cs.map (oD m))), .un, .un, .un, .un, s7, s8, s9], T⟩ := by
  have few := hc.few
  refine lcGo_sel (oD m) (okC S0) (oD m) cs [] (fun o ho K K2 h1 h2 => ?_) (by rw [List.length_nil]; exact line_of (by omega)) ?_
  · cases o with
    | none => exact h2 rfl _ rfl
    | some c =>
      obtain ⟨cl, cw, cf⟩ := cand_flat hm hc hS c ho
      have ck : Cor m c := ⟨cl, cw, cf⟩
      obtain ⟨c1, c2⟩ := cor_bd hm ck
      refine lcGo_sel (eD m) (fun s => decide (0 < Geo.val s c)) (eD m) S0 [] (fun s hs K1 K3 g1 g2 => ?_) (by rw [List.length_nil]; exact line_of (by omega)) ?_
      · obtain ⟨p1, p2, p3⟩ := box_bd (hS s hs).box
        refine ⟨rfl, ePt m s, ePt m c, rfl, p1.mono (by decide), c1.mono (by decide), fun n hn => ?_, fun n hn => (c2 n hn).mono (by decide), ?_, ?_⟩
        · rcases ePt_mem hm n hn with e | e
          · rw [e]; exact p2.mono (by decide)
          · rw [e]; exact p3.mono (by decide)
        · rw [ePt_dim hm]; rcases hm with rfl | rfl <;> decide
        · rw [value_eD hm (hS s hs).flat cf]
          show (match decide (0 < Geo.val s c) with | true => _ | false => _)
          by_cases hd : 0 < Geo.val s c
          · rw [decide_eq_true hd]
            exact g1 (decide_eq_true hd) _ rfl
          · rw [decide_eq_false hd]
            exact g2 (decide_eq_false hd) _ rfl
      · rw [List.nil_append]
        refine ⟨by show 0 ≤ sizeLine; decide, shaped_lst m _, shaped_nil, ?_⟩
        show (match PyData.eqv (D.lst ((S0.filter fun s => decide (0 < Geo.val s c)).map (eD m))).py (D.lst []).py with | true => _ | false => _)
        rw [eqv_nil]
        by_cases hz : ∀ s ∈ S0, Geo.val s c ≤ 0
        · rw [decide_eq_true (filter_nil.mpr hz)]
          exact h1 (decide_eq_true hz) _ rfl
        · rw [decide_eq_false fun e => hz (filter_nil.mp e)]
          exact h2 (decide_eq_false hz) _ rfl
  · rw [List.nil_append, left_map]
    have hmem := left_vert hm hc hS
    refine read_C hm h hmem (Nat.le_trans (left_len cs) (by omega)) (fun c hcc => ?_) k
    obtain ⟨g1, g2, g3⟩ := cand_flat hm hc hS c (left_mem.mp hcc).1
    exact ⟨g1, g2, g3⟩
theorem r__law_corners (ds : List D) (TT : Nat) (kk : D → Nat → Prop) (hl : ds.length = 2) (h : s__law_corners ds TT kk) : t__law_corners { nx := fun ρ => kk .non ρ.T, rt := fun d ρ => kk d ρ.T } ⟨ds.map .val ++ List.replicate 8 .un, TT⟩ := by
  obtain ⟨m, S0, L, rfl, hm, hS, h1, h16, hr, k⟩ := h
  refine ⟨shaped_int (m : Nat), shaped_int 1, ?_⟩
  show (match PyData.eqv (.int ((m : Nat) : Int)) (.int 1) with | true => _ | false => _)
  rw [eqv_int]
  rcases hm with rfl | rfl
  · rw [decide_eq_true (show (((1 : Nat) : Int)) = 1 from rfl)]
    refine lcGo_sel (eD 1) (fun s : Gt => decide (s.x ≠ 0)) (fun s : Gt => eD 1 (Geo.lowT ⟨s.x, -s.q, 0⟩)) S0 [] (fun s hs K K2 g1 g2 => ?_) (by rw [List.length_nil]; exact line_of (by omega)) ?_
    · obtain ⟨b1, b2, b3⟩ := box_bd (hS s hs).box
      refine ⟨shaped_int s.x, shaped_int 0, ?_⟩
      show (match !PyData.eqv (.int s.x) (.int 0) with | true => _ | false => _)
      rw [eqv_int]
      by_cases hx : s.x = 0
      · rw [decide_eq_true hx]
        exact g2 (by simp [hx]) _ rfl
      · rw [decide_eq_false hx]
        refine ⟨by show 1 ≤ sizeLine; decide, rfl, s.x, _, [0 - s.q], rfl, .inl rfl, hx, b2.mono (by decide), by simp, ?_⟩
        have e := low_eP (m := 1) ⟨s.x, -s.q, 0⟩ (.inr ⟨rfl, rfl⟩)
        have e2 : low s.x [0 - s.q] = low (⟨s.x, -s.q, 0⟩ : Gt).q (ePt 1 ⟨s.x, -s.q, 0⟩).2 := by rw [Int.zero_sub]; rfl
        show K (ptD (low s.x [0 - s.q])) _
        rw [e2, e]
        exact g1 (by simp [hx]) _ rfl
    · rw [List.nil_append]
      have e : (S0.filter fun s : Gt => decide (s.x ≠ 0)).map (fun s : Gt => eD 1 (Geo.lowT ⟨s.x, -s.q, 0⟩)) = (cand1 S0).map (oD 1) := by
        unfold cand1
        rw [List.map_map]
        rfl
      rw [e]
      exact read_B (.inl rfl) hS h16 hr (cand_one (fun s hs => (hS s hs).flat) h16) k
  · rw [decide_eq_false (show ¬ (((2 : Nat) : Int)) = 1 by decide)]
    refine ⟨rfl, S0.length, by rw [List.length_map], h1, by omega, ?_⟩
    show lcGo _ _ _ _ (pairsD S0.length) [] _ _
    rw [pairs_prs]
    have hpl : (prs S0.length).length ≤ 128 := by
      have h1 := prs_len S0.length
      have h2 : S0.length * S0.length ≤ 16 * 16 := Nat.mul_le_mul h16 h16
      omega
    refine lcGo_map (fun q : Nat × Nat => D.tup [.int (q.1 : Nat), .int (q.2 : Nat)]) (fun q : Nat × Nat => oD 2 (match S0[q.1]?, S0[q.2]? with | some s, some t => if Geo.cross s t = 0 then none else some (Geo.lowT (Geo.crs s t)) | _, _ => none)) (prs S0.length) [] (fun q hq K K2 hK => ?_) (by rw [List.length_nil]; exact line_of (by omega)) ?_
    · obtain ⟨i, j⟩ := q
      obtain ⟨hj, hi⟩ := prs_mem.mp hq
      have ei : S0[i]? = some S0[i] := List.getElem?_eq_getElem hi
      have ej : S0[j]? = some S0[j] := List.getElem?_eq_getElem (by omega)
      dsimp only at hK
      rw [ei, ej] at hK
      dsimp only at hK
      have ai : atI (S0.map (eD 2)) ((i : Nat) : Int) = some (eD 2 S0[i]) := atI_nat (by rw [List.getElem?_map, ei]; rfl)
      have aj : atI (S0.map (eD 2)) ((j : Nat) : Int) = some (eD 2 S0[j]) := atI_nat (by rw [List.getElem?_map, ej]; rfl)
      refine ⟨rfl, ?_⟩
      show optK (atI (S0.map (eD 2)) ((i : Nat) : Int)) _
      rw [ai]
      show optK (atI (S0.map (eD 2)) ((j : Nat) : Int)) _
      rw [aj]
      refine ⟨rfl, S0[i], S0[j], rfl, (hS _ (List.getElem_mem _)).box, (hS _ (List.getElem_mem _)).box, ?_⟩
      have e : metD S0[i] S0[j] = oD 2 (if Geo.cross S0[i] S0[j] = 0 then none else some (Geo.lowT (Geo.crs S0[i] S0[j]))) := by
        unfold metD
        split <;> rfl
      rw [e]
      exact hK _ rfl
    · rw [List.nil_append]
      have e : (prs S0.length).map (fun q : Nat × Nat => oD 2 (match S0[q.1]?, S0[q.2]? with | some s, some t => if Geo.cross s t = 0 then none else some (Geo.lowT (Geo.crs s t)) | _, _ => none)) = (cand2 S0).map (oD 2) := by
        unfold cand2
        rw [List.map_map]
        rfl
      rw [e]
      exact read_B (.inr rfl) hS h16 hr (cand_two h16) k
end K18
/-! k18: windows, one row alone, settings held: plain -/
namespace K18
open PySem PySem.Spec PyProof.Rows L2 L3
/-! ### one row alone -/
theorem rep_len_eq {S L M : List Gt} (h : Geo.Rep S L) (k : Geo.Rep S M) : L.length = M.length :=
  Nat.le_antisymm (Geo.nodup_len h.nodup fun x hx => (k.mem x).mpr ((h.mem x).mp hx)) (Geo.nodup_len k.nodup fun x hx => (h.mem x).mpr ((k.mem x).mp hx))
theorem rep_uniq {S L M : List Gt} (h : Geo.Rep S L) (k : Geo.Rep S M) : L = M := by
  have hl := rep_len_eq h k
  have mem : ∀ x, x ∈ L ↔ x ∈ M := fun x => by rw [h.mem, k.mem]
  have sorted : ∀ {S L : List Gt}, Geo.Rep S L → L.length < 3 → L.Pairwise Geo.lt := fun h hl => by
    cases h with
    | poly h _ => have := h.len; omega
    | seg h g => exact .cons (fun x hx => by rw [List.mem_singleton.mp hx]; exact g) (.cons (fun x hx => by simp at hx) .nil)
    | pnt h => exact .cons (fun x hx => by simp at hx) .nil
    | emp h => exact .nil
  by_cases h3 : L.length < 3
  · exact Geo.pairwise_uniq (fun a b => Geo.lt_asym) (sorted h h3) (sorted k (by omega)) mem
  · cases h with
    | seg h _ => simp at h3
    | pnt h => simp at h3
    | emp h => simp at h3
    | poly h g =>
      cases k with
      | seg k _ => have := h.len; rw [hl] at this; simp at this
      | pnt k => have := h.len; rw [hl] at this; simp at this
      | emp k => simp at hl
      | poly k g' =>
        rename_i a l b l'
        have e : a = b := by
          rcases List.mem_cons.mp ((mem a).mp (by simp)) with e | ha
          · exact e
          · rcases List.mem_cons.mp ((mem b).mpr (by simp)) with e | hb
            · exact e.symm
            · exact absurd (g b hb) (Geo.lt_asym (g' a ha))
        subst e
        have n1 := (List.nodup_cons.mp (Geo.conv_nodup h.conv h.len)).1
        have n2 := (List.nodup_cons.mp (Geo.conv_nodup k.conv k.len)).1
        rw [Geo.conv_uniq h.conv k.conv fun x => ?_]
        constructor
        · intro hx
          rcases List.mem_cons.mp ((mem x).mp (List.mem_cons_of_mem _ hx)) with e | g
          · subst e; exact absurd hx n1
          · exact g
        · intro hx
          rcases List.mem_cons.mp ((mem x).mpr (List.mem_cons_of_mem _ hx)) with e | g
          · subst e; exact absurd hx n2
          · exact g
/-! ### the window -/
def win : List (Int × Int) → List Gt
  | [a] => [⟨1, a.1, 0⟩, ⟨1, a.2, 0⟩]
  | [a, b] => [⟨1, a.1, b.1⟩, ⟨1, a.2, b.1⟩, ⟨1, a.2, b.2⟩, ⟨1, a.1, b.2⟩]
  | _ => []
theorem low_one (x y : Int) : Geo.Low (⟨1, x, y⟩ : Gt) := ⟨by (dsimp only; decide), by show Nat.gcd (Nat.gcd 1 x.natAbs) y.natAbs = 1; simp⟩
theorem window_rep {ops : List (Int × Int)} (hd : Dim ops.length) (ho : ∀ o ∈ ops, o.1 < o.2) : Geo.Rep (X1 ops.length ++ edges ops) (win ops) := by
  match ops, hd, ho with
  | [], hd, _ => exact absurd hd (by unfold Dim; simp)
  | [a], _, ho =>
    have h := ho a (by simp)
    have satA : Geo.Sat (X1 1 ++ edges [a]) (⟨1, a.1, 0⟩ : Gt) := fun s hs => by
      have : s = ⟨0, 0, 1⟩ ∨ s = ⟨0, 0, -1⟩ ∨ s = ⟨a.1, -1, 0⟩ ∨ s = ⟨-a.2, 1, 0⟩ := by simpa [X1, edges] using hs
      rcases this with rfl | rfl | rfl | rfl <;> (unfold Geo.val; dsimp only; omega)
    have satB : Geo.Sat (X1 1 ++ edges [a]) (⟨1, a.2, 0⟩ : Gt) := fun s hs => by
      have : s = ⟨0, 0, 1⟩ ∨ s = ⟨0, 0, -1⟩ ∨ s = ⟨a.1, -1, 0⟩ ∨ s = ⟨-a.2, 1, 0⟩ := by simpa [X1, edges] using hs
      rcases this with rfl | rfl | rfl | rfl <;> (unfold Geo.val; dsimp only; omega)
    refine .seg ⟨fun e => ?_, low_one _ _, low_one _ _, ⟨by (dsimp only; decide), satA, ⟨a.1, -1, 0⟩, by simp [edges], ⟨0, 0, 1⟩, by simp [X1], ?_, ?_, ?_⟩, ⟨by (dsimp only; decide), satB, ⟨-a.2, 1, 0⟩, by simp [edges], ⟨0, 0, 1⟩, by simp [X1], ?_, ?_, ?_⟩, ⟨⟨0, 0, 1⟩, by simp [X1], ?_, ?_, ?_⟩, fun X hq hX => ?_⟩ ?_
    · have := congrArg Geo.T3.x e
      dsimp only at this
      omega
    · unfold Geo.val; dsimp only; omega
    · unfold Geo.val; dsimp only; omega
    · unfold Geo.cross; dsimp only; omega
    · unfold Geo.val; dsimp only; omega
    · unfold Geo.val; dsimp only; omega
    · unfold Geo.cross; dsimp only; omega
    · unfold Geo.val; dsimp only; omega
    · unfold Geo.val; dsimp only; omega
    · right; decide
    · have y1 := hX ⟨0, 0, 1⟩ (by simp [X1])
      have y2 := hX ⟨0, 0, -1⟩ (by simp [X1])
      have x1 := hX ⟨a.1, -1, 0⟩ (by simp [edges])
      have x2 := hX ⟨-a.2, 1, 0⟩ (by simp [edges])
      unfold Geo.val at y1 y2 x1 x2
      dsimp only at y1 y2 x1 x2
      rw [Int.neg_mul] at x2
      have hy : X.y = 0 := by omega
      refine Geo.two_hull (α := a.2 * X.q - X.x) (β := X.x - a.1 * X.q) (D := a.2 - a.1) (by omega) (by omega) (by omega) fun p => ?_
      unfold Geo.val
      dsimp only
      rw [hy]
      grind
    · unfold Geo.lt
      dsimp only
      omega
  | [a, b], _, ho =>
    have h := ho a (by simp)
    have h' := ho b (by simp)
    have ed : ∀ s : Gt, s ∈ X1 2 ++ edges [a, b] ↔ s = ⟨a.1, -1, 0⟩ ∨ s = ⟨-a.2, 1, 0⟩ ∨ s = ⟨b.1, 0, -1⟩ ∨ s = ⟨-b.2, 0, 1⟩ := fun s => by simp [X1, edges]
    have pos := Int.mul_pos (by omega : 0 < a.2 - a.1) (by omega : 0 < b.2 - b.1)
    refine .poly ⟨by simp, ?_, ?_, ?_, ?_⟩ ?_
    · refine ⟨?_, ?_, ?_, ?_, trivial⟩
      · refine .cons (fun x hx => ?_) (.cons (fun x hx => ?_) (.cons (fun x hx => by simp at hx) .nil))
        · have : x = ⟨1, a.2, b.2⟩ ∨ x = ⟨1, a.1, b.2⟩ := by simpa using hx
          rcases this with rfl | rfl
          · unfold Geo.det; dsimp only; grind
          · unfold Geo.det; dsimp only; grind
        · have : x = ⟨1, a.1, b.2⟩ := by simpa using hx
          subst this
          unfold Geo.det; dsimp only; grind
      · refine .cons (fun x hx => ?_) (.cons (fun x hx => by simp at hx) .nil)
        have : x = ⟨1, a.1, b.2⟩ := by simpa using hx
        subst this
        unfold Geo.det; dsimp only; grind
      · exact .cons (fun x hx => by simp at hx) .nil
      · exact .nil
    · refine ⟨⟨⟨b.1, 0, -1⟩, (ed _).mpr (by simp), ?_, ?_, .inr (by (dsimp only; decide))⟩, ⟨⟨-a.2, 1, 0⟩, (ed _).mpr (by simp), ?_, ?_, .inl (by (dsimp only; decide))⟩, ⟨⟨-b.2, 0, 1⟩, (ed _).mpr (by simp), ?_, ?_, .inr (by (dsimp only; decide))⟩, ⟨⟨a.1, -1, 0⟩, (ed _).mpr (by simp), ?_, ?_, .inl (by (dsimp only; decide))⟩, trivial⟩ <;> (unfold Geo.val; dsimp only; omega)
    · intro c hc
      have : c = ⟨1, a.1, b.1⟩ ∨ c = ⟨1, a.2, b.1⟩ ∨ c = ⟨1, a.2, b.2⟩ ∨ c = ⟨1, a.1, b.2⟩ := by simpa using hc
      rcases this with rfl | rfl | rfl | rfl <;> exact low_one _ _
    · intro c hc s hs
      have : c = ⟨1, a.1, b.1⟩ ∨ c = ⟨1, a.2, b.1⟩ ∨ c = ⟨1, a.2, b.2⟩ ∨ c = ⟨1, a.1, b.2⟩ := by simpa using hc
      rcases (ed s).mp hs with rfl | rfl | rfl | rfl <;> rcases this with rfl | rfl | rfl | rfl <;> (unfold Geo.val; dsimp only; omega)
    · intro c hc
      have : c = ⟨1, a.2, b.1⟩ ∨ c = ⟨1, a.2, b.2⟩ ∨ c = ⟨1, a.1, b.2⟩ := by simpa using hc
      rcases this with rfl | rfl | rfl <;> (unfold Geo.lt; dsimp only; omega)
  | _ :: _ :: _ :: _, hd, _ => exact absurd hd (by unfold Dim; simp)
theorem edge_pln {ops : List (Int × Int)} (ho : ∀ o ∈ ops, Op o) : ∀ s ∈ edges ops, Pln ops.length s := by
  match ops, ho with
  | [], _ => simp [edges]
  | [a], ho =>
    obtain ⟨_, h1, h2⟩ := ho a (by simp)
    intro s hs
    have : s = ⟨a.1, -1, 0⟩ ∨ s = ⟨-a.2, 1, 0⟩ := by simpa [edges] using hs
    rcases this with rfl | rfl
    · exact ⟨⟨by show a.1.natAbs ≤ 200; omega, by (dsimp only; decide), by (dsimp only; decide)⟩, .inr ⟨rfl, rfl⟩⟩
    · exact ⟨⟨by show (-a.2).natAbs ≤ 200; omega, by (dsimp only; decide), by (dsimp only; decide)⟩, .inr ⟨rfl, rfl⟩⟩
  | [a, b], ho =>
    obtain ⟨_, h1, h2⟩ := ho a (by simp)
    obtain ⟨_, h3, h4⟩ := ho b (by simp)
    intro s hs
    have : s = ⟨a.1, -1, 0⟩ ∨ s = ⟨-a.2, 1, 0⟩ ∨ s = ⟨b.1, 0, -1⟩ ∨ s = ⟨-b.2, 0, 1⟩ := by simpa [edges] using hs
    rcases this with rfl | rfl | rfl | rfl
    · exact ⟨⟨by show a.1.natAbs ≤ 200; omega, by (dsimp only; decide), by (dsimp only; decide)⟩, .inl rfl⟩
    · exact ⟨⟨by show (-a.2).natAbs ≤ 200; omega, by (dsimp only; decide), by (dsimp only; decide)⟩, .inl rfl⟩
    · exact ⟨⟨by show b.1.natAbs ≤ 200; omega, by (dsimp only; decide), by (dsimp only; decide)⟩, .inl rfl⟩
    · exact ⟨⟨by show (-b.2).natAbs ≤ 200; omega, by (dsimp only; decide), by (dsimp only; decide)⟩, .inl rfl⟩
  | _ :: _ :: _ :: _, _ => simp [edges]
theorem x1_box {m : Nat} : ∀ s ∈ X1 m, Geo.Box s := fun s hs => by
  unfold X1 at hs
  split at hs
  · have : s = ⟨0, 0, 1⟩ ∨ s = ⟨0, 0, -1⟩ := by simpa using hs
    rcases this with rfl | rfl <;> (unfold Geo.Box; decide)
  · simp at hs
theorem base_win {ops : List (Int × Int)} (hd : Dim ops.length) (ho : ∀ o ∈ ops, Op o) : Base ops.length (X1 ops.length ++ edges ops) (win ops) :=
  ⟨window_rep hd fun o h => (ho o h).1, fun s hs => by
    rcases List.mem_append.mp hs with g | g
    · exact x1_box s g
    · exact (edge_pln ho s g).box, fun s hs => List.mem_append_left _ hs⟩
theorem win_len {ops : List (Int × Int)} : (win ops).length ≤ 4 := by
  match ops with
  | [] => simp [win]
  | [a] => simp [win]
  | [a, b] => simp [win]
  | _ :: _ :: _ :: _ => simp [win]
/-! ### a setting held -/
def pinA (P : Gt) (i : Nat) : Gt := if i = 0 then ⟨-P.x, P.q, 0⟩ else ⟨-P.y, 0, P.q⟩
def pinB (P : Gt) (i : Nat) : Gt := if i = 0 then ⟨P.x, -P.q, 0⟩ else ⟨P.y, 0, -P.q⟩
def pins (P : Gt) (n : Nat) : List Gt := ((List.range n).map fun i => [pinA P i, pinB P i]).flatten
theorem pins_succ (P : Gt) (n : Nat) : pins P (n + 1) = pins P n ++ [pinA P n] ++ [pinB P n] := by
  unfold pins
  rw [List.range_succ, List.map_append, List.flatten_append]
  simp
theorem pin_pln {ops : List (Int × Int)} {P : Gt} {i : Nat} (h : Seat ops P) (hi : i < ops.length) (hd : Dim ops.length) : Pln ops.length (pinA P i) ∧ Pln ops.length (pinB P i) := by
  have hq := h.low.pos
  have h1 := h.few
  have h2 := h.wx
  have h3 := h.wy
  unfold pinA pinB
  by_cases h0 : i = 0
  · rw [if_pos h0, if_pos h0]
    have fl : ∀ q x : Int, Flat ops.length (⟨q, x, 0⟩ : Gt) := fun q x => by
      rcases hd with e | e
      · exact .inr ⟨e, rfl⟩
      · exact .inl e
    refine ⟨⟨⟨?_, ?_, ?_⟩, fl _ _⟩, ⟨⟨?_, ?_, ?_⟩, fl _ _⟩⟩ <;> (dsimp only; omega)
  · rw [if_neg h0, if_neg h0]
    have e2 : ops.length = 2 := by rcases hd with e | e <;> omega
    refine ⟨⟨⟨?_, ?_, ?_⟩, .inl e2⟩, ⟨⟨?_, ?_, ?_⟩, .inl e2⟩⟩ <;> (dsimp only; omega)
theorem val_sub (p pa X : Gt) : Geo.val (sub p pa) X = Geo.val p X - Geo.val pa X := by unfold Geo.val sub; dsimp only; grind
theorem val_same {X P s : Gt} (h : Geo.Same X P) : X.q * Geo.val s P = P.q * Geo.val s X := by
  obtain ⟨h1, h2⟩ := h
  unfold Geo.val
  grind
theorem held_end {ops : List (Int × Int)} {ps H : List Gt} {pa P : Gt} (hd : Dim ops.length) (hs : Seat ops P) (hr : Geo.Rep ((X1 ops.length ++ edges ops ++ ps.map (sub · pa)) ++ pins P ops.length) H) : (H = [] ∨ H = [P]) ∧ (H ≠ [] ↔ ∀ p ∈ ps, Geo.val p P ≤ Geo.val pa P) := by
  have pinS : ∀ i < ops.length, ∀ s, s = pinA P i ∨ s = pinB P i → s ∈ pins P ops.length := fun i hi s h => by
    unfold pins
    simp only [List.mem_flatten, List.mem_map, List.mem_range]
    exact ⟨_, ⟨i, hi, rfl⟩, by simpa using h⟩
  have same : ∀ X : Gt, 0 < X.q → Geo.Sat ((X1 ops.length ++ edges ops ++ ps.map (sub · pa)) ++ pins P ops.length) X → Geo.Same X P := by
    intro X hq hX
    have a1 := hX (pinA P 0) (List.mem_append_right _ (pinS 0 (by rcases hd with e | e <;> omega) _ (.inl rfl)))
    have a2 := hX (pinB P 0) (List.mem_append_right _ (pinS 0 (by rcases hd with e | e <;> omega) _ (.inr rfl)))
    unfold pinA Geo.val at a1
    unfold pinB Geo.val at a2
    simp only [if_true] at a1 a2
    refine ⟨by grind, ?_⟩
    rcases hd with e | e
    · rcases flat_sat (m := ops.length) (.inl e) (fun s hs => List.mem_append_left _ (List.mem_append_left _ (List.mem_append_left _ hs))) hX with g | ⟨_, g⟩
      · omega
      · rcases hs.flat with g' | ⟨_, g'⟩
        · omega
        · rw [g, g']; simp
    · have b1 := hX (pinA P 1) (List.mem_append_right _ (pinS 1 (by omega) _ (.inl rfl)))
      have b2 := hX (pinB P 1) (List.mem_append_right _ (pinS 1 (by omega) _ (.inr rfl)))
      unfold pinA Geo.val at b1
      unfold pinB Geo.val at b2
      simp at b1 b2
      grind
  refine ⟨hr.one hs.low same, ?_⟩
  rw [hr.ne]
  constructor
  · rintro ⟨X, hq, hX⟩ p hp
    have sm := same X hq hX
    have h1 := hX (sub p pa) (List.mem_append_left _ (List.mem_append_right _ (List.mem_map.mpr ⟨p, hp, rfl⟩)))
    have h2 := val_same (s := sub p pa) sm
    have h3 : P.q * Geo.val (sub p pa) X ≤ 0 := Int.mul_nonpos_of_nonneg_of_nonpos (Int.le_of_lt hs.low.pos) h1
    rw [← h2] at h3
    have h4 : Geo.val (sub p pa) P ≤ 0 := by
      refine Classical.byContradiction fun hn => ?_
      have := Int.mul_pos hq (by omega : 0 < Geo.val (sub p pa) P)
      omega
    rw [val_sub] at h4
    omega
  · intro h
    refine ⟨P, hs.low.pos, fun s hS => ?_⟩
    rcases List.mem_append.mp hS with g | g
    · rcases List.mem_append.mp g with g | g
      · rcases List.mem_append.mp g with g | g
        · rcases hs.flat with e | ⟨e, hy⟩
          · rw [e] at g; simp [X1] at g
          · rw [e] at g
            have : s = ⟨0, 0, 1⟩ ∨ s = ⟨0, 0, -1⟩ := by simpa [X1] using g
            rcases this with rfl | rfl <;> (unfold Geo.val; rw [hy]; simp)
        · exact hs.sat s g
      · obtain ⟨p, hp, rfl⟩ := List.mem_map.mp g
        have := h p hp
        rw [val_sub]
        omega
    · unfold pins at g
      simp only [List.mem_flatten, List.mem_map, List.mem_range] at g
      obtain ⟨l, ⟨i, hi, rfl⟩, g⟩ := g
      have g : s = pinA P i ∨ s = pinB P i := by simpa using g
      unfold pinA pinB at g
      by_cases h0 : i = 0
      · rw [if_pos h0, if_pos h0] at g
        rcases g with rfl | rfl <;> (unfold Geo.val; dsimp only; grind)
      · rw [if_neg h0, if_neg h0] at g
        rcases g with rfl | rfl <;> (unfold Geo.val; dsimp only; grind)
end K18
/-! k18: a region cut down to a setting, read -/
namespace K18
open PySem PySem.Spec PyProof.Rows L2 L3
def unitP (m i : Nat) (q : Int) : List Int := (List.range m).map fun j => q * if j = i then 1 else 0
theorem pinA_eD {m i : Nat} {P : Gt} (hm : Dim m) (hi : i < m) : ∃ x, (ePt m P).2[i]? = some x ∧ D.tup [.int (0 - x), .tup ((unitP m i P.q).map D.int)] = eD m (pinA P i) ∧ D.tup [.int x, .tup ((unitP m i P.q).map fun y => D.int (0 - y))] = eD m (pinB P i) := by
  have z : ∀ a : Int, a * 1 = a := Int.mul_one
  rcases hm with rfl | rfl
  · have : i = 0 := by omega
    subst this
    refine ⟨P.x, rfl, ?_, ?_⟩
    · show D.tup [.int (0 - P.x), .tup [.int (P.q * 1)]] = .tup [.int (-P.x), .tup [.int P.q]]
      rw [Int.zero_sub, Int.mul_one]
    · show D.tup [.int P.x, .tup [.int (0 - P.q * 1)]] = .tup [.int P.x, .tup [.int (-P.q)]]
      rw [Int.mul_one, Int.zero_sub]
  · rcases (by omega : i = 0 ∨ i = 1) with rfl | rfl
    · refine ⟨P.x, rfl, ?_, ?_⟩
      · show D.tup [.int (0 - P.x), .tup [.int (P.q * 1), .int (P.q * 0)]] = .tup [.int (-P.x), .tup [.int P.q, .int 0]]
        rw [Int.zero_sub, Int.mul_one, Int.mul_zero]
      · show D.tup [.int P.x, .tup [.int (0 - P.q * 1), .int (0 - P.q * 0)]] = .tup [.int P.x, .tup [.int (-P.q), .int 0]]
        rw [Int.mul_one, Int.mul_zero, Int.zero_sub]
        rfl
    · refine ⟨P.y, rfl, ?_, ?_⟩
      · show D.tup [.int (0 - P.y), .tup [.int (P.q * 0), .int (P.q * 1)]] = .tup [.int (-P.y), .tup [.int 0, .int P.q]]
        rw [Int.zero_sub, Int.mul_one, Int.mul_zero]
      · show D.tup [.int P.y, .tup [.int (0 - P.q * 0), .int (0 - P.q * 1)]] = .tup [.int P.y, .tup [.int 0, .int (-P.q)]]
        rw [Int.mul_one, Int.mul_zero, Int.zero_sub, Int.zero_sub]
        rfl
theorem rep_nil_app {S T : List Gt} (h : Geo.Rep S []) : Geo.Rep (S ++ T) [] := by
  cases h with
  | emp h => exact .emp fun X hq hX => h X hq fun s hs => hX s (List.mem_append_left _ hs)
theorem eqv_tnil (m : Nat) (H : List Gt) : PyData.eqv (D.tup (H.map (eD m))).py (D.tup []).py = decide (H = []) := by
  cases H with
  | nil => simp [D.py, pyA, PyData.eqv, PyData.eqvAll]
  | cons a l => simp [D.py, pyA, PyData.eqv, PyData.eqvAll]
theorem shaped_tnil : SeqAt.shaped (D.tup []).py = true := shaped_tup 2 []
section
variable {s2 s4 s5 s6 s7 s8 s9 s10 s11 s12 s13 s18 s21 : Slot} {m : Nat} {P : Gt} {T : Nat} {E : Ends3}
/-- the two cuts at one number of the setting -/
theorem read_f1 {i : Nat} {S H : List Gt} (hm : Dim m) (hi : i < m) (hb : Base m S H) (hn : H.length ≤ 30) (pa : Pln m (pinA P i)) (pb : Pln m (pinB P i))
    (fin : ∀ H', Base m (S ++ [pinA P i] ++ [pinB P i]) H' → H'.length ≤ max 4 (H.length + 2) → E.nx ⟨[.un, .val .pen, s2, .val (.int (m : Nat)), s4, s5, s6, s7, s8, s9, s10, s11, s12, s13, .un, .un, .un, .val (eD m P), s18, .val (.tup (H'.map (eD m))), .val (.int (i : Nat)), .val (.tup ((unitP m i P.q).map D.int))], T⟩) :
    t_law_f1 E ⟨[.un, .val .pen, s2, .val (.int (m : Nat)), s4, s5, s6, s7, s8, s9, s10, s11, s12, s13, .un, .un, .un, .val (eD m P), s18, .val (.tup (H.map (eD m))), .val (.int (i : Nat)), .val (.tup ((unitP m i P.q).map D.int))], T⟩ := by
  obtain ⟨x, ex, eA, eB⟩ := pinA_eD (P := P) hm hi
  have ax : atI ((ePt m P).2.map D.int) ((i : Nat) : Int) = some (.int x) := atI_nat (by rw [List.getElem?_map, ex]; rfl)
  refine ⟨by show 0 ≤ sizeLine; decide, shaped_tup m H, shaped_tnil, ?_⟩
  show (match !PyData.eqv (D.tup (H.map (eD m))).py (D.tup []).py with | true => _ | false => _)
  rw [eqv_tnil]
  by_cases h0 : H = []
  · rw [decide_eq_true h0]
    refine ⟨by show 0 ≤ sizeLine; decide, ?_⟩
    subst h0
    refine fin [] ⟨?_, fun s hs => ?_, fun s hs => List.mem_append_left _ (List.mem_append_left _ (hb.x1 s hs))⟩ (by simp)
    · rw [List.append_assoc]; exact rep_nil_app hb.rep
    · exact box_app (box_app hb.box pa) pb s hs
  · rw [decide_eq_false h0]
    show optK (atI ((ePt m P).2.map D.int) ((i : Nat) : Int)) _
    rw [ax]
    refine ⟨by show 2 ≤ sizeLine; decide, rfl, ?_⟩
    show s_cut [.tup (H.map (eD m)), .tup [.int (0 - x), .tup ((unitP m i P.q).map D.int)]] T _
    rw [eA]
    refine cut_base hm hb pa (by omega) fun r hr hl => ?_
    show optK (atI ((ePt m P).2.map D.int) ((i : Nat) : Int)) _
    rw [ax]
    refine lcGo_map D.int (fun y => D.int (0 - y)) (unitP m i P.q) [] (fun y hy K K2 hK => hK _ rfl) (by unfold unitP; rw [List.length_nil, List.length_map, List.length_range]; exact line_of (by rcases hm with rfl | rfl <;> decide)) ?_
    rw [List.nil_append]
    refine ⟨by show 2 ≤ sizeLine; decide, rfl, ?_⟩
    show s_cut [.tup (r.map (eD m)), .tup [.int x, .tup ((unitP m i P.q).map fun y => D.int (0 - y))]] T _
    rw [eB]
    refine cut_base hm hr pb (by omega) fun r' hr' hl' => ?_
    exact fin r' hr' (by omega)
theorem read_f2 {i : Nat} {S H : List Gt} (hm : Dim m) (hi : i < m) (hb : Base m S H) (hn : H.length ≤ 30) (hq : Bd 14 P.q) (pa : Pln m (pinA P i)) (pb : Pln m (pinB P i))
    (fin : ∀ H' s21, Base m (S ++ [pinA P i] ++ [pinB P i]) H' → H'.length ≤ max 4 (H.length + 2) → E.nx ⟨[.un, .val .pen, s2, .val (.int (m : Nat)), s4, s5, s6, s7, s8, s9, s10, s11, s12, s13, .un, .un, .un, .val (eD m P), s18, .val (.tup (H'.map (eD m))), .val (.int (i : Nat)), s21], T⟩) :
    t_law_f2 E ⟨[.un, .val .pen, s2, .val (.int (m : Nat)), s4, s5, s6, s7, s8, s9, s10, s11, s12, s13, .un, .un, .un, .val (eD m P), s18, .val (.tup (H.map (eD m))), .val (.int (i : Nat)), s21], T⟩ := by
  refine ⟨⟨by omega, by rcases hm with rfl | rfl <;> decide⟩, ?_⟩
  show lcGo _ _ _ _ (upto 0 ((m : Nat) : Int).toNat) [] _ _
  rw [Int.toNat_natCast, upto_nat]
  refine lcGo_map (fun j : Nat => D.int ((j : Nat) : Int)) (fun j : Nat => D.int (P.q * if j = i then 1 else 0)) (List.range m) [] (fun j hj K K2 hK => ?_) (by rw [List.length_nil, List.length_range]; exact line_of (by rcases hm with rfl | rfl <;> decide)) ?_
  · refine ⟨shaped_int (j : Nat), shaped_int (i : Nat), ?_⟩
    have e : (if decide (((j : Nat) : Int) = ((i : Nat) : Int)) = true then (1 : Int) else 0) = if j = i then 1 else 0 := by
      by_cases h : j = i
      · subst h; simp
      · have : ¬ ((j : Nat) : Int) = ((i : Nat) : Int) := by omega
        simp [h, this]
    have b1 : Bd 1 (if PyData.eqv (.int ((j : Nat) : Int)) (.int ((i : Nat) : Int)) = true then (1 : Int) else 0) := by
      show Int.natAbs _ < 2 ^ 1
      split <;> decide
    refine ⟨hq.cmul b1 (by decide) (by decide) (by decide), ?_⟩
    show K (.int (P.q * if PyData.eqv (.int ((j : Nat) : Int)) (.int ((i : Nat) : Int)) = true then 1 else 0)) _
    rw [eqv_int, e]
    exact hK _ rfl
  · rw [List.nil_append]
    have e : (List.range m).map (fun j : Nat => D.int (P.q * if j = i then 1 else 0)) = (unitP m i P.q).map D.int := by
      unfold unitP
      rw [List.map_map]
      rfl
    rw [e]
    exact read_f1 hm hi hb hn pa pb fun H' h1 h2 => fin H' _ h1 h2
/-- all numbers of the setting, one after another -/
theorem loop_f2 {ops : List (Int × Int)} (hd : Dim ops.length) (hs : Seat ops P) : ∀ (n j : Nat) (S H : List Gt) (s20 s21 : Slot), j + n = ops.length → Base ops.length (S ++ pins P j) H → H.length + 2 * n ≤ 30 →
    (∀ H' s20 s21, Base ops.length (S ++ pins P ops.length) H' → E.nx ⟨[.un, .val .pen, s2, .val (.int (ops.length : Nat)), s4, s5, s6, s7, s8, s9, s10, s11, s12, s13, .un, .un, .un, .val (eD ops.length P), s18, .val (.tup (H'.map (eD ops.length))), s20, s21], T⟩) →
    loop3 (gName3 20) t_law_f2 (((List.range n).map fun i => D.int ((j + i : Nat) : Int))) E ⟨[.un, .val .pen, s2, .val (.int (ops.length : Nat)), s4, s5, s6, s7, s8, s9, s10, s11, s12, s13, .un, .un, .un, .val (eD ops.length P), s18, .val (.tup (H.map (eD ops.length))), s20, s21], T⟩
  | 0, j, S, H, s20, s21, e, hb, hn, h => by
    rw [Nat.add_zero] at e
    rw [e] at hb
    exact h H s20 s21 hb
  | n + 1, j, S, H, s20, s21, e, hb, hn, h => by
    obtain ⟨pa, pb⟩ := pin_pln (i := j) hs (by omega) hd
    have eL : (List.range (n + 1)).map (fun i => D.int ((j + i : Nat) : Int)) = .int ((j : Nat) : Int) :: (List.range n).map fun i => D.int ((j + 1 + i : Nat) : Int) := by
      rw [List.range_succ_eq_map, List.map_cons, List.map_map]
      refine congr (congrArg List.cons rfl) (List.map_congr_left fun i _ => ?_)
      show D.int ((j + (i + 1) : Nat) : Int) = D.int ((j + 1 + i : Nat) : Int)
      rw [show j + (i + 1) = j + 1 + i by omega]
    rw [eL]
    have hq : Bd 14 P.q := bd_wee (by have := hs.low.pos; have := hs.few; omega)
    refine read_f2 hd (by omega) hb (by omega) hq pa pb fun H' s21 h1 h2 => ?_
    refine loop_f2 hd hs n (j + 1) S H' _ s21 (by omega) ?_ (by rcases hd with e' | e' <;> omega) h
    rw [pins_succ, ← List.append_assoc, ← List.append_assoc]
    exact h1
end
end K18
/-! k18: the settings of a turn, read -/
namespace K18
open PySem PySem.Spec PyProof.Rows L2 L3
theorem shaped_bl (b : Bool) : SeqAt.shaped (D.bl b).py = true := by
  unfold SeqAt.shaped
  simp [D.py, PyData.canLay0, PyData.depth]
theorem eqv_bl (a b : Bool) : PyData.eqv (D.bl a).py (D.bl b).py = (a == b) := by
  simp [D.py, PyData.eqv]
theorem shaped_two (m : Nat) (P : Gt) : SeqAt.shaped (D.tup [.tup [], .tup [eD m P]]).py = true := by
  obtain ⟨h1, h2⟩ := lay_eD m P
  unfold SeqAt.shaped
  simp only [D.py, pyA, PyData.canLay0, PyData.canLayAll0, PyData.depth, PyData.depthAll, h1, Bool.true_and, Bool.and_true]
  exact decide_eq_true (by omega)
theorem max_iff {ps : List Gt} {pa P : Gt} {M : Int} (hp : pa ∈ ps) (hM : M ∈ ps.map fun p => Geo.val p P) (hle : ∀ y ∈ ps.map (fun p => Geo.val p P), y ≤ M) : (∀ p ∈ ps, Geo.val p P ≤ Geo.val pa P) ↔ Geo.val pa P = M := by
  constructor
  · intro h
    obtain ⟨p, h1, rfl⟩ := List.mem_map.mp hM
    have := h p h1
    have := hle (Geo.val pa P) (List.mem_map.mpr ⟨pa, hp, rfl⟩)
    omega
  · intro h p hp
    rw [h]
    exact hle _ (List.mem_map.mpr ⟨p, hp, rfl⟩)
section
variable {s2 s4 s5 s6 s7 s8 s9 s10 s11 s12 s13 s17 s18 s19 s20 s21 : Slot} {m : Nat} {P : Gt} {T : Nat} {E : Ends3}
theorem read_f3 {ps H : List Gt} {pa : Gt} {a : Nat} (ha : ps[a]? = some pa) (h1 : H = [] ∨ H = [P]) (h2 : H ≠ [] ↔ ∀ p ∈ ps, Geo.val p P ≤ Geo.val pa P)
    (fin : E.nx ⟨[.un, .val .pen, s2, .val (.int (m : Nat)), s4, s5, .val (.int (a : Nat)), s7, s8, s9, s10, s11, s12, s13, .un, .un, .un, .val (eD m P), .val (.lst (ps.map fun p => .int (Geo.val p P))), .val (.tup (H.map (eD m))), s20, s21], T⟩) :
    t_law_f3 E ⟨[.un, .val .pen, s2, .val (.int (m : Nat)), s4, s5, .val (.int (a : Nat)), s7, s8, s9, s10, s11, s12, s13, .un, .un, .un, .val (eD m P), .val (.lst (ps.map fun p => .int (Geo.val p P))), .val (.tup (H.map (eD m))), s20, s21], T⟩ := by
  have pm : pa ∈ ps := List.mem_of_getElem? ha
  have va : atI (ps.map fun p => D.int (Geo.val p P)) ((a : Nat) : Int) = some (.int (Geo.val pa P)) := atI_nat (by rw [List.getElem?_map, ha]; rfl)
  have en : ps.map (fun p => D.int (Geo.val p P)) = (ps.map fun p => Geo.val p P).map D.int := by rw [List.map_map]; rfl
  refine ⟨by show 0 ≤ sizeLine; decide, shaped_tup m H, shaped_tnil, ?_⟩
  show optK (atI (ps.map fun p => D.int (Geo.val p P)) ((a : Nat) : Int)) _
  rw [va]
  refine ⟨ps.map fun p => Geo.val p P, by rw [en]; exact allInts_of _, ?_, fun M hM hle => ?_⟩
  · rw [List.length_map]; exact List.length_pos_of_mem pm
  refine ⟨shaped_int (Geo.val pa P), shaped_int M, ?_⟩
  refine ⟨shaped_bl _, shaped_bl _, ?_⟩
  show (match !PyData.eqv (D.bl (!PyData.eqv (D.tup (H.map (eD m))).py (D.tup []).py)).py (D.bl (PyData.eqv (.int (Geo.val pa P)) (.int M))).py with | true => _ | false => _)
  rw [eqv_bl, eqv_tnil, eqv_int]
  have mi := max_iff pm hM hle
  have e : ((!decide (H = [])) == decide (Geo.val pa P = M)) = true := by
    by_cases hH : H = []
    · have : ¬ Geo.val pa P = M := fun z => (h2.mpr (mi.mpr z)) hH
      simp [hH, this]
    · have : Geo.val pa P = M := mi.mp (h2.mp hH)
      simp [hH, this]
  rw [e]
  refine ⟨by show 0 ≤ sizeLine; decide, by show 1 ≤ sizeLine; decide, by show 2 ≤ sizeLine; decide, shaped_tup m H, shaped_two m P, ?_⟩
  show (match !(pyA [D.tup [], .tup [eD m P]]).any (fun z => PyData.eqv z (D.tup (H.map (eD m))).py) with | true => _ | false => _)
  have e2 : (pyA [D.tup [], .tup [eD m P]]).any (fun z => PyData.eqv z (D.tup (H.map (eD m))).py) = true := by
    rcases h1 with rfl | rfl
    · simp [pyA, D.py, PyData.eqv, PyData.eqvAll]
    · have := eqv_refl (D.tup [eD m P]).py (lay_of (shaped_tup m [P]))
      simp only [pyA, List.any_cons, List.any_nil, Bool.or_false, Bool.or_eq_true]
      exact .inr this
  rw [e2]
  exact fin
structure Turn (ops : List (Int × Int)) (ps : List Gt) : Prop where
  dim : Dim ops.length
  op : ∀ o ∈ ops, Op o
  sml : ∀ p ∈ ps, Sml ops.length p
  few : ps.length ≤ 7
  some : ps ≠ []
theorem read_f5 {ops : List (Int × Int)} {ps : List Gt} {pa : Gt} {a : Nat} (t : Turn ops ps) (hs : Seat ops P) (ha : ps[a]? = some pa)
    (fin : ∀ s19 s20 s21, E.nx ⟨[.un, .val .pen, s2, .val (.int (ops.length : Nat)), s4, s5, .val (.int (a : Nat)), s7, .val (.tup ((win ops).map (eD ops.length))), .val (.lst (ps.map (eD ops.length))), s10, s11, s12, s13, .un, .un, .un, .val (eD ops.length P), .val (.lst (ps.map fun p => .int (Geo.val p P))), s19, s20, s21], T⟩) :
    t_law_f5 E ⟨[.un, .val .pen, s2, .val (.int (ops.length : Nat)), s4, s5, .val (.int (a : Nat)), s7, .val (.tup ((win ops).map (eD ops.length))), .val (.lst (ps.map (eD ops.length))), s10, s11, s12, s13, .un, .un, .un, .val (eD ops.length P), .val (.lst (ps.map fun p => .int (Geo.val p P))), s19, s20, s21], T⟩ := by
  have wl := win_len (ops := ops)
  have few := t.few
  have bw := base_win t.dim t.op
  have pm : pa ∈ ps := List.mem_of_getElem? ha
  refine ⟨rfl, ops.length, _, win ops, ps, _, a, pa, rfl, .inl rfl, t.dim, bw, t.sml, ha, by omega, fun r hr hl => ?_⟩
  refine ⟨⟨by omega, by rcases t.dim with e | e <;> omega⟩, ?_⟩
  show loop3 _ _ (upto 0 ((ops.length : Nat) : Int).toNat) _ _
  rw [Int.toNat_natCast, upto_nat]
  have eR : (List.range ops.length).map (fun i => D.int ((i : Nat) : Int)) = (List.range ops.length).map fun i => D.int ((0 + i : Nat) : Int) := List.map_congr_left fun i _ => by rw [Nat.zero_add]
  rw [eR]
  have base0 : Base ops.length ((X1 ops.length ++ edges ops ++ ps.map (sub · pa)) ++ pins P 0) r := by
    have e0 : pins P 0 = [] := rfl
    rw [e0, List.append_nil]
    refine ⟨hr, fun s hs => ?_, fun s hs => List.mem_append_left _ (bw.x1 s hs)⟩
    rcases List.mem_append.mp hs with g | g
    · exact bw.box s g
    · obtain ⟨p, hp, rfl⟩ := List.mem_map.mp g
      exact (sml_sub (t.sml p hp) (t.sml pa pm)).box
  refine loop_f2 t.dim hs ops.length 0 _ r _ _ (by omega) base0 (by rcases t.dim with e | e <;> omega) fun H' s20 s21 hb => ?_
  obtain ⟨h1, h2⟩ := held_end t.dim hs hb.rep
  exact read_f3 ha h1 h2 (fin _ _ _)
theorem loop_f5 {ops : List (Int × Int)} {ps : List Gt} (t : Turn ops ps) (hs : Seat ops P) : ∀ (n j : Nat) (d6 : D) (s19 s20 s21 : Slot), j + n = ps.length →
    (∀ d6 s19 s20 s21, E.nx ⟨[.un, .val .pen, s2, .val (.int (ops.length : Nat)), s4, s5, .val d6, s7, .val (.tup ((win ops).map (eD ops.length))), .val (.lst (ps.map (eD ops.length))), s10, s11, s12, s13, .un, .un, .un, .val (eD ops.length P), .val (.lst (ps.map fun p => .int (Geo.val p P))), s19, s20, s21], T⟩) →
    loop3 (gName3 6) t_law_f5 ((List.range n).map fun i => D.int ((j + i : Nat) : Int)) E ⟨[.un, .val .pen, s2, .val (.int (ops.length : Nat)), s4, s5, .val d6, s7, .val (.tup ((win ops).map (eD ops.length))), .val (.lst (ps.map (eD ops.length))), s10, s11, s12, s13, .un, .un, .un, .val (eD ops.length P), .val (.lst (ps.map fun p => .int (Geo.val p P))), s19, s20, s21], T⟩
  | 0, j, d6, s19, s20, s21, e, h => h d6 s19 s20 s21
  | n + 1, j, d6, s19, s20, s21, e, h => by
    have eL : (List.range (n + 1)).map (fun i => D.int ((j + i : Nat) : Int)) = .int ((j : Nat) : Int) :: (List.range n).map fun i => D.int ((j + 1 + i : Nat) : Int) := by
      rw [List.range_succ_eq_map, List.map_cons, List.map_map]
      refine congr (congrArg List.cons rfl) (List.map_congr_left fun i _ => ?_)
      show D.int ((j + (i + 1) : Nat) : Int) = D.int ((j + 1 + i : Nat) : Int)
      rw [show j + (i + 1) = j + 1 + i by omega]
    rw [eL]
    have hj : ps[j]? = some (ps[j]'(by omega)) := List.getElem?_eq_getElem (by omega)
    refine read_f5 t hs hj fun s19 s20 s21 => ?_
    exact loop_f5 t hs n (j + 1) _ s19 s20 s21 (by omega) h
/-- one setting -/
theorem read_f8 {ops : List (Int × Int)} {ps : List Gt} {d6 d12 : D} (t : Turn ops ps) (hT : T ≤ 900000)
    (fin : ∀ d6 T' s17 s18 s19 s20 s21, T' ≤ T + 3 → E.nx ⟨[.un, .val .pen, s2, .val (.int (ops.length : Nat)), s4, .val (.lst (ops.map opD)), .val d6, s7, .val (.tup ((win ops).map (eD ops.length))), .val (.lst (ps.map (eD ops.length))), s10, s11, .val d12, s13, .un, .un, .un, s17, s18, s19, s20, s21], T'⟩) :
    t_law_f8 E ⟨[.un, .val .pen, s2, .val (.int (ops.length : Nat)), s4, .val (.lst (ops.map opD)), .val d6, s7, .val (.tup ((win ops).map (eD ops.length))), .val (.lst (ps.map (eD ops.length))), s10, s11, .val d12, s13, .un, .un, .un, s17, s18, s19, s20, s21], T⟩ := by
  have few := t.few
  refine ⟨rfl, ops, rfl, t.dim, t.op, show T ≤ 999000 by omega, fun P T1 hT1 hs => ?_⟩
  have hT1 : T1 ≤ T + 3 := hT1
  have hq := hs.low.pos
  have hq7 := hs.few
  have p1 : Bd 14 P.q := bd_wee (by omega)
  have p2 : ∀ n ∈ (ePt ops.length P).2, Bd 14 n := fun n hn => by
    have wx := hs.wx
    have wy := hs.wy
    rcases ePt_mem t.dim n hn with e | e
    · rw [e]; exact bd_wee (by omega)
    · rw [e]; exact bd_wee (by omega)
  refine lcGo_map (eD ops.length) (fun p => D.int (Geo.val p P)) ps [] (fun p hp K K2 hK => ?_) (by rw [List.length_nil]; exact line_of (by omega)) ?_
  · obtain ⟨a1, a2, a3, a4⟩ := t.sml p hp
    refine ⟨rfl, ePt ops.length p, ePt ops.length P, rfl, ?_, p1.mono (by decide), fun n hn => ?_, fun n hn => (p2 n hn).mono (by decide), ?_, ?_⟩
    · exact (bd_wee (by omega) : Bd 14 p.q).mono (by decide)
    · rcases ePt_mem t.dim n hn with e | e
      · rw [e]; exact (bd_wee (by omega) : Bd 14 p.x).mono (by decide)
      · rw [e]; exact (bd_wee (by omega) : Bd 14 p.y).mono (by decide)
    · rw [ePt_dim t.dim]; rcases t.dim with e | e <;> omega
    · rw [value_eD t.dim a4 hs.flat]
      exact hK _ rfl
  · rw [List.nil_append]
    refine ⟨⟨by show -(2 ^ 62) ≤ (((ps.map (eD ops.length)).length : Nat) : Int); omega, by show (((ps.map (eD ops.length)).length : Nat) : Int) < 2 ^ 62; rw [List.length_map]; omega⟩, ?_⟩
    show loop3 _ _ (upto 0 (((ps.map (eD ops.length)).length : Nat) : Int).toNat) _ _
    rw [List.length_map, Int.toNat_natCast, upto_nat]
    have eR : (List.range ps.length).map (fun i => D.int ((i : Nat) : Int)) = (List.range ps.length).map fun i => D.int ((0 + i : Nat) : Int) := List.map_congr_left fun i _ => by rw [Nat.zero_add]
    rw [eR]
    exact loop_f5 t hs ps.length 0 d6 s19 s20 s21 (by omega) fun d6 s19 s20 s21 => fin d6 T1 _ _ _ _ _ (by omega)
/-- all settings of a turn -/
theorem loop_f8 {ops : List (Int × Int)} {ps : List Gt} {d12 : D} (t : Turn ops ps) : ∀ (n : Nat) (ls : List D) (T : Nat) (d6 : D) (s10 s17 s18 s19 s20 s21 : Slot), ls.length = n → T + 3 * n ≤ 900000 → (s10 = .un ∨ ∃ d, s10 = .val d) →
    (∀ d6 T' s10 s17 s18 s19 s20 s21, T' ≤ T + 3 * n → (s10 = .un ∨ ∃ d, s10 = .val d) → E.nx ⟨[.un, .val .pen, s2, .val (.int (ops.length : Nat)), s4, .val (.lst (ops.map opD)), .val d6, s7, .val (.tup ((win ops).map (eD ops.length))), .val (.lst (ps.map (eD ops.length))), s10, s11, .val d12, s13, .un, .un, .un, s17, s18, s19, s20, s21], T'⟩) →
    loop3 (gName3 10) t_law_f8 ls E ⟨[.un, .val .pen, s2, .val (.int (ops.length : Nat)), s4, .val (.lst (ops.map opD)), .val d6, s7, .val (.tup ((win ops).map (eD ops.length))), .val (.lst (ps.map (eD ops.length))), s10, s11, .val d12, s13, .un, .un, .un, s17, s18, s19, s20, s21], T⟩
  | 0, [], T, d6, s10, s17, s18, s19, s20, s21, e, hT, h10, h => h d6 T s10 s17 s18 s19 s20 s21 (by omega) h10
  | n + 1, l :: ls, T, d6, s10, s17, s18, s19, s20, s21, e, hT, h10, h => by
    refine read_f8 (T := T) t (by omega) fun d6 T1 s17 s18 s19 s20 s21 hT1 => ?_
    exact loop_f8 t n ls T1 d6 _ s17 s18 s19 s20 s21 (by simpa using e) (by omega) (.inr ⟨_, rfl⟩) fun d6 T' s10 s17 s18 s19 s20 s21 hT' h10 => h d6 T' s10 s17 s18 s19 s20 s21 (by omega) h10
end
end K18
/-! k18: each region by own corners, read -/
namespace K18
open PySem PySem.Spec PyProof.Rows L2 L3
theorem eqv_tup (m : Nat) (r : List Gt) : PyData.eqv (D.tup (r.map (eD m))).py (D.tup (r.map (eD m))).py = true := eqv_refl _ (lay_of (shaped_tup m r))
def furth (ps : List Gt) (pa : Gt) : List Gt := ps.map (sub · pa)
/-- the row is that of the region of pa -/
def IsReg (ops : List (Int × Int)) (ps : List Gt) (pa : Gt) (r : List Gt) : Prop := Geo.Rep (X1 ops.length ++ edges ops ++ furth ps pa) r
section
variable {s2 s6 s7 s10 s11 s13 s17 s18 s19 s20 s21 : Slot} {T : Nat} {E : Ends3} {ops : List (Int × Int)} {ps : List Gt} {rs : List (List Gt)} {pa : Gt} {r : List Gt} {a : Nat}
abbrev toldD (m : Nat) (rs : List (List Gt)) : D := .lst (rs.map fun r => .tup (r.map (eD m)))
theorem edges_len (hd : Dim ops.length) : 1 ≤ (edges ops).length ∧ (edges ops).length ≤ 4 := by
  match ops, hd with
  | [], hd => exact absurd hd (by unfold Dim; simp)
  | [a], _ => simp [edges]
  | [a, b], _ => simp [edges]
  | _ :: _ :: _ :: _, hd => exact absurd hd (by unfold Dim; simp)
theorem read_f9 (t : Turn ops ps) (ha : ps[a]? = some pa) (hr : rs[a]? = some r) (reg : IsReg ops ps pa r)
    (fin : E.nx ⟨[.un, .val .pen, s2, .val (.int (ops.length : Nat)), .val (.lst ((edges ops).map (eD ops.length))), .val (.lst (ops.map opD)), .val (.int (a : Nat)), s7, .val (.tup ((win ops).map (eD ops.length))), .val (.lst (ps.map (eD ops.length))), s10, .val (toldD ops.length rs), .val (eD ops.length pa), .val (.lst ((furth ps pa).map (eD ops.length))), .un, .un, .un, s17, s18, s19, s20, s21], T⟩) :
    t_law_f9 E ⟨[.un, .val .pen, s2, .val (.int (ops.length : Nat)), .val (.lst ((edges ops).map (eD ops.length))), .val (.lst (ops.map opD)), .val (.int (a : Nat)), s7, .val (.tup ((win ops).map (eD ops.length))), .val (.lst (ps.map (eD ops.length))), s10, .val (toldD ops.length rs), .val (eD ops.length pa), .val (.lst ((furth ps pa).map (eD ops.length))), .un, .un, .un, s17, s18, s19, s20, s21], T⟩ := by
  have few := t.few
  obtain ⟨e1, e4⟩ := edges_len t.dim
  have pm : pa ∈ ps := List.mem_of_getElem? ha
  have fl : (furth ps pa).length = ps.length := List.length_map ..
  have ar : atI (rs.map fun r => D.tup (r.map (eD ops.length))) ((a : Nat) : Int) = some (.tup (r.map (eD ops.length))) := atI_nat (by rw [List.getElem?_map, hr]; rfl)
  have wl := win_len (ops := ops)
  have bw := base_win t.dim t.op
  show optK (atI (rs.map fun r => D.tup (r.map (eD ops.length))) ((a : Nat) : Int)) _
  rw [ar]
  refine ⟨by rw [List.length_map, List.length_map]; exact line_of (by omega), rfl, ops.length, edges ops ++ furth ps pa, r, ?_, t.dim, fun s hs => ?_, by rw [List.length_append]; omega, by rw [List.length_append]; omega, by rw [← List.append_assoc]; exact reg, ?_⟩
  · rw [List.map_append]
  · rcases List.mem_append.mp hs with g | g
    · exact edge_pln t.op s g
    · obtain ⟨p, hp, rfl⟩ := List.mem_map.mp g
      exact sml_sub (t.sml p hp) (t.sml pa pm)
  refine ⟨shaped_tup _ r, shaped_tup _ r, ?_⟩
  show (match !PyData.eqv (D.tup (r.map (eD ops.length))).py (D.tup (r.map (eD ops.length))).py with | true => _ | false => _)
  rw [eqv_tup]
  refine ⟨rfl, ops.length, _, win ops, ps, _, a, pa, rfl, .inr rfl, t.dim, bw, t.sml, ha, by omega, fun r' hr' hl' => ?_⟩
  have er : r' = r := rep_uniq hr' reg
  subst er
  show optK (atI (rs.map fun r => D.tup (r.map (eD ops.length))) ((a : Nat) : Int)) _
  rw [ar]
  refine ⟨shaped_tup _ r', shaped_tup _ r', ?_⟩
  show (match !PyData.eqv (D.tup (r'.map (eD ops.length))).py (D.tup (r'.map (eD ops.length))).py with | true => _ | false => _)
  rw [eqv_tup]
  exact fin
theorem read_f10 (t : Turn ops ps) (ha : ps[a]? = some pa) (hr : rs[a]? = some r) (reg : IsReg ops ps pa r)
    (fin : ∀ s13, E.nx ⟨[.un, .val .pen, s2, .val (.int (ops.length : Nat)), .val (.lst ((edges ops).map (eD ops.length))), .val (.lst (ops.map opD)), .val (.int (a : Nat)), s7, .val (.tup ((win ops).map (eD ops.length))), .val (.lst (ps.map (eD ops.length))), s10, .val (toldD ops.length rs), .val (eD ops.length pa), s13, .un, .un, .un, s17, s18, s19, s20, s21], T⟩) :
    t_law_f10 E ⟨[.un, .val .pen, s2, .val (.int (ops.length : Nat)), .val (.lst ((edges ops).map (eD ops.length))), .val (.lst (ops.map opD)), .val (.int (a : Nat)), s7, .val (.tup ((win ops).map (eD ops.length))), .val (.lst (ps.map (eD ops.length))), s10, .val (toldD ops.length rs), .val (eD ops.length pa), s13, .un, .un, .un, s17, s18, s19, s20, s21], T⟩ := by
  have few := t.few
  refine lcGo_map (eD ops.length) (fun p => eD ops.length (sub p pa)) ps [] (fun p hp K K2 hK => ?_) (by rw [List.length_nil]; exact line_of (by omega)) ?_
  · show lcGo _ _ _ _ (pairUp ((ePt ops.length p).2.map D.int) ((ePt ops.length pa).2.map D.int)) [] _ _
    rw [pairUp_ints]
    refine lcGo_map (fun q : Int × Int => D.tup [.int q.1, .int q.2]) (fun q : Int × Int => D.int (q.1 - q.2)) ((ePt ops.length p).2.zip (ePt ops.length pa).2) [] (fun q hq K K2 hK => ?_) ?_ ?_
    · exact ⟨rfl, hK _ rfl⟩
    · have := zip_len (a := p) (b := pa) t.dim
      rw [List.length_nil]
      exact line_of (by omega)
    · rw [List.nil_append]
      refine ⟨by show 2 ≤ sizeLine; decide, ?_⟩
      have e := sub_eD (a := p) (b := pa) t.dim
      show K (.tup [.int (p.q - pa.q), .tup (((ePt ops.length p).2.zip (ePt ops.length pa).2).map fun q : Int × Int => D.int (q.1 - q.2))]) _
      rw [← e]
      exact hK _ rfl
  · rw [List.nil_append]
    have e : ps.map (fun p => eD ops.length (sub p pa)) = (furth ps pa).map (eD ops.length) := by
      unfold furth
      rw [List.map_map]
      rfl
    rw [e]
    exact read_f9 t ha hr reg (fin _)
/-- all planes, one after another -/
theorem loop_f10 (t : Turn ops ps) (hreg : ∀ (a : Nat) (pa : Gt), ps[a]? = some pa → ∃ r, rs[a]? = some r ∧ IsReg ops ps pa r) : ∀ (qs : List Gt) (j : Nat) (d6 d12 : D) (s13 : Slot), ps.drop j = qs →
    (∀ d6 d12 s13, E.nx ⟨[.un, .val .pen, s2, .val (.int (ops.length : Nat)), .val (.lst ((edges ops).map (eD ops.length))), .val (.lst (ops.map opD)), .val d6, s7, .val (.tup ((win ops).map (eD ops.length))), .val (.lst (ps.map (eD ops.length))), s10, .val (toldD ops.length rs), .val d12, s13, .un, .un, .un, s17, s18, s19, s20, s21], T⟩) →
    loop3 (gTup3 2 (gCons3 (gName3 6) (gCons3 (gName3 12) gNil3))) t_law_f10 (nums j (qs.map (eD ops.length))) E ⟨[.un, .val .pen, s2, .val (.int (ops.length : Nat)), .val (.lst ((edges ops).map (eD ops.length))), .val (.lst (ops.map opD)), .val d6, s7, .val (.tup ((win ops).map (eD ops.length))), .val (.lst (ps.map (eD ops.length))), s10, .val (toldD ops.length rs), .val d12, s13, .un, .un, .un, s17, s18, s19, s20, s21], T⟩
  | [], j, d6, d12, s13, e, h => h d6 d12 s13
  | q :: qs, j, d6, d12, s13, e, h => by
    have hq : ps[j]? = some q := by
      have : (ps.drop j)[0]? = some q := by rw [e]; rfl
      simpa using this
    obtain ⟨r, h1, h2⟩ := hreg j q hq
    refine ⟨rfl, ?_⟩
    refine read_f10 t hq h1 h2 fun s13 => ?_
    have e' : ps.drop (j + 1) = qs := by
      have := congrArg List.tail e
      simpa [List.tail_drop] using this
    exact loop_f10 t hreg qs (j + 1) _ _ s13 e' h
/-- the planes and the settings of a turn -/
theorem read_f12 {d6 : D} {s12 : Slot} (t : Turn ops ps) (hT : T ≤ 800000) (hreg : ∀ (a : Nat) (pa : Gt), ps[a]? = some pa → ∃ r, rs[a]? = some r ∧ IsReg ops ps pa r) (h10 : s10 = .un ∨ ∃ d, s10 = .val d)
    (fin : ∀ s4 s5 s6 s7 s8 s9 s10 s11 s12 s13 s17 s18 s19 s20 s21 T', T' ≤ T + 18 → (s10 = .un ∨ ∃ d, s10 = .val d) → E.nx ⟨[.un, .val .pen, s2, .val (.int (ops.length : Nat)), s4, s5, s6, s7, s8, s9, s10, s11, s12, s13, .un, .un, .un, s17, s18, s19, s20, s21], T'⟩) :
    t_law_f12 E ⟨[.un, .val .pen, s2, .val (.int (ops.length : Nat)), .val (.lst ((edges ops).map (eD ops.length))), .val (.lst (ops.map opD)), .val d6, s7, .val (.tup ((win ops).map (eD ops.length))), .val (.lst (ps.map (eD ops.length))), s10, .val (toldD ops.length rs), s12, s13, .un, .un, .un, s17, s18, s19, s20, s21], T⟩ := by
  have settings : ∀ d6 d12 s13, t_law_f11 E ⟨[.un, .val .pen, s2, .val (.int (ops.length : Nat)), .val (.lst ((edges ops).map (eD ops.length))), .val (.lst (ops.map opD)), .val d6, s7, .val (.tup ((win ops).map (eD ops.length))), .val (.lst (ps.map (eD ops.length))), s10, .val (toldD ops.length rs), .val d12, s13, .un, .un, .un, s17, s18, s19, s20, s21], T⟩ := by
    intro d6 d12 s13
    refine ⟨⟨by decide, by decide⟩, ?_⟩
    exact loop_f8 t 6 (upto 0 6) T d6 s10 s17 s18 s19 s20 s21 (by decide) (by omega) h10 fun d6 T' s10 s17 s18 s19 s20 s21 hT' h10 => fin _ _ _ _ _ _ _ _ _ _ _ _ _ _ _ T' hT' h10
  show loop3 _ _ (nums 0 (ps.map (eD ops.length))) _ _
  match hps : ps, t.some with
  | q :: qs, _ =>
    obtain ⟨r, h1, h2⟩ := hreg 0 q rfl
    refine ⟨rfl, ?_⟩
    refine read_f10 t rfl h1 h2 fun s13 => ?_
    exact loop_f10 (E := { E with nx := t_law_f11 E }) t hreg qs 1 _ _ s13 rfl settings
end
end K18
/-! k18: the planes drawn, the regions told: read -/
namespace K18
open PySem PySem.Spec PyProof.Rows L2 L3
theorem lcGo_drawW {α : Type} {g : G3} {tt : T3} {te : E3} {vs : List Nat} {sl : List Slot} {k : List D → Env3 → Prop} (w M : Nat) (emb : α → D) (Ok : α → D → Prop) : ∀ (xs : List α) (acc : List D) (T : Nat), T + w * xs.length ≤ M →
    (∀ x ∈ xs, ∀ (T : Nat) (K : D → Env3 → Prop) (K2 : Env3 → Prop), T ≤ M → (∀ y T' ρ3, Ok x y → T' ≤ T + w → ρ3.wipe vs = ⟨sl, T'⟩ → K y ρ3) → g (emb x) ⟨sl, T⟩ (fun ρ1 => tt ρ1 (fun b ρ2 => match b with | true => te ρ2 K (fun _ _ => False) | false => K2 ρ2) (fun _ _ => False))) →
    acc.length + xs.length ≤ sizeLine → (∀ ys T', Paired Ok xs ys → T' ≤ T + w * xs.length → k (acc ++ ys) ⟨sl, T'⟩) → lcGo g tt te vs (xs.map emb) acc ⟨sl, T⟩ k
  | [], acc, T, _, _, _, q => by
    have z := q [] T .nil (Nat.le_add_right _ _)
    rw [List.append_nil] at z
    exact z
  | x :: xs, acc, T, hM, h, hz, q => by
    rw [List.map_cons]
    rw [List.length_cons] at hz
    have e : w * (x :: xs).length = w * xs.length + w := by rw [List.length_cons, Nat.mul_succ]
    rw [e] at hM
    refine h x (by simp) T _ _ (by omega) fun y T' ρ3 hy hT e' => ⟨by omega, ?_⟩
    rw [e']
    refine lcGo_drawW w M emb Ok xs _ T' (by omega) (fun z hz => h z (by simp [hz])) (by rw [List.length_append, List.length_cons, List.length_nil]; omega) fun ys T2 hp hT2 => ?_
    rw [List.append_assoc]
    exact q (y :: ys) T2 (.cons hy hp) (by rw [e]; omega)
theorem perm_map {α β : Type} {f : α → β} {ys zs : List β} (h : ys.Perm zs) : ∀ l : List α, zs = l.map f → ∃ l' : List α, l'.Perm l ∧ ys = l'.map f := by
  induction h with
  | nil => intro l e; exact ⟨l, .refl _, e⟩
  | @cons x a b _ ih =>
    intro l e
    cases l with
    | nil => cases e
    | cons y l =>
      obtain ⟨e1, e2⟩ := List.cons.inj e
      obtain ⟨l', h1, h2⟩ := ih l e2
      exact ⟨y :: l', h1.cons y, by rw [List.map_cons, e1, h2]⟩
  | swap x y a =>
    intro l e
    cases l with
    | nil => cases e
    | cons p l =>
      obtain ⟨e1, e2⟩ := List.cons.inj e
      cases l with
      | nil => cases e2
      | cons p' l =>
        obtain ⟨e3, e4⟩ := List.cons.inj e2
        exact ⟨p' :: p :: l, .swap _ _ _, by rw [List.map_cons, List.map_cons, e1, e3, e4]⟩
  | @trans a b c _ _ ih1 ih2 =>
    intro l e
    obtain ⟨l2, h1, h2⟩ := ih2 l e
    obtain ⟨l3, h3, h4⟩ := ih1 l2 h2
    exact ⟨l3, h3.trans h1, h4⟩
theorem paired_at {α β : Type} {R : α → β → Prop} : ∀ {xs : List α} {ys : List β} {i : Nat} {x : α}, Paired R xs ys → xs[i]? = some x → ∃ y, ys[i]? = some y ∧ R x y
  | _, _, _, _, .nil, h => by simp at h
  | _, _, 0, x, .cons h t, e => by
    have e := Option.some.inj e
    subst e
    exact ⟨_, rfl, h⟩
  | _, _, i + 1, x, .cons h t, e => by
    obtain ⟨y, h1, h2⟩ := paired_at t (by simpa using e)
    exact ⟨y, by simpa using h1, h2⟩
theorem paired_rows {m : Nat} {R : Nat → List Gt → Prop} : ∀ {xs : List Nat} {ys : List D}, Paired (fun i y => ∃ r, y = .tup (r.map (eD m)) ∧ R i r) xs ys → ∃ rs : List (List Gt), ys = rs.map (fun r => .tup (r.map (eD m))) ∧ Paired R xs rs
  | _, _, .nil => ⟨[], rfl, .nil⟩
  | _, _, .cons h t => by
    obtain ⟨r, rfl, hr⟩ := h
    obtain ⟨rs, rfl, h2⟩ := paired_rows t
    exact ⟨r :: rs, rfl, .cons hr h2⟩
theorem paired_plns {m : Nat} : ∀ {xs : List Nat} {ys : List D}, Paired (fun _ y => ∃ p, y = eD m p ∧ Sml m p) xs ys → ∃ ps : List Gt, ys = ps.map (eD m) ∧ ps.length = xs.length ∧ ∀ p ∈ ps, Sml m p
  | _, _, .nil => ⟨[], rfl, rfl, by simp⟩
  | _, _, .cons h t => by
    obtain ⟨p, rfl, hp⟩ := h
    obtain ⟨ps, rfl, h2, h3⟩ := paired_plns t
    exact ⟨p :: ps, rfl, by rw [List.length_cons, List.length_cons, h2], fun z hz => by rcases List.mem_cons.mp hz with rfl | hz; exact hp; exact h3 z hz⟩
theorem paired_ints4 : ∀ {xs : List Nat} {ys : List D}, Paired (fun _ y => ∃ n : Int, y = .int n ∧ n.natAbs ≤ 4) xs ys → ∃ ns : List Int, ys = ns.map D.int ∧ ns.length = xs.length ∧ ∀ n ∈ ns, n.natAbs ≤ 4
  | _, _, .nil => ⟨[], rfl, rfl, by simp⟩
  | _, _, .cons h t => by
    obtain ⟨n, rfl, hn⟩ := h
    obtain ⟨ns, rfl, h2, h3⟩ := paired_ints4 t
    exact ⟨n :: ns, rfl, by rw [List.length_cons, List.length_cons, h2], fun z hz => by rcases List.mem_cons.mp hz with rfl | hz; exact hn; exact h3 z hz⟩
section
variable {s2 s6 s7 s8 s9 s11 s12 s13 s17 s18 s19 s20 s21 : Slot} {T : Nat} {E : Ends3} {ops : List (Int × Int)} {ps : List Gt}
theorem read_f13 {d6 : D} {s10 : Slot} (t : Turn ops ps) (hT : T ≤ 800000) (h10 : s10 = .un ∨ ∃ d, s10 = .val d)
    (fin : ∀ s4 s5 s6 s7 s8 s9 s10 s11 s12 s13 s17 s18 s19 s20 s21 T', T' ≤ T + 18 → (s10 = .un ∨ ∃ d, s10 = .val d) → E.nx ⟨[.un, .val .pen, s2, .val (.int (ops.length : Nat)), s4, s5, s6, s7, s8, s9, s10, s11, s12, s13, .un, .un, .un, s17, s18, s19, s20, s21], T'⟩) :
    t_law_f13 E ⟨[.un, .val .pen, s2, .val (.int (ops.length : Nat)), .val (.lst ((edges ops).map (eD ops.length))), .val (.lst (ops.map opD)), .val d6, s7, .val (.tup ((win ops).map (eD ops.length))), .val (.lst (ps.map (eD ops.length))), s10, s11, s12, s13, .un, .un, .un, s17, s18, s19, s20, s21], T⟩ := by
  have few := t.few
  have wl := win_len (ops := ops)
  have bw := base_win t.dim t.op
  refine ⟨⟨by show -(2 ^ 62) ≤ (((ps.map (eD ops.length)).length : Nat) : Int); omega, by show (((ps.map (eD ops.length)).length : Nat) : Int) < 2 ^ 62; rw [List.length_map]; omega⟩, ?_⟩
  show lcGo _ _ _ _ (upto 0 (((ps.map (eD ops.length)).length : Nat) : Int).toNat) [] _ _
  rw [List.length_map, Int.toNat_natCast, upto_nat]
  refine lcGo_drawW (sl := [.un, .val .pen, s2, .val (.int (ops.length : Nat)), .val (.lst ((edges ops).map (eD ops.length))), .val (.lst (ops.map opD)), .un, s7, .val (.tup ((win ops).map (eD ops.length))), .val (.lst (ps.map (eD ops.length))), s10, s11, s12, s13, .un, .un, .un, s17, s18, s19, s20, s21]) 0 T (fun i : Nat => D.int ((i : Nat) : Int)) (fun i y => ∃ r, y = .tup (r.map (eD ops.length)) ∧ ∀ pa, ps[i]? = some pa → IsReg ops ps pa r) (List.range ps.length) [] T (by omega) (fun i hi T' K K2 hT' hK => ?_) (by rw [List.length_nil, List.length_range]; exact line_of (by omega)) fun ys T' hys hT' => ?_
  · have hi := List.mem_range.mp hi
    have hpi : ps[i]? = some ps[i] := List.getElem?_eq_getElem hi
    refine ⟨rfl, ops.length, _, win ops, ps, _, i, ps[i], rfl, .inl rfl, t.dim, bw, t.sml, hpi, by omega, fun r hr hl => ?_⟩
    refine hK _ T' _ ⟨r, rfl, fun pa hpa => ?_⟩ (by omega) rfl
    rw [hpi] at hpa
    have e := Option.some.inj hpa
    rw [← e]
    exact hr
  · obtain ⟨rs, rfl, hrs⟩ := paired_rows hys
    have hT' : T' ≤ T := by rw [Nat.zero_mul] at hT'; exact hT'
    rw [List.nil_append]
    show t_law_f12 E ⟨[.un, .val .pen, s2, .val (.int (ops.length : Nat)), .val (.lst ((edges ops).map (eD ops.length))), .val (.lst (ops.map opD)), .val d6, s7, .val (.tup ((win ops).map (eD ops.length))), .val (.lst (ps.map (eD ops.length))), s10, .val (toldD ops.length rs), s12, s13, .un, .un, .un, s17, s18, s19, s20, s21], T'⟩
    refine read_f12 t (by omega) (fun a pa ha => ?_) h10 fun s4 s5 s6 s7 s8 s9 s10 s11 s12 s13 s17 s18 s19 s20 s21 T2 hT2 h10 => fin _ _ _ _ _ _ _ _ _ _ _ _ _ _ _ T2 (by omega) h10
    have hlt := (List.getElem?_eq_some_iff.mp ha).1
    obtain ⟨r, h1, h2⟩ := paired_at (i := a) (x := a) hrs (by rw [List.getElem?_range hlt])
    exact ⟨r, h1, h2 pa ha⟩
/-- the planes, mixed, some of them twice -/
theorem read_f14 {d6 : D} {s10 : Slot} (t : Turn ops ps) (h6 : ps.length ≤ 6) (hT : T ≤ 700000) (h10 : s10 = .un ∨ ∃ d, s10 = .val d)
    (fin : ∀ s4 s5 s6 s7 s8 s9 s10 s11 s12 s13 s17 s18 s19 s20 s21 T', T' ≤ T + 30 → (s10 = .un ∨ ∃ d, s10 = .val d) → E.nx ⟨[.un, .val .pen, s2, .val (.int (ops.length : Nat)), s4, s5, s6, s7, s8, s9, s10, s11, s12, s13, .un, .un, .un, s17, s18, s19, s20, s21], T'⟩) :
    t_law_f14 E ⟨[.un, .val .pen, s2, .val (.int (ops.length : Nat)), .val (.lst ((edges ops).map (eD ops.length))), .val (.lst (ops.map opD)), .val d6, s7, .val (.tup ((win ops).map (eD ops.length))), .val (.lst (ps.map (eD ops.length))), s10, s11, s12, s13, .un, .un, .un, s17, s18, s19, s20, s21], T⟩ := by
  refine ⟨rfl, 2, rfl, show T ≤ 1000000 by omega, by decide, fun b T1 hT1 hb => ?_⟩
  have hT1 : T1 ≤ T + 1 := hT1
  have hb := hb.2 (by decide)
  obtain ⟨k, rfl⟩ : ∃ k : Nat, b = (k : Nat) := ⟨b.toNat, by omega⟩
  show (((ps.map (eD ops.length)).length + (cutL (ps.map (eD ops.length)) none (some ((k : Nat) : Int))).length ≤ sizeLine) ∧ _)
  have ec : cutL (ps.map (eD ops.length)) none (some ((k : Nat) : Int)) = (ps.take k).map (eD ops.length) := by rw [cutL_to, List.map_take]
  rw [ec]
  have hk : (ps.take k).length ≤ 1 := by rw [List.length_take]; omega
  refine ⟨by rw [List.length_map, List.length_map]; exact line_of (by omega), ?_⟩
  have e2 : ps.map (eD ops.length) ++ (ps.take k).map (eD ops.length) = (ps ++ ps.take k).map (eD ops.length) := by rw [List.map_append]
  refine ⟨rfl, _, (ps ++ ps.take k).map (eD ops.length), rfl, .inl ?_, ?_, ?_, fun ys hp T2 hT2 => ?_⟩
  · rw [e2]
  · rw [List.length_map, List.length_append]; show T1 + _ ≤ 1000000; omega
  · rw [List.length_map, List.length_append]; omega
  · rw [List.length_map, List.length_append] at hT2
    have hT2 : T2 ≤ T1 + (ps.length + (ps.take k).length) := hT2
    obtain ⟨ps', h1, rfl⟩ := perm_map hp (ps ++ ps.take k) rfl
    have hl := h1.length_eq
    rw [List.length_append] at hl
    have t' : Turn ops ps' := by
      refine ⟨t.dim, t.op, fun p hp => ?_, by omega, fun e => ?_⟩
      · rcases List.mem_append.mp (h1.mem_iff.mp hp) with g | g
        · exact t.sml p g
        · exact t.sml p (List.mem_of_mem_take g)
      · have := List.length_pos_iff.mpr t.some
        rw [e] at hl
        simp at hl
        omega
    exact read_f13 (T := T2) t' (by omega) h10 fun s4 s5 s6 s7 s8 s9 s10 s11 s12 s13 s17 s18 s19 s20 s21 T3 hT3 h10 => fin _ _ _ _ _ _ _ _ _ _ _ _ _ _ _ T3 (by omega) h10
end
end K18
/-! k18: the law, read -/
namespace K18
open PySem PySem.Spec PyProof.Rows L2 L3
theorem pln_of {m : Nat} {q : Int} {ns : List Int} (hm : Dim m) (hn : ns.length = m) (hq : q.natAbs ≤ 100) (hs : ∀ n ∈ ns, n.natAbs ≤ 4) : ∃ p, D.tup [.int q, .tup (ns.map D.int)] = eD m p ∧ Sml m p := by
  match ns, hn, hs with
  | [], hn, _ => rcases hm with rfl | rfl <;> simp at hn
  | [x], hn, hs =>
    have e : m = 1 := by simp at hn; omega
    subst e
    exact ⟨⟨q, x, 0⟩, rfl, hq, hs x (by simp), by (dsimp only; decide), .inr ⟨rfl, rfl⟩⟩
  | [x, y], hn, hs =>
    have e : m = 2 := by simp at hn; omega
    subst e
    exact ⟨⟨q, x, y⟩, rfl, hq, hs x (by simp), hs y (by simp), .inl rfl⟩
  | _ :: _ :: _ :: _, hn, _ => rcases hm with rfl | rfl <;> simp at hn
section
variable {s2 s6 s7 s8 s9 s11 s12 s13 s17 s18 s19 s20 s21 : Slot} {T : Nat} {E : Ends3} {ops : List (Int × Int)}
abbrev FinT (E : Ends3) (s2 : Slot) (m : Nat) (T : Nat) : Prop := ∀ s4 s5 s6 s7 s8 s9 s10 s11 s12 s13 s17 s18 s19 s20 s21 T', T' ≤ T → (s10 = .un ∨ ∃ d, s10 = .val d) → E.nx ⟨[.un, .val .pen, s2, .val (.int (m : Nat)), s4, s5, s6, s7, s8, s9, s10, s11, s12, s13, .un, .un, .un, s17, s18, s19, s20, s21], T'⟩
theorem read_f15 {d6 : D} {s10 : Slot} (hd : Dim ops.length) (ho : ∀ o ∈ ops, Op o) (hT : T ≤ 600000) (h10 : s10 = .un ∨ ∃ d, s10 = .val d) (fin : FinT E s2 ops.length (T + 60)) :
    t_law_f15 E ⟨[.un, .val .pen, s2, .val (.int (ops.length : Nat)), .val (.lst ((edges ops).map (eD ops.length))), .val (.lst (ops.map opD)), .val d6, s7, .val (.tup ((win ops).map (eD ops.length))), s9, s10, s11, s12, s13, .un, .un, .un, s17, s18, s19, s20, s21], T⟩ := by
  refine ⟨rfl, 6, rfl, show T ≤ 1000000 by omega, by decide, fun b T1 hT1 hb => ?_⟩
  have hT1 : T1 ≤ T + 1 := hT1
  have hb := hb.2 (by decide)
  refine ⟨⟨by omega, by omega⟩, ?_⟩
  show lcGo _ _ _ _ (upto 0 (1 + b).toNat) [] ⟨_, T1⟩ _
  obtain ⟨n, hn, h1, h6⟩ : ∃ n : Nat, (1 + b).toNat = n ∧ 1 ≤ n ∧ n ≤ 6 := ⟨_, rfl, by omega, by omega⟩
  rw [hn, upto_nat]
  refine lcGo_drawW (sl := [.un, .val .pen, s2, .val (.int (ops.length : Nat)), .val (.lst ((edges ops).map (eD ops.length))), .val (.lst (ops.map opD)), .val d6, s7, .val (.tup ((win ops).map (eD ops.length))), s9, .un, s11, s12, s13, .un, .un, .un, s17, s18, s19, s20, s21]) 3 (T1 + 30) (fun i : Nat => D.int ((i : Nat) : Int)) (fun _ y => ∃ p, y = eD ops.length p ∧ Sml ops.length p) (List.range n) [] T1 (by rw [List.length_range]; omega) (fun i hi T' K K2 hT' hK => ?_) (by rw [List.length_nil, List.length_range]; exact line_of (by omega)) fun ys T2 hys hT2 => ?_
  · refine ⟨rfl, 21, rfl, show T' ≤ 1000000 by omega, by decide, fun q T3 hT3 hq => ?_⟩
    have hT3 : T3 ≤ T' + 1 := hT3
    have hq := hq.2 (by decide)
    refine ⟨⟨by omega, by rcases hd with e | e <;> omega⟩, ?_⟩
    show lcGo _ _ _ _ (upto 0 ((ops.length : Nat) : Int).toNat) [] ⟨_, T3⟩ _
    rw [Int.toNat_natCast, upto_nat]
    refine lcGo_drawW (sl := [.un, .val .pen, s2, .val (.int (ops.length : Nat)), .val (.lst ((edges ops).map (eD ops.length))), .val (.lst (ops.map opD)), .un, s7, .val (.tup ((win ops).map (eD ops.length))), s9, .val (.int (i : Nat)), s11, s12, s13, .un, .un, .un, s17, s18, s19, s20, s21]) 1 (T3 + 5) (fun i : Nat => D.int ((i : Nat) : Int)) (fun _ y => ∃ n : Int, y = .int n ∧ n.natAbs ≤ 4) (List.range ops.length) [] T3 (by rw [List.length_range]; rcases hd with e | e <;> omega) (fun j hj T4 K3 K4 hT4 hK3 => ?_) (by rw [List.length_nil, List.length_range]; exact line_of (by rcases hd with e | e <;> omega)) fun zs T5 hzs hT5 => ?_
    · refine ⟨rfl, 9, rfl, show T4 ≤ 1000000 by omega, by decide, fun r T6 hT6 hr => ?_⟩
      have hr := hr.2 (by decide)
      exact hK3 (.int (r - 4)) T6 _ ⟨_, rfl, by omega⟩ hT6 rfl
    · obtain ⟨ns, rfl, hnl, hns⟩ := paired_ints4 hzs
      rw [List.length_range] at hnl hT5
      rw [List.nil_append]
      refine ⟨by show 2 ≤ sizeLine; decide, ?_⟩
      obtain ⟨p, e, hp⟩ := pln_of (q := q - 10) hd hnl (by omega) hns
      refine hK (.tup [.int (q - 10), .tup (ns.map D.int)]) T5 _ ⟨p, e, hp⟩ (by rcases hd with e' | e' <;> omega) rfl
  · obtain ⟨ps, rfl, hpl, hps⟩ := paired_plns hys
    rw [List.length_range] at hpl hT2
    rw [List.nil_append]
    have t : Turn ops ps := ⟨hd, ho, hps, by omega, fun e => by rw [e] at hpl; simp at hpl; omega⟩
    have go : ∀ s10 : Slot, (s10 = .un ∨ ∃ d, s10 = .val d) → t_law_f14 E ⟨[.un, .val .pen, s2, .val (.int (ops.length : Nat)), .val (.lst ((edges ops).map (eD ops.length))), .val (.lst (ops.map opD)), .val d6, s7, .val (.tup ((win ops).map (eD ops.length))), .val (.lst (ps.map (eD ops.length))), s10, s11, s12, s13, .un, .un, .un, s17, s18, s19, s20, s21], T2⟩ := fun s10 h10 =>
      read_f14 (T := T2) t (by omega) (by omega) h10 fun s4 s5 s6 s7 s8 s9 s10 s11 s12 s13 s17 s18 s19 s20 s21 T3 hT3 h10 => fin _ _ _ _ _ _ _ _ _ _ _ _ _ _ _ T3 (by omega) h10
    rcases h10 with rfl | ⟨d, rfl⟩
    · exact go _ (.inl rfl)
    · exact go _ (.inr ⟨d, rfl⟩)
theorem read_f19 {d6 : D} {s4 s10 : Slot} (hd : Dim ops.length) (ho : ∀ o ∈ ops, Op o) (hT : T ≤ 600000) (h10 : s10 = .un ∨ ∃ d, s10 = .val d) (fin : FinT E s2 ops.length (T + 60)) :
    t_law_f19 E ⟨[.un, .val .pen, s2, .val (.int (ops.length : Nat)), s4, .own (.lst (ops.map opD)), .val d6, s7, s8, s9, s10, s11, s12, s13, .un, .un, .un, s17, s18, s19, s20, s21], T⟩ := by
  obtain ⟨e1, e4⟩ := edges_len hd
  refine ⟨rfl, ops, rfl, hd, ?_⟩
  refine ⟨rfl, ops.length, edges ops, win ops, rfl, hd, edge_pln ho, e1, by omega, window_rep hd fun o h => (ho o h).1, ?_⟩
  exact read_f15 hd ho hT h10 fin
/-- the terms, one after another -/
theorem loop_f18 {s3 s4 s10 : Slot} : ∀ (n j : Nat) (ops : List (Int × Int)) (T : Nat) (s6 s7 : Slot), (∀ o ∈ ops, Op o) → ops.length + n ≤ 5 → T + 2 * n ≤ 600000 → (n = 0 → ∃ d, s6 = .val d) →
    (∀ (ops' : List (Int × Int)) (T' : Nat) (d6 : D) (s7 : Slot), (∀ o ∈ ops', Op o) → ops'.length = ops.length + n → T' ≤ T + 2 * n → E.nx ⟨[.un, .val .pen, s2, s3, s4, .own (.lst (ops'.map opD)), .val d6, s7, s8, s9, s10, s11, s12, s13, .un, .un, .un, s17, s18, s19, s20, s21], T'⟩) →
    loop3 (gName3 6) t_law_f18 ((List.range n).map fun i => D.int ((j + i : Nat) : Int)) E ⟨[.un, .val .pen, s2, s3, s4, .own (.lst (ops.map opD)), s6, s7, s8, s9, s10, s11, s12, s13, .un, .un, .un, s17, s18, s19, s20, s21], T⟩
  | 0, j, ops, T, s6, s7, ho, hn, hT, h6, h => by
    obtain ⟨d, rfl⟩ := h6 rfl
    exact h ops T d s7 ho rfl (by omega)
  | n + 1, j, ops, T, s6, s7, ho, hn, hT, h6, h => by
    have eL : (List.range (n + 1)).map (fun i => D.int ((j + i : Nat) : Int)) = .int ((j : Nat) : Int) :: (List.range n).map fun i => D.int ((j + 1 + i : Nat) : Int) := by
      rw [List.range_succ_eq_map, List.map_cons, List.map_map]
      refine congr (congrArg List.cons rfl) (List.map_congr_left fun i _ => ?_)
      show D.int ((j + (i + 1) : Nat) : Int) = D.int ((j + 1 + i : Nat) : Int)
      rw [show j + (i + 1) = j + 1 + i by omega]
    rw [eL]
    refine ⟨rfl, 9, rfl, show T ≤ 1000000 by omega, by decide, fun r T1 hT1 hr => ?_⟩
    have hT1 : T1 ≤ T + 1 := hT1
    have hr := hr.2 (by decide)
    refine ⟨by show 2 ≤ sizeLine; decide, by show 3 ≤ sizeLine; decide, rfl, _, rfl, show T1 ≤ 1000000 by omega, by simp, by decide, fun x hx T2 hT2 => ?_⟩
    have hT2 : T2 ≤ T1 + 1 := hT2
    obtain ⟨k, rfl, hk⟩ : ∃ k : Int, x = .int k ∧ 1 ≤ k ∧ k ≤ 15 := by
      simp only [List.mem_cons, List.not_mem_nil, or_false] at hx
      rcases hx with rfl | rfl | rfl
      · exact ⟨1, rfl, by decide, by decide⟩
      · exact ⟨4, rfl, by decide, by decide⟩
      · exact ⟨15, rfl, by decide, by decide⟩
    refine ⟨by show 3 ≤ sizeLine; decide, ?_, ?_⟩
    · show (ops.map opD).length < sizeLine
      rw [List.length_map]
      exact Nat.lt_of_lt_of_le (by omega : ops.length < 6) (by decide)
    · have e : ops.map opD ++ [D.tup [.tup [.str "load", .str "f"], .int (r - 4), .int (r - 4 + k)]] = (ops ++ [(r - 4, r - 4 + k)]).map opD := by
        rw [List.map_append]; rfl
      have key : loop3 (gName3 6) t_law_f18 ((List.range n).map fun i => D.int ((j + 1 + i : Nat) : Int)) E ⟨[.un, .val .pen, s2, s3, s4, .own (.lst ((ops ++ [(r - 4, r - 4 + k)]).map opD)), .val (.int (j : Nat)), .val (.int (r - 4)), s8, s9, s10, s11, s12, s13, .un, .un, .un, s17, s18, s19, s20, s21], T2⟩ :=
        loop_f18 n (j + 1) (ops ++ [(r - 4, r - 4 + k)]) T2 (.val (.int (j : Nat))) (.val (.int (r - 4))) (fun o ho' => by
          rcases List.mem_append.mp ho' with g | g
          · exact ho o g
          · rw [List.mem_singleton.mp g]
            exact ⟨by (dsimp only; omega), by (dsimp only; omega), by (dsimp only; omega)⟩) (by rw [List.length_append]; simp; omega) (by omega) (fun _ => ⟨_, rfl⟩) fun ops' T' d6 s7 h1 h2 h3 => h ops' T' d6 s7 h1 (by rw [h2, List.length_append]; simp; omega) (by omega)
      rw [← e] at key
      exact key
end
end K18
/-! k18: the law, read to the end -/
namespace K18
open PySem PySem.Spec PyProof.Rows L2 L3
section
variable {s2 s3 s4 s5 s6 s7 s8 s9 s10 s11 s12 s13 s17 s18 s19 s20 s21 : Slot} {T : Nat} {E : Ends3}
theorem read_f20 {m : Nat} (hd : Dim m) (hT : T ≤ 500000) (h10 : s10 = .un ∨ ∃ d, s10 = .val d) (fin : FinT E s2 m (T + 64)) :
    t_law_f20 E ⟨[.un, .val .pen, s2, .val (.int (m : Nat)), s4, .own (.lst []), s6, s7, s8, s9, s10, s11, s12, s13, .un, .un, .un, s17, s18, s19, s20, s21], T⟩ := by
  have h2 : m ≤ 2 := by rcases hd with e | e <;> omega
  have h1 : 1 ≤ m := by rcases hd with e | e <;> omega
  have key : loop3 (gName3 6) t_law_f18 ((List.range m).map fun i => D.int ((0 + i : Nat) : Int)) { E with nx := t_law_f19 E } ⟨[.un, .val .pen, s2, .val (.int (m : Nat)), s4, .own (.lst (([] : List (Int × Int)).map opD)), s6, s7, s8, s9, s10, s11, s12, s13, .un, .un, .un, s17, s18, s19, s20, s21], T⟩ := by
    refine loop_f18 m 0 [] T s6 s7 (by simp) (by simp; omega) (by omega) (fun e => by omega) fun ops T2 d6 s7 ho hl hT2 => ?_
    have hl : m = ops.length := by rw [hl]; simp
    subst hl
    exact read_f19 (T := T2) hd ho (by omega) h10 fun s4 s5 s6 s7 s8 s9 s10 s11 s12 s13 s17 s18 s19 s20 s21 T3 hT3 h10 => fin s4 s5 s6 s7 s8 s9 s10 s11 s12 s13 s17 s18 s19 s20 s21 T3 (by omega) h10
  have eR : upto 0 ((m : Nat) : Int).toNat = (List.range m).map fun i => D.int ((0 + i : Nat) : Int) := by
    rw [Int.toNat_natCast, upto_nat]
    exact List.map_congr_left fun i _ => by rw [Nat.zero_add]
  rw [← eR] at key
  exact ⟨⟨by omega, by omega⟩, key⟩
end
end K18
/-! k18: the law, read to the end -/
namespace K18
open PySem PySem.Spec PyProof.Rows L2 L3
section
variable {s2 s3 s4 s5 s6 s7 s8 s9 s10 s11 s12 s13 s17 s18 s19 s20 s21 : Slot} {T : Nat} {E : Ends3}
theorem read_f21 {m : Nat} (hd : Dim m) (hT : T ≤ 500000) (h10 : s10 = .un ∨ ∃ d, s10 = .val d) (fin : FinT E s2 m (T + 64)) :
    t_law_f21 E ⟨[.un, .val .pen, s2, .val (.int (m : Nat)), s4, s5, s6, s7, s8, s9, s10, s11, s12, s13, .un, .un, .un, s17, s18, s19, s20, s21], T⟩ :=
  ⟨by show 0 ≤ sizeLine; decide, by show 0 ≤ sizeLine; decide, ⟨by decide, (by decide : 5 < 22)⟩, read_f20 (s4 := .val (.lst [])) hd hT h10 fin⟩
def FinS (E : Ends3) (T : Nat) : Prop := ∀ s2 s3 s4 s5 s6 s7 s8 s9 s10 s11 s12 s13 s17 s18 s19 s20 s21 T', T' ≤ T → (s10 = .un ∨ ∃ d, s10 = .val d) → E.nx ⟨[.un, .val .pen, s2, s3, s4, s5, s6, s7, s8, s9, s10, s11, s12, s13, .un, .un, .un, s17, s18, s19, s20, s21], T'⟩
theorem read_f22 (hT : T ≤ 400000) (h10 : s10 = .un ∨ ∃ d, s10 = .val d) (fin : FinS E (T + 70)) :
    t_law_f22 E ⟨[.un, .val .pen, s2, s3, s4, s5, s6, s7, s8, s9, s10, s11, s12, s13, .un, .un, .un, s17, s18, s19, s20, s21], T⟩ := by
  refine ⟨rfl, 2, rfl, show T ≤ 1000000 by omega, by decide, fun b T1 hT1 hb => ?_⟩
  have hT1 : T1 ≤ T + 1 := hT1
  have hb := hb.2 (by decide)
  obtain ⟨m, hm, hd⟩ : ∃ m : Nat, 1 + b = (m : Nat) ∧ Dim m := ⟨(1 + b).toNat, by omega, by unfold Dim; omega⟩
  have key : t_law_f21 E ⟨[.un, .val .pen, s2, .val (.int (m : Nat)), s4, s5, s6, s7, s8, s9, s10, s11, s12, s13, .un, .un, .un, s17, s18, s19, s20, s21], T1⟩ :=
    read_f21 hd (by omega) h10 fun s4 s5 s6 s7 s8 s9 s10 s11 s12 s13 s17 s18 s19 s20 s21 T3 hT3 h10 => fin s2 _ s4 s5 s6 s7 s8 s9 s10 s11 s12 s13 s17 s18 s19 s20 s21 T3 (by omega) h10
  rw [← hm] at key
  exact key
/-- a frame at the end of a turn -/
def ShT (σ : List Slot) : Prop := ∃ s2 s3 s4 s5 s6 s7 s8 s9 s10 s11 s12 s13 s17 s18 s19 s20 s21, σ = [.un, .val .pen, s2, s3, s4, s5, s6, s7, s8, s9, s10, s11, s12, s13, .un, .un, .un, s17, s18, s19, s20, s21] ∧ (s10 = .un ∨ ∃ d, s10 = .val d)
theorem turn_sh {σ : List Slot} {d : D} (h : ShT σ) (hT : T ≤ 400000) (fin : ∀ σ T', ShT σ → T' ≤ T + 70 → E.nx ⟨σ, T'⟩) : gName3 2 d ⟨σ, T⟩ fun ρ => t_law_f22 E ρ := by
  obtain ⟨s2, s3, s4, s5, s6, s7, s8, s9, s10, s11, s12, s13, s17, s18, s19, s20, s21, rfl, h10⟩ := h
  show t_law_f22 E ⟨[.un, .val .pen, .val d, s3, s4, s5, s6, s7, s8, s9, s10, s11, s12, s13, .un, .un, .un, s17, s18, s19, s20, s21], T⟩
  exact read_f22 hT h10 fun s2 s3 s4 s5 s6 s7 s8 s9 s10 s11 s12 s13 s17 s18 s19 s20 s21 T1 hT1 h10 => fin _ T1 ⟨s2, s3, s4, s5, s6, s7, s8, s9, s10, s11, s12, s13, s17, s18, s19, s20, s21, rfl, h10⟩ hT1
theorem turns (ls : List D) : ∀ (T : Nat) (σ : List Slot), T + 70 * ls.length ≤ 400000 → ShT σ → (∀ σ T', ShT σ → E.nx ⟨σ, T'⟩) → loop3 (gName3 2) t_law_f22 ls E ⟨σ, T⟩ := by
  induction ls with
  | nil => exact fun T σ hT hs h => h σ T hs
  | cons l ls ih =>
    intro T σ hT hs h
    rw [List.length_cons] at hT
    exact turn_sh (E := { E with nx := loop3 (gName3 2) t_law_f22 ls E, ct := loop3 (gName3 2) t_law_f22 ls E, bk := E.nx }) hs (by omega) fun σ T' hs' hT' => ih T' σ (by omega) hs' h
theorem law_read : LawRest 20 t_law := by
  have key : loop3 (gName3 2) t_law_f22 (upto 0 4) { nx := t_law_f23 { nx := fun _ => False, rt := fun d _ => d = .bl true }, rt := fun d _ => d = .bl true } ⟨lawStart 20, 0⟩ :=
    turns (upto 0 4) 0 _ (by unfold upto; rw [List.length_map, List.length_range]; decide) ⟨.un, .un, .un, .un, .un, .un, .un, .un, .un, .un, .un, .un, .un, .un, .un, .un, .un, rfl, .inl rfl⟩ fun _ _ _ => rfl
  exact ⟨⟨by decide, by decide⟩, key⟩
end
end K18
namespace K18
open PySem PySem.Spec PyProof.Rows L2 L3
theorem all_mk {l : PySem.W.OpenLaw} {w : World} {K : PySem.W.Frag} {h : Heap} {mg : Str → Option Value} {fa : Addr} (X : K.In h) (G : h.Ns mainGlobals mg) (hfa : mg "law" = some (.ref fa))
    {fn_lowest : Addr} {od_lowest an_lowest : Option Addr} {sl_lowest : Array (Option Value)} {oc_lowest kV_lowest dc_lowest pm_lowest cd_lowest ct_lowest : Value}
    {fn_value : Addr} {od_value an_value : Option Addr} {sl_value : Array (Option Value)} {oc_value kV_value dc_value pm_value cd_value ct_value : Value}
    {fn_lesser : Addr} {od_lesser an_lesser : Option Addr} {sl_lesser : Array (Option Value)} {oc_lesser kV_lesser dc_lesser pm_lesser cd_lesser ct_lesser : Value}
    {fn_between : Addr} {od_between an_between : Option Addr} {sl_between : Array (Option Value)} {oc_between kV_between dc_between pm_between cd_between ct_between : Value}
    {fn_whole_of : Addr} {od_whole_of an_whole_of : Option Addr} {sl_whole_of : Array (Option Value)} {oc_whole_of kV_whole_of dc_whole_of pm_whole_of cd_whole_of ct_whole_of : Value}
    {fn_in_order : Addr} {od_in_order an_in_order : Option Addr} {sl_in_order : Array (Option Value)} {oc_in_order kV_in_order dc_in_order pm_in_order cd_in_order ct_in_order : Value}
    {fn_tidy : Addr} {od_tidy an_tidy : Option Addr} {sl_tidy : Array (Option Value)} {oc_tidy kV_tidy dc_tidy pm_tidy cd_tidy ct_tidy : Value}
    {fn_cut : Addr} {od_cut an_cut : Option Addr} {sl_cut : Array (Option Value)} {oc_cut kV_cut dc_cut pm_cut cd_cut ct_cut : Value}
    {fn_cut_by : Addr} {od_cut_by an_cut_by : Option Addr} {sl_cut_by : Array (Option Value)} {oc_cut_by kV_cut_by dc_cut_by pm_cut_by cd_cut_by ct_cut_by : Value}
    {fn_region : Addr} {od_region an_region : Option Addr} {sl_region : Array (Option Value)} {oc_region kV_region dc_region pm_region cd_region ct_region : Value}
    {fn__law_pen : Addr} {od__law_pen an__law_pen : Option Addr} {sl__law_pen : Array (Option Value)} {oc__law_pen kV__law_pen dc__law_pen pm__law_pen cd__law_pen ct__law_pen : Value}
    {fn__law_draw : Addr} {od__law_draw an__law_draw : Option Addr} {sl__law_draw : Array (Option Value)} {oc__law_draw kV__law_draw dc__law_draw pm__law_draw cd__law_draw ct__law_draw : Value}
    {fn__law_pick : Addr} {od__law_pick an__law_pick : Option Addr} {sl__law_pick : Array (Option Value)} {oc__law_pick kV__law_pick dc__law_pick pm__law_pick cd__law_pick ct__law_pick : Value}
    {fn__law_mixed : Addr} {od__law_mixed an__law_mixed : Option Addr} {sl__law_mixed : Array (Option Value)} {oc__law_mixed kV__law_mixed dc__law_mixed pm__law_mixed cd__law_mixed ct__law_mixed : Value}
    {fn__law_drawn_setting : Addr} {od__law_drawn_setting an__law_drawn_setting : Option Addr} {sl__law_drawn_setting : Array (Option Value)} {oc__law_drawn_setting kV__law_drawn_setting dc__law_drawn_setting pm__law_drawn_setting cd__law_drawn_setting ct__law_drawn_setting : Value}
    {fn__law_gcd : Addr} {od__law_gcd an__law_gcd : Option Addr} {sl__law_gcd : Array (Option Value)} {oc__law_gcd kV__law_gcd dc__law_gcd pm__law_gcd cd__law_gcd ct__law_gcd : Value}
    {fn__law_lowest : Addr} {od__law_lowest an__law_lowest : Option Addr} {sl__law_lowest : Array (Option Value)} {oc__law_lowest kV__law_lowest dc__law_lowest pm__law_lowest cd__law_lowest ct__law_lowest : Value}
    {fn__law_value : Addr} {od__law_value an__law_value : Option Addr} {sl__law_value : Array (Option Value)} {oc__law_value kV__law_value dc__law_value pm__law_value cd__law_value ct__law_value : Value}
    {fn__law_edges_of : Addr} {od__law_edges_of an__law_edges_of : Option Addr} {sl__law_edges_of : Array (Option Value)} {oc__law_edges_of kV__law_edges_of dc__law_edges_of pm__law_edges_of cd__law_edges_of ct__law_edges_of : Value}
    {fn__law_met : Addr} {od__law_met an__law_met : Option Addr} {sl__law_met : Array (Option Value)} {oc__law_met kV__law_met dc__law_met pm__law_met cd__law_met ct__law_met : Value}
    {fn__law_by_order : Addr} {od__law_by_order an__law_by_order : Option Addr} {sl__law_by_order : Array (Option Value)} {oc__law_by_order kV__law_by_order dc__law_by_order pm__law_by_order cd__law_by_order ct__law_by_order : Value}
    {fn__law_turn : Addr} {od__law_turn an__law_turn : Option Addr} {sl__law_turn : Array (Option Value)} {oc__law_turn kV__law_turn dc__law_turn pm__law_turn cd__law_turn ct__law_turn : Value}
    {fn__law_corners : Addr} {od__law_corners an__law_corners : Option Addr} {sl__law_corners : Array (Option Value)} {oc__law_corners kV__law_corners dc__law_corners pm__law_corners cd__law_corners ct__law_corners : Value}
    {fn__law_pairs : Addr} {od__law_pairs an__law_pairs : Option Addr} {sl__law_pairs : Array (Option Value)} {oc__law_pairs kV__law_pairs dc__law_pairs pm__law_pairs cd__law_pairs ct__law_pairs : Value}
    {fn_law : Addr} {od_law an_law : Option Addr} {sl_law : Array (Option Value)} {oc_law kV_law dc_law pm_law cd_law ct_law : Value}
    (a_lowest : PySem.W.nsIn K mainGlobals "lowest" = some (some (.ref fn_lowest)))
    (l_lowest : K.lookup fn_lowest = some ⟨oc_lowest, od_lowest, .func (PySem.W.fnOf "lowest" "lowest" (defArgs (top 2)) (defBody (top 2)) (defScope (top 2)) .none kV_lowest dc_lowest pm_lowest an_lowest cd_lowest ct_lowest), sl_lowest⟩)
    (c_lowest : PySem.W.codeIn K cd_lowest "lowest" = true)
    (k_lowest : PySem.W.keepIn K (.ref fn_lowest) = true)
    (a_value : PySem.W.nsIn K mainGlobals "value" = some (some (.ref fn_value)))
    (l_value : K.lookup fn_value = some ⟨oc_value, od_value, .func (PySem.W.fnOf "value" "value" (defArgs (top 3)) (defBody (top 3)) (defScope (top 3)) .none kV_value dc_value pm_value an_value cd_value ct_value), sl_value⟩)
    (c_value : PySem.W.codeIn K cd_value "value" = true)
    (k_value : PySem.W.keepIn K (.ref fn_value) = true)
    (a_lesser : PySem.W.nsIn K mainGlobals "lesser" = some (some (.ref fn_lesser)))
    (l_lesser : K.lookup fn_lesser = some ⟨oc_lesser, od_lesser, .func (PySem.W.fnOf "lesser" "lesser" (defArgs (top 4)) (defBody (top 4)) (defScope (top 4)) .none kV_lesser dc_lesser pm_lesser an_lesser cd_lesser ct_lesser), sl_lesser⟩)
    (c_lesser : PySem.W.codeIn K cd_lesser "lesser" = true)
    (k_lesser : PySem.W.keepIn K (.ref fn_lesser) = true)
    (a_between : PySem.W.nsIn K mainGlobals "between" = some (some (.ref fn_between)))
    (l_between : K.lookup fn_between = some ⟨oc_between, od_between, .func (PySem.W.fnOf "between" "between" (defArgs (top 5)) (defBody (top 5)) (defScope (top 5)) .none kV_between dc_between pm_between an_between cd_between ct_between), sl_between⟩)
    (c_between : PySem.W.codeIn K cd_between "between" = true)
    (k_between : PySem.W.keepIn K (.ref fn_between) = true)
    (a_whole_of : PySem.W.nsIn K mainGlobals "whole_of" = some (some (.ref fn_whole_of)))
    (l_whole_of : K.lookup fn_whole_of = some ⟨oc_whole_of, od_whole_of, .func (PySem.W.fnOf "whole_of" "whole_of" (defArgs (top 6)) (defBody (top 6)) (defScope (top 6)) .none kV_whole_of dc_whole_of pm_whole_of an_whole_of cd_whole_of ct_whole_of), sl_whole_of⟩)
    (c_whole_of : PySem.W.codeIn K cd_whole_of "whole_of" = true)
    (k_whole_of : PySem.W.keepIn K (.ref fn_whole_of) = true)
    (a_in_order : PySem.W.nsIn K mainGlobals "in_order" = some (some (.ref fn_in_order)))
    (l_in_order : K.lookup fn_in_order = some ⟨oc_in_order, od_in_order, .func (PySem.W.fnOf "in_order" "in_order" (defArgs (top 7)) (defBody (top 7)) (defScope (top 7)) .none kV_in_order dc_in_order pm_in_order an_in_order cd_in_order ct_in_order), sl_in_order⟩)
    (c_in_order : PySem.W.codeIn K cd_in_order "in_order" = true)
    (k_in_order : PySem.W.keepIn K (.ref fn_in_order) = true)
    (a_tidy : PySem.W.nsIn K mainGlobals "tidy" = some (some (.ref fn_tidy)))
    (l_tidy : K.lookup fn_tidy = some ⟨oc_tidy, od_tidy, .func (PySem.W.fnOf "tidy" "tidy" (defArgs (top 9)) (defBody (top 9)) (defScope (top 9)) .none kV_tidy dc_tidy pm_tidy an_tidy cd_tidy ct_tidy), sl_tidy⟩)
    (c_tidy : PySem.W.codeIn K cd_tidy "tidy" = true)
    (k_tidy : PySem.W.keepIn K (.ref fn_tidy) = true)
    (a_cut : PySem.W.nsIn K mainGlobals "cut" = some (some (.ref fn_cut)))
    (l_cut : K.lookup fn_cut = some ⟨oc_cut, od_cut, .func (PySem.W.fnOf "cut" "cut" (defArgs (top 10)) (defBody (top 10)) (defScope (top 10)) .none kV_cut dc_cut pm_cut an_cut cd_cut ct_cut), sl_cut⟩)
    (c_cut : PySem.W.codeIn K cd_cut "cut" = true)
    (k_cut : PySem.W.keepIn K (.ref fn_cut) = true)
    (a_cut_by : PySem.W.nsIn K mainGlobals "cut_by" = some (some (.ref fn_cut_by)))
    (l_cut_by : K.lookup fn_cut_by = some ⟨oc_cut_by, od_cut_by, .func (PySem.W.fnOf "cut_by" "cut_by" (defArgs (top 11)) (defBody (top 11)) (defScope (top 11)) .none kV_cut_by dc_cut_by pm_cut_by an_cut_by cd_cut_by ct_cut_by), sl_cut_by⟩)
    (c_cut_by : PySem.W.codeIn K cd_cut_by "cut_by" = true)
    (k_cut_by : PySem.W.keepIn K (.ref fn_cut_by) = true)
    (a_region : PySem.W.nsIn K mainGlobals "region" = some (some (.ref fn_region)))
    (l_region : K.lookup fn_region = some ⟨oc_region, od_region, .func (PySem.W.fnOf "region" "region" (defArgs (top 12)) (defBody (top 12)) (defScope (top 12)) .none kV_region dc_region pm_region an_region cd_region ct_region), sl_region⟩)
    (c_region : PySem.W.codeIn K cd_region "region" = true)
    (k_region : PySem.W.keepIn K (.ref fn_region) = true)
    (a__law_pen : PySem.W.nsIn K mainGlobals "_law_pen" = some (some (.ref fn__law_pen)))
    (l__law_pen : K.lookup fn__law_pen = some ⟨oc__law_pen, od__law_pen, .func (PySem.W.fnOf "_law_pen" "_law_pen" (defArgs (top 14)) (defBody (top 14)) (defScope (top 14)) .none kV__law_pen dc__law_pen pm__law_pen an__law_pen cd__law_pen ct__law_pen), sl__law_pen⟩)
    (c__law_pen : PySem.W.codeIn K cd__law_pen "_law_pen" = true)
    (k__law_pen : PySem.W.keepIn K (.ref fn__law_pen) = true)
    (a__law_draw : PySem.W.nsIn K mainGlobals "_law_draw" = some (some (.ref fn__law_draw)))
    (l__law_draw : K.lookup fn__law_draw = some ⟨oc__law_draw, od__law_draw, .func (PySem.W.fnOf "_law_draw" "_law_draw" (defArgs (top 15)) (defBody (top 15)) (defScope (top 15)) .none kV__law_draw dc__law_draw pm__law_draw an__law_draw cd__law_draw ct__law_draw), sl__law_draw⟩)
    (c__law_draw : PySem.W.codeIn K cd__law_draw "_law_draw" = true)
    (k__law_draw : PySem.W.keepIn K (.ref fn__law_draw) = true)
    (a__law_pick : PySem.W.nsIn K mainGlobals "_law_pick" = some (some (.ref fn__law_pick)))
    (l__law_pick : K.lookup fn__law_pick = some ⟨oc__law_pick, od__law_pick, .func (PySem.W.fnOf "_law_pick" "_law_pick" (defArgs (top 16)) (defBody (top 16)) (defScope (top 16)) .none kV__law_pick dc__law_pick pm__law_pick an__law_pick cd__law_pick ct__law_pick), sl__law_pick⟩)
    (c__law_pick : PySem.W.codeIn K cd__law_pick "_law_pick" = true)
    (k__law_pick : PySem.W.keepIn K (.ref fn__law_pick) = true)
    (a__law_mixed : PySem.W.nsIn K mainGlobals "_law_mixed" = some (some (.ref fn__law_mixed)))
    (l__law_mixed : K.lookup fn__law_mixed = some ⟨oc__law_mixed, od__law_mixed, .func (PySem.W.fnOf "_law_mixed" "_law_mixed" (defArgs (top 17)) (defBody (top 17)) (defScope (top 17)) .none kV__law_mixed dc__law_mixed pm__law_mixed an__law_mixed cd__law_mixed ct__law_mixed), sl__law_mixed⟩)
    (c__law_mixed : PySem.W.codeIn K cd__law_mixed "_law_mixed" = true)
    (k__law_mixed : PySem.W.keepIn K (.ref fn__law_mixed) = true)
    (a__law_drawn_setting : PySem.W.nsIn K mainGlobals "_law_drawn_setting" = some (some (.ref fn__law_drawn_setting)))
    (l__law_drawn_setting : K.lookup fn__law_drawn_setting = some ⟨oc__law_drawn_setting, od__law_drawn_setting, .func (PySem.W.fnOf "_law_drawn_setting" "_law_drawn_setting" (defArgs (top 18)) (defBody (top 18)) (defScope (top 18)) .none kV__law_drawn_setting dc__law_drawn_setting pm__law_drawn_setting an__law_drawn_setting cd__law_drawn_setting ct__law_drawn_setting), sl__law_drawn_setting⟩)
    (c__law_drawn_setting : PySem.W.codeIn K cd__law_drawn_setting "_law_drawn_setting" = true)
    (k__law_drawn_setting : PySem.W.keepIn K (.ref fn__law_drawn_setting) = true)
    (a__law_gcd : PySem.W.nsIn K mainGlobals "_law_gcd" = some (some (.ref fn__law_gcd)))
    (l__law_gcd : K.lookup fn__law_gcd = some ⟨oc__law_gcd, od__law_gcd, .func (PySem.W.fnOf "_law_gcd" "_law_gcd" (defArgs (top 19)) (defBody (top 19)) (defScope (top 19)) .none kV__law_gcd dc__law_gcd pm__law_gcd an__law_gcd cd__law_gcd ct__law_gcd), sl__law_gcd⟩)
    (c__law_gcd : PySem.W.codeIn K cd__law_gcd "_law_gcd" = true)
    (k__law_gcd : PySem.W.keepIn K (.ref fn__law_gcd) = true)
    (a__law_lowest : PySem.W.nsIn K mainGlobals "_law_lowest" = some (some (.ref fn__law_lowest)))
    (l__law_lowest : K.lookup fn__law_lowest = some ⟨oc__law_lowest, od__law_lowest, .func (PySem.W.fnOf "_law_lowest" "_law_lowest" (defArgs (top 20)) (defBody (top 20)) (defScope (top 20)) .none kV__law_lowest dc__law_lowest pm__law_lowest an__law_lowest cd__law_lowest ct__law_lowest), sl__law_lowest⟩)
    (c__law_lowest : PySem.W.codeIn K cd__law_lowest "_law_lowest" = true)
    (k__law_lowest : PySem.W.keepIn K (.ref fn__law_lowest) = true)
    (a__law_value : PySem.W.nsIn K mainGlobals "_law_value" = some (some (.ref fn__law_value)))
    (l__law_value : K.lookup fn__law_value = some ⟨oc__law_value, od__law_value, .func (PySem.W.fnOf "_law_value" "_law_value" (defArgs (top 21)) (defBody (top 21)) (defScope (top 21)) .none kV__law_value dc__law_value pm__law_value an__law_value cd__law_value ct__law_value), sl__law_value⟩)
    (c__law_value : PySem.W.codeIn K cd__law_value "_law_value" = true)
    (k__law_value : PySem.W.keepIn K (.ref fn__law_value) = true)
    (a__law_edges_of : PySem.W.nsIn K mainGlobals "_law_edges_of" = some (some (.ref fn__law_edges_of)))
    (l__law_edges_of : K.lookup fn__law_edges_of = some ⟨oc__law_edges_of, od__law_edges_of, .func (PySem.W.fnOf "_law_edges_of" "_law_edges_of" (defArgs (top 22)) (defBody (top 22)) (defScope (top 22)) .none kV__law_edges_of dc__law_edges_of pm__law_edges_of an__law_edges_of cd__law_edges_of ct__law_edges_of), sl__law_edges_of⟩)
    (c__law_edges_of : PySem.W.codeIn K cd__law_edges_of "_law_edges_of" = true)
    (k__law_edges_of : PySem.W.keepIn K (.ref fn__law_edges_of) = true)
    (a__law_met : PySem.W.nsIn K mainGlobals "_law_met" = some (some (.ref fn__law_met)))
    (l__law_met : K.lookup fn__law_met = some ⟨oc__law_met, od__law_met, .func (PySem.W.fnOf "_law_met" "_law_met" (defArgs (top 23)) (defBody (top 23)) (defScope (top 23)) .none kV__law_met dc__law_met pm__law_met an__law_met cd__law_met ct__law_met), sl__law_met⟩)
    (c__law_met : PySem.W.codeIn K cd__law_met "_law_met" = true)
    (k__law_met : PySem.W.keepIn K (.ref fn__law_met) = true)
    (a__law_by_order : PySem.W.nsIn K mainGlobals "_law_by_order" = some (some (.ref fn__law_by_order)))
    (l__law_by_order : K.lookup fn__law_by_order = some ⟨oc__law_by_order, od__law_by_order, .func (PySem.W.fnOf "_law_by_order" "_law_by_order" (defArgs (top 24)) (defBody (top 24)) (defScope (top 24)) .none kV__law_by_order dc__law_by_order pm__law_by_order an__law_by_order cd__law_by_order ct__law_by_order), sl__law_by_order⟩)
    (c__law_by_order : PySem.W.codeIn K cd__law_by_order "_law_by_order" = true)
    (k__law_by_order : PySem.W.keepIn K (.ref fn__law_by_order) = true)
    (a__law_turn : PySem.W.nsIn K mainGlobals "_law_turn" = some (some (.ref fn__law_turn)))
    (l__law_turn : K.lookup fn__law_turn = some ⟨oc__law_turn, od__law_turn, .func (PySem.W.fnOf "_law_turn" "_law_turn" (defArgs (top 25)) (defBody (top 25)) (defScope (top 25)) .none kV__law_turn dc__law_turn pm__law_turn an__law_turn cd__law_turn ct__law_turn), sl__law_turn⟩)
    (c__law_turn : PySem.W.codeIn K cd__law_turn "_law_turn" = true)
    (k__law_turn : PySem.W.keepIn K (.ref fn__law_turn) = true)
    (a__law_corners : PySem.W.nsIn K mainGlobals "_law_corners" = some (some (.ref fn__law_corners)))
    (l__law_corners : K.lookup fn__law_corners = some ⟨oc__law_corners, od__law_corners, .func (PySem.W.fnOf "_law_corners" "_law_corners" (defArgs (top 26)) (defBody (top 26)) (defScope (top 26)) .none kV__law_corners dc__law_corners pm__law_corners an__law_corners cd__law_corners ct__law_corners), sl__law_corners⟩)
    (c__law_corners : PySem.W.codeIn K cd__law_corners "_law_corners" = true)
    (k__law_corners : PySem.W.keepIn K (.ref fn__law_corners) = true)
    (a__law_pairs : PySem.W.nsIn K mainGlobals "_law_pairs" = some (some (.ref fn__law_pairs)))
    (l__law_pairs : K.lookup fn__law_pairs = some ⟨oc__law_pairs, od__law_pairs, .func (PySem.W.fnOf "_law_pairs" "_law_pairs" (defArgs (top 27)) (defBody (top 27)) (defScope (top 27)) .none kV__law_pairs dc__law_pairs pm__law_pairs an__law_pairs cd__law_pairs ct__law_pairs), sl__law_pairs⟩)
    (c__law_pairs : PySem.W.codeIn K cd__law_pairs "_law_pairs" = true)
    (k__law_pairs : PySem.W.keepIn K (.ref fn__law_pairs) = true)
    (a_law : PySem.W.nsIn K mainGlobals "law" = some (some (.ref fn_law)))
    (l_law : K.lookup fn_law = some ⟨oc_law, od_law, .func (PySem.W.fnOf "law" "law" (defArgs (top 28)) (defBody (top 28)) (defScope (top 28)) .none kV_law dc_law pm_law an_law cd_law ct_law), sl_law⟩)
    (c_law : PySem.W.codeIn K cd_law "law" = true)
    (k_law : PySem.W.keepIn K (.ref fn_law) = true)
    (b_abs : PySem.W.nsIn K mainGlobals "abs" = some none)
    (b_enumerate : PySem.W.nsIn K mainGlobals "enumerate" = some none)
    (b_gcd : PySem.W.nsIn K mainGlobals "gcd" = some (some (.builtin "math.gcd")))
    (b_int : PySem.W.nsIn K mainGlobals "int" = some none)
    (b_len : PySem.W.nsIn K mainGlobals "len" = some none)
    (b_list : PySem.W.nsIn K mainGlobals "list" = some none)
    (b_max : PySem.W.nsIn K mainGlobals "max" = some none)
    (b_range : PySem.W.nsIn K mainGlobals "range" = some none)
    (b_sorted : PySem.W.nsIn K mainGlobals "sorted" = some none)
    (b_sum : PySem.W.nsIn K mainGlobals "sum" = some none)
    (b_tuple : PySem.W.nsIn K mainGlobals "tuple" = some none)
    (b_zip : PySem.W.nsIn K mainGlobals "zip" = some none)
    : ∃ fd : FuncData, (∀ (s : Shared) (v : Value), BindsTo s fd ⟨[v], []⟩ [("script", v)]) ∧ ∀ base : Heap, K.In base → base.Ns mainGlobals mg → FnOk l.prog w K mg base CX0 7 fa fd ["script"] (spLaw K) := by
  have e := hfa.symm.trans (PySem.W.mg_of X G a_law)
  cases e
  have T : Txt mg := ⟨PySem.W.mg_none_of X G b_abs, PySem.W.mg_none_of X G b_enumerate, PySem.W.mg_of X G b_gcd, PySem.W.mg_none_of X G b_int, PySem.W.mg_none_of X G b_len, PySem.W.mg_none_of X G b_list, PySem.W.mg_none_of X G b_max, PySem.W.mg_none_of X G b_range, PySem.W.mg_none_of X G b_sorted, PySem.W.mg_none_of X G b_sum, PySem.W.mg_none_of X G b_tuple, PySem.W.mg_none_of X G b_zip⟩
  have F_lowest := fun_mk (st := (top 2)) l_lowest c_lowest k_lowest
  have B_lowest := F_lowest.binds (ps := ["q", "numbers"]) fun _ _ _ _ _ _ us hl => match us, hl with | [_, _], _ => rfl
  have F_value := fun_mk (st := (top 3)) l_value c_value k_value
  have B_value := F_value.binds (ps := ["plane", "point"]) fun _ _ _ _ _ _ us hl => match us, hl with | [_, _], _ => rfl
  have F_lesser := fun_mk (st := (top 4)) l_lesser c_lesser k_lesser
  have B_lesser := F_lesser.binds (ps := ["one", "other"]) fun _ _ _ _ _ _ us hl => match us, hl with | [_, _], _ => rfl
  have F_between := fun_mk (st := (top 5)) l_between c_between k_between
  have B_between := F_between.binds (ps := ["one", "its", "other", "theirs"]) fun _ _ _ _ _ _ us hl => match us, hl with | [_, _, _, _], _ => rfl
  have F_whole_of := fun_mk (st := (top 6)) l_whole_of c_whole_of k_whole_of
  have B_whole_of := F_whole_of.binds (ps := ["points"]) fun _ _ _ _ _ _ us hl => match us, hl with | [_], _ => rfl
  have F_in_order := fun_mk (st := (top 7)) l_in_order c_in_order k_in_order
  have B_in_order := F_in_order.binds (ps := ["points"]) fun _ _ _ _ _ _ us hl => match us, hl with | [_], _ => rfl
  have F_tidy := fun_mk (st := (top 9)) l_tidy c_tidy k_tidy
  have B_tidy := F_tidy.binds (ps := ["corners"]) fun _ _ _ _ _ _ us hl => match us, hl with | [_], _ => rfl
  have F_cut := fun_mk (st := (top 10)) l_cut c_cut k_cut
  have B_cut := F_cut.binds (ps := ["corners", "plane"]) fun _ _ _ _ _ _ us hl => match us, hl with | [_, _], _ => rfl
  have F_cut_by := fun_mk (st := (top 11)) l_cut_by c_cut_by k_cut_by
  have B_cut_by := F_cut_by.binds (ps := ["corners", "planes"]) fun _ _ _ _ _ _ us hl => match us, hl with | [_, _], _ => rfl
  have F_region := fun_mk (st := (top 12)) l_region c_region k_region
  have B_region := F_region.binds (ps := ["corners", "planes", "at"]) fun _ _ _ _ _ _ us hl => match us, hl with | [_, _, _], _ => rfl
  have F__law_pen := fun_mk (st := (top 14)) l__law_pen c__law_pen k__law_pen
  have B__law_pen := F__law_pen.binds (ps := ["script"]) fun _ _ _ _ _ _ us hl => match us, hl with | [_], _ => rfl
  have F__law_draw := fun_mk (st := (top 15)) l__law_draw c__law_draw k__law_draw
  have B__law_draw := F__law_draw.binds (ps := ["pen", "many"]) fun _ _ _ _ _ _ us hl => match us, hl with | [_, _], _ => rfl
  have F__law_pick := fun_mk (st := (top 16)) l__law_pick c__law_pick k__law_pick
  have B__law_pick := F__law_pick.binds (ps := ["pen", "some"]) fun _ _ _ _ _ _ us hl => match us, hl with | [_, _], _ => rfl
  have F__law_mixed := fun_mk (st := (top 17)) l__law_mixed c__law_mixed k__law_mixed
  have B__law_mixed := F__law_mixed.binds (ps := ["pen", "some"]) fun _ _ _ _ _ _ us hl => match us, hl with | [_, _], _ => rfl
  have F__law_drawn_setting := fun_mk (st := (top 18)) l__law_drawn_setting c__law_drawn_setting k__law_drawn_setting
  have B__law_drawn_setting := F__law_drawn_setting.binds (ps := ["pen", "opens"]) fun _ _ _ _ _ _ us hl => match us, hl with | [_, _], _ => rfl
  have F__law_gcd := fun_mk (st := (top 19)) l__law_gcd c__law_gcd k__law_gcd
  have B__law_gcd := F__law_gcd.binds (ps := ["one", "other"]) fun _ _ _ _ _ _ us hl => match us, hl with | [_, _], _ => rfl
  have F__law_lowest := fun_mk (st := (top 20)) l__law_lowest c__law_lowest k__law_lowest
  have B__law_lowest := F__law_lowest.binds (ps := ["q", "numbers"]) fun _ _ _ _ _ _ us hl => match us, hl with | [_, _], _ => rfl
  have F__law_value := fun_mk (st := (top 21)) l__law_value c__law_value k__law_value
  have B__law_value := F__law_value.binds (ps := ["plane", "point"]) fun _ _ _ _ _ _ us hl => match us, hl with | [_, _], _ => rfl
  have F__law_edges_of := fun_mk (st := (top 22)) l__law_edges_of c__law_edges_of k__law_edges_of
  have B__law_edges_of := F__law_edges_of.binds (ps := ["opens"]) fun _ _ _ _ _ _ us hl => match us, hl with | [_], _ => rfl
  have F__law_met := fun_mk (st := (top 23)) l__law_met c__law_met k__law_met
  have B__law_met := F__law_met.binds (ps := ["one", "other"]) fun _ _ _ _ _ _ us hl => match us, hl with | [_, _], _ => rfl
  have F__law_by_order := fun_mk (st := (top 24)) l__law_by_order c__law_by_order k__law_by_order
  have B__law_by_order := F__law_by_order.binds (ps := ["points"]) fun _ _ _ _ _ _ us hl => match us, hl with | [_], _ => rfl
  have F__law_turn := fun_mk (st := (top 25)) l__law_turn c__law_turn k__law_turn
  have B__law_turn := F__law_turn.binds (ps := ["one", "other", "third"]) fun _ _ _ _ _ _ us hl => match us, hl with | [_, _, _], _ => rfl
  have F__law_corners := fun_mk (st := (top 26)) l__law_corners c__law_corners k__law_corners
  have B__law_corners := F__law_corners.binds (ps := ["planes", "many"]) fun _ _ _ _ _ _ us hl => match us, hl with | [_, _], _ => rfl
  have F__law_pairs := fun_mk (st := (top 27)) l__law_pairs c__law_pairs k__law_pairs
  have B__law_pairs := F__law_pairs.binds (ps := ["many"]) fun _ _ _ _ _ _ us hl => match us, hl with | [_], _ => rfl
  have F_law := fun_mk (st := (top 28)) l_law c_law k_law
  have B_law := F_law.binds (ps := ["script"]) fun _ _ _ _ _ _ us hl => match us, hl with | [_], _ => rfl
  refine ⟨PySem.W.fnOf "law" "law" (defArgs (top 28)) (defBody (top 28)) (defScope (top 28)) .none kV_law dc_law pm_law an_law cd_law ct_law, fun s v => .of_eq rfl, fun base _ _ => ?_⟩
  have G_lowest : Has l.prog w K mg base 1 "lowest" ["q", "numbers"] 2 s_lowest (top 2) fn_lowest _ := ⟨ok_lowest  F_lowest T r_lowest, PySem.W.mg_of X G a_lowest, F_lowest, B_lowest⟩
  have G_value : Has l.prog w K mg base 1 "value" ["plane", "point"] 2 s_value (top 3) fn_value _ := ⟨ok_value  F_value T r_value, PySem.W.mg_of X G a_value, F_value, B_value⟩
  have G_lesser : Has l.prog w K mg base 1 "lesser" ["one", "other"] 2 s_lesser (top 4) fn_lesser _ := ⟨ok_lesser  F_lesser T r_lesser, PySem.W.mg_of X G a_lesser, F_lesser, B_lesser⟩
  have G_whole_of : Has l.prog w K mg base 1 "whole_of" ["points"] 1 s_whole_of (top 6) fn_whole_of _ := ⟨ok_whole_of  F_whole_of T r_whole_of, PySem.W.mg_of X G a_whole_of, F_whole_of, B_whole_of⟩
  have G__law_draw : Has l.prog w K mg base 1 "_law_draw" ["pen", "many"] 2 s__law_draw (top 15) fn__law_draw _ := ⟨ok__law_draw  F__law_draw T r__law_draw, PySem.W.mg_of X G a__law_draw, F__law_draw, B__law_draw⟩
  have G__law_gcd : Has l.prog w K mg base 1 "_law_gcd" ["one", "other"] 2 s__law_gcd (top 19) fn__law_gcd _ := ⟨ok__law_gcd  F__law_gcd T r__law_gcd, PySem.W.mg_of X G a__law_gcd, F__law_gcd, B__law_gcd⟩
  have G__law_value : Has l.prog w K mg base 1 "_law_value" ["plane", "point"] 2 s__law_value (top 21) fn__law_value _ := ⟨ok__law_value  F__law_value T r__law_value, PySem.W.mg_of X G a__law_value, F__law_value, B__law_value⟩
  have G__law_edges_of : Has l.prog w K mg base 1 "_law_edges_of" ["opens"] 1 s__law_edges_of (top 22) fn__law_edges_of _ := ⟨ok__law_edges_of  F__law_edges_of T r__law_edges_of, PySem.W.mg_of X G a__law_edges_of, F__law_edges_of, B__law_edges_of⟩
  have G__law_by_order : Has l.prog w K mg base 1 "_law_by_order" ["points"] 1 s__law_by_order (top 24) fn__law_by_order _ := ⟨ok__law_by_order  F__law_by_order T r__law_by_order, PySem.W.mg_of X G a__law_by_order, F__law_by_order, B__law_by_order⟩
  have G__law_turn : Has l.prog w K mg base 1 "_law_turn" ["one", "other", "third"] 3 s__law_turn (top 25) fn__law_turn _ := ⟨ok__law_turn  F__law_turn T r__law_turn, PySem.W.mg_of X G a__law_turn, F__law_turn, B__law_turn⟩
  have G__law_pairs : Has l.prog w K mg base 1 "_law_pairs" ["many"] 1 s__law_pairs (top 27) fn__law_pairs _ := ⟨ok__law_pairs  F__law_pairs T r__law_pairs, PySem.W.mg_of X G a__law_pairs, F__law_pairs, B__law_pairs⟩
  have G_between : Has l.prog w K mg base 2 "between" ["one", "its", "other", "theirs"] 4 s_between (top 5) fn_between _ := ⟨ok_between G_lowest F_between T r_between, PySem.W.mg_of X G a_between, F_between, B_between⟩
  have G_in_order : Has l.prog w K mg base 2 "in_order" ["points"] 1 s_in_order (top 7) fn_in_order _ := ⟨ok_in_order G_whole_of F_in_order T r_in_order, PySem.W.mg_of X G a_in_order, F_in_order, B_in_order⟩
  have G__law_pick : Has l.prog w K mg base 2 "_law_pick" ["pen", "some"] 2 s__law_pick (top 16) fn__law_pick _ := ⟨ok__law_pick G__law_draw F__law_pick T r__law_pick, PySem.W.mg_of X G a__law_pick, F__law_pick, B__law_pick⟩
  have G__law_mixed : Has l.prog w K mg base 2 "_law_mixed" ["pen", "some"] 2 s__law_mixed (top 17) fn__law_mixed _ := ⟨ok__law_mixed G__law_draw F__law_mixed T r__law_mixed, PySem.W.mg_of X G a__law_mixed, F__law_mixed, B__law_mixed⟩
  have G__law_lowest : Has l.prog w K mg base 2 "_law_lowest" ["q", "numbers"] 2 s__law_lowest (top 20) fn__law_lowest _ := ⟨ok__law_lowest G__law_gcd F__law_lowest T r__law_lowest, PySem.W.mg_of X G a__law_lowest, F__law_lowest, B__law_lowest⟩
  have G_tidy : Has l.prog w K mg base 3 "tidy" ["corners"] 1 s_tidy (top 9) fn_tidy _ := ⟨ok_tidy G_in_order F_tidy T r_tidy, PySem.W.mg_of X G a_tidy, F_tidy, B_tidy⟩
  have G__law_drawn_setting : Has l.prog w K mg base 3 "_law_drawn_setting" ["pen", "opens"] 2 s__law_drawn_setting (top 18) fn__law_drawn_setting _ := ⟨ok__law_drawn_setting G__law_draw G__law_lowest G__law_pick F__law_drawn_setting T r__law_drawn_setting, PySem.W.mg_of X G a__law_drawn_setting, F__law_drawn_setting, B__law_drawn_setting⟩
  have G__law_met : Has l.prog w K mg base 3 "_law_met" ["one", "other"] 2 s__law_met (top 23) fn__law_met _ := ⟨ok__law_met G__law_lowest F__law_met T r__law_met, PySem.W.mg_of X G a__law_met, F__law_met, B__law_met⟩
  have G_cut : Has l.prog w K mg base 4 "cut" ["corners", "plane"] 2 s_cut (top 10) fn_cut _ := ⟨ok_cut G_between G_tidy G_value F_cut T r_cut, PySem.W.mg_of X G a_cut, F_cut, B_cut⟩
  have G__law_corners : Has l.prog w K mg base 4 "_law_corners" ["planes", "many"] 2 s__law_corners (top 26) fn__law_corners _ := ⟨ok__law_corners G__law_by_order G__law_lowest G__law_met G__law_pairs G__law_turn G__law_value F__law_corners T r__law_corners, PySem.W.mg_of X G a__law_corners, F__law_corners, B__law_corners⟩
  have G_cut_by : Has l.prog w K mg base 5 "cut_by" ["corners", "planes"] 2 s_cut_by (top 11) fn_cut_by _ := ⟨ok_cut_by G_cut F_cut_by T r_cut_by, PySem.W.mg_of X G a_cut_by, F_cut_by, B_cut_by⟩
  have G_region : Has l.prog w K mg base 6 "region" ["corners", "planes", "at"] 3 s_region (top 12) fn_region _ := ⟨ok_region G_cut_by G_lesser F_region T r_region, PySem.W.mg_of X G a_region, F_region, B_region⟩
  exact ok_law G__law_corners G__law_draw G__law_drawn_setting G__law_edges_of G__law_mixed G__law_pick G__law_value G_cut G_region F__law_pen (PySem.W.mg_of X G a__law_pen) B__law_pen F_law T law_read
theorem walk {l : PySem.W.OpenLaw} {q : Program} {loose : List Str} {XP : (Str → Option Value) → Heap → Prop} {YP : World → Heap → Prop} {d : DefRec} {K : Params → PySem.W.Frag} (hn : l.most = some 63) (hdf : d.params.defaults = []) (hY : ∀ (w : World) (h : Heap), YP w h → (K w.params).In h)
    (F : ∀ (w : World) (mg : Str → Option Value) (fa : Addr) (h : Heap), (K w.params).In h → h.Ns mainGlobals mg → mg d.name = some (.ref fa) → ∃ fd : FuncData, (∀ (s : Shared) (u : Value), BindsTo s fd ⟨[u], []⟩ [("script", u)]) ∧ ∀ base : Heap, (K w.params).In base → base.Ns mainGlobals mg → FnOk l.prog w (K w.params) mg base CX0 7 fa fd ["script"] (spLaw (K w.params))) :
    PySem.W.WalkO q loose XP YP l.row.toRowW d [] (fun f vs => PySem.call f vs) :=
  L2.walk_of (n := 63) (k := 7) (x := "script") (CX := fun _ => CX0) (sp := fun w => spLaw (K w.params)) hn (by decide) hdf ⟨rfl, by decide, by decide⟩ hY F (fun _ _ a ns hl _ hS => ⟨a, ns, rfl, hS, hl, fun _ => rfl⟩) fun _ _ _ _ _ z => z
end K18
open PySem PySem.W PyProof.Rows
set_option maxRecDepth 100000 in
set_option maxHeartbeats 0 in
theorem PySem.Challenge.cw_termmaps_k18_regions_of_planes_holds : PySem.Challenge.rw_termmaps_k18_regions_of_planes.Holds := by
  w_on; o_law; k_head; (case hw => w_witness2)
  k_fill
  refine K18.walk (l := PySem.Challenge.rw_termmaps_k18_regions_of_planes) rfl rfl (fun w h Y => PySem.W.kIn_of Y) ?F
  case F =>
    intro w mg fa h KX G hmg
    refine' K18.all_mk KX G hmg ?a_lowest ?l_lowest ?c_lowest ?k_lowest ?a_value ?l_value ?c_value ?k_value ?a_lesser ?l_lesser ?c_lesser ?k_lesser ?a_between ?l_between ?c_between ?k_between ?a_whole_of ?l_whole_of ?c_whole_of ?k_whole_of ?a_in_order ?l_in_order ?c_in_order ?k_in_order ?a_tidy ?l_tidy ?c_tidy ?k_tidy ?a_cut ?l_cut ?c_cut ?k_cut ?a_cut_by ?l_cut_by ?c_cut_by ?k_cut_by ?a_region ?l_region ?c_region ?k_region ?a__law_pen ?l__law_pen ?c__law_pen ?k__law_pen ?a__law_draw ?l__law_draw ?c__law_draw ?k__law_draw ?a__law_pick ?l__law_pick ?c__law_pick ?k__law_pick ?a__law_mixed ?l__law_mixed ?c__law_mixed ?k__law_mixed ?a__law_drawn_setting ?l__law_drawn_setting ?c__law_drawn_setting ?k__law_drawn_setting ?a__law_gcd ?l__law_gcd ?c__law_gcd ?k__law_gcd ?a__law_lowest ?l__law_lowest ?c__law_lowest ?k__law_lowest ?a__law_value ?l__law_value ?c__law_value ?k__law_value ?a__law_edges_of ?l__law_edges_of ?c__law_edges_of ?k__law_edges_of ?a__law_met ?l__law_met ?c__law_met ?k__law_met ?a__law_by_order ?l__law_by_order ?c__law_by_order ?k__law_by_order ?a__law_turn ?l__law_turn ?c__law_turn ?k__law_turn ?a__law_corners ?l__law_corners ?c__law_corners ?k__law_corners ?a__law_pairs ?l__law_pairs ?c__law_pairs ?k__law_pairs ?a_law ?l_law ?c_law ?k_law ?b_abs ?b_enumerate ?b_gcd ?b_int ?b_len ?b_list ?b_max ?b_range ?b_sorted ?b_sum ?b_tuple ?b_zip
    (case a_lowest => k_is)
    (case l_lowest => k_is)
    (case c_lowest => k_is)
    (case k_lowest => k_is)
    (case a_value => k_is)
    (case l_value => k_is)
    (case c_value => k_is)
    (case k_value => k_is)
    (case a_lesser => k_is)
    (case l_lesser => k_is)
    (case c_lesser => k_is)
    (case k_lesser => k_is)
    (case a_between => k_is)
    (case l_between => k_is)
    (case c_between => k_is)
    (case k_between => k_is)
    (case a_whole_of => k_is)
    (case l_whole_of => k_is)
    (case c_whole_of => k_is)
    (case k_whole_of => k_is)
    (case a_in_order => k_is)
    (case l_in_order => k_is)
    (case c_in_order => k_is)
    (case k_in_order => k_is)
    (case a_tidy => k_is)
    (case l_tidy => k_is)
    (case c_tidy => k_is)
    (case k_tidy => k_is)
    (case a_cut => k_is)
    (case l_cut => k_is)
    (case c_cut => k_is)
    (case k_cut => k_is)
    (case a_cut_by => k_is)
    (case l_cut_by => k_is)
    (case c_cut_by => k_is)
    (case k_cut_by => k_is)
    (case a_region => k_is)
    (case l_region => k_is)
    (case c_region => k_is)
    (case k_region => k_is)
    (case a__law_pen => k_is)
    (case l__law_pen => k_is)
    (case c__law_pen => k_is)
    (case k__law_pen => k_is)
    (case a__law_draw => k_is)
    (case l__law_draw => k_is)
    (case c__law_draw => k_is)
    (case k__law_draw => k_is)
    (case a__law_pick => k_is)
    (case l__law_pick => k_is)
    (case c__law_pick => k_is)
    (case k__law_pick => k_is)
    (case a__law_mixed => k_is)
    (case l__law_mixed => k_is)
    (case c__law_mixed => k_is)
    (case k__law_mixed => k_is)
    (case a__law_drawn_setting => k_is)
    (case l__law_drawn_setting => k_is)
    (case c__law_drawn_setting => k_is)
    (case k__law_drawn_setting => k_is)
    (case a__law_gcd => k_is)
    (case l__law_gcd => k_is)
    (case c__law_gcd => k_is)
    (case k__law_gcd => k_is)
    (case a__law_lowest => k_is)
    (case l__law_lowest => k_is)
    (case c__law_lowest => k_is)
    (case k__law_lowest => k_is)
    (case a__law_value => k_is)
    (case l__law_value => k_is)
    (case c__law_value => k_is)
    (case k__law_value => k_is)
    (case a__law_edges_of => k_is)
    (case l__law_edges_of => k_is)
    (case c__law_edges_of => k_is)
    (case k__law_edges_of => k_is)
    (case a__law_met => k_is)
    (case l__law_met => k_is)
    (case c__law_met => k_is)
    (case k__law_met => k_is)
    (case a__law_by_order => k_is)
    (case l__law_by_order => k_is)
    (case c__law_by_order => k_is)
    (case k__law_by_order => k_is)
    (case a__law_turn => k_is)
    (case l__law_turn => k_is)
    (case c__law_turn => k_is)
    (case k__law_turn => k_is)
    (case a__law_corners => k_is)
    (case l__law_corners => k_is)
    (case c__law_corners => k_is)
    (case k__law_corners => k_is)
    (case a__law_pairs => k_is)
    (case l__law_pairs => k_is)
    (case c__law_pairs => k_is)
    (case k__law_pairs => k_is)
    (case a_law => k_is)
    (case l_law => k_is)
    (case c_law => k_is)
    (case k_law => k_is)
    (case b_abs => k_is)
    (case b_enumerate => k_is)
    (case b_gcd => k_is)
    (case b_int => k_is)
    (case b_len => k_is)
    (case b_list => k_is)
    (case b_max => k_is)
    (case b_range => k_is)
    (case b_sorted => k_is)
    (case b_sum => k_is)
    (case b_tuple => k_is)
    (case b_zip => k_is)
