import PyProof.Rows.All
import Wide.All
import OpenK.AllK
import Wide.FinOn
import HandS.ForMost
import HandS.Star
import HandS.Wide
import HandS.Zip
import HandS.TupAny
import HandS.IsInst
import HandS.Deep
import HandS.Defaults
import HandS.Flow
import HandS.Evl
import KE.DataMinMax
import PySem.Challenge.RW_rightmarks_k82_whole_rules_by_rests
set_option Elab.async false
set_option linter.all false
set_option maxRecDepth 100000

/-! ## RmM -/
namespace Rm
def cdiv (ns : List Int) : Nat := ns.foldl (fun a n => Nat.gcd a n.natAbs) 0
def nz (ns : List Int) : List Int := ns.filter (fun n => !decide (n = 0))
def IsRay (ns : List Int) : Prop := cdiv ns = 1 ∧ ∃ f, (nz ns).head? = some f ∧ 0 < f
def sgn (f : Int) : Int := if 0 < f then 1 else -1
def hd (ns : List Int) : Int := (nz ns).headD 0
def norm (ns : List Int) : List Int := ns.map fun n => n / (cdiv ns : Int) * sgn (hd ns)
def dot (xs ys : List Int) : Int := (List.zipWith (· * ·) xs ys).sum

theorem fold_gcd_dvd : ∀ (ns : List Int) (a : Nat), (ns.foldl (fun a n => Nat.gcd a n.natAbs) a) ∣ a ∧ ∀ n ∈ ns, (ns.foldl (fun a n => Nat.gcd a n.natAbs) a) ∣ n.natAbs
  | [], a => ⟨Nat.dvd_refl a, fun _ h => by cases h⟩
  | m :: r, a => by
    obtain ⟨h1, h2⟩ := fold_gcd_dvd r (Nat.gcd a m.natAbs)
    refine ⟨Nat.dvd_trans h1 (Nat.gcd_dvd_left _ _), fun n hn => ?_⟩
    rcases List.mem_cons.mp hn with rfl | hn
    · exact Nat.dvd_trans h1 (Nat.gcd_dvd_right _ _)
    · exact h2 n hn
theorem cdiv_dvd {ns : List Int} {n : Int} (h : n ∈ ns) : cdiv ns ∣ n.natAbs := (fold_gcd_dvd ns 0).2 n h
theorem cdiv_dvdI {ns : List Int} {n : Int} (h : n ∈ ns) : (cdiv ns : Int) ∣ n := Int.ofNat_dvd_left.mpr (cdiv_dvd h)
theorem fold_dvd_gcd : ∀ (ns : List Int) (a d : Nat), d ∣ a → (∀ n ∈ ns, d ∣ n.natAbs) → d ∣ (ns.foldl (fun a n => Nat.gcd a n.natAbs) a)
  | [], a, d, h, _ => h
  | m :: r, a, d, h, hn => fold_dvd_gcd r _ d (Nat.dvd_gcd h (hn m (List.mem_cons_self ..))) fun n hm => hn n (List.mem_cons_of_mem _ hm)
theorem dvd_cdiv {ns : List Int} {d : Nat} (h : ∀ n ∈ ns, d ∣ n.natAbs) : d ∣ cdiv ns := fold_dvd_gcd ns 0 d (Nat.dvd_zero d) h
theorem nz_mem {ns : List Int} {n : Int} : n ∈ nz ns ↔ n ∈ ns ∧ n ≠ 0 := by
  unfold nz
  rw [List.mem_filter]
  simp
theorem cdiv_pos {ns : List Int} (h : nz ns ≠ []) : 0 < cdiv ns := by
  obtain ⟨n, hn⟩ := List.exists_mem_of_ne_nil _ h
  obtain ⟨h1, h2⟩ := nz_mem.mp hn
  rcases Nat.eq_zero_or_pos (cdiv ns) with e | e
  · have q := cdiv_dvd h1
    rw [e] at q
    have := Nat.eq_zero_of_zero_dvd q
    omega
  · exact e
theorem fold_gcd_map (g : Nat) (f : Int → Int) : ∀ (ns : List Int) (a : Nat), (∀ n ∈ ns, n.natAbs = g * (f n).natAbs) → ns.foldl (fun a n => Nat.gcd a n.natAbs) (g * a) = g * (ns.map f).foldl (fun a n => Nat.gcd a n.natAbs) a
  | [], a, _ => rfl
  | m :: r, a, h => by
    show r.foldl (fun a n => Nat.gcd a n.natAbs) (Nat.gcd (g * a) m.natAbs) = g * (r.map f).foldl (fun a n => Nat.gcd a n.natAbs) (Nat.gcd a (f m).natAbs)
    rw [h m (List.mem_cons_self ..), Nat.gcd_mul_left]
    exact fold_gcd_map g f r _ fun n hn => h n (List.mem_cons_of_mem _ hn)
theorem sgn_abs (f : Int) : (sgn f).natAbs = 1 := by
  unfold sgn
  split <;> rfl
theorem norm_abs {ns : List Int} {n : Int} (h : n ∈ ns) : n.natAbs = cdiv ns * (n / (cdiv ns : Int) * sgn (hd ns)).natAbs := by
  rw [Int.natAbs_mul, sgn_abs, Nat.mul_one, ← Int.natAbs_natCast (cdiv ns), ← Int.natAbs_mul, Int.natAbs_natCast, Int.mul_ediv_cancel' (cdiv_dvdI h)]
theorem cdiv_norm {ns : List Int} (h : nz ns ≠ []) : cdiv (norm ns) = 1 := by
  have p := cdiv_pos h
  have e := fold_gcd_map (cdiv ns) (fun n => n / (cdiv ns : Int) * sgn (hd ns)) ns 0 fun n hn => norm_abs hn
  rw [Nat.mul_zero] at e
  have e2 : cdiv ns * 1 = cdiv ns * cdiv (norm ns) := by
    rw [Nat.mul_one]
    exact e
  exact (Nat.eq_of_mul_eq_mul_left p e2).symm
theorem norm_len (ns : List Int) : (norm ns).length = ns.length := List.length_map ..
/-- a common factor -/
theorem norm_back {ns : List Int} : ns = (norm ns).map ((cdiv ns : Int) * sgn (hd ns) * ·) := by
  unfold norm
  rw [List.map_map]
  conv => lhs; rw [← List.map_id ns]
  · refine List.map_congr_left fun n hn => ?_
    have s2 : sgn (hd ns) * sgn (hd ns) = 1 := by
      unfold sgn
      split <;> rfl
    show n = (cdiv ns : Int) * sgn (hd ns) * (n / (cdiv ns : Int) * sgn (hd ns))
    have e : (cdiv ns : Int) * sgn (hd ns) * (n / (cdiv ns : Int) * sgn (hd ns)) = ((cdiv ns : Int) * (n / (cdiv ns : Int))) * (sgn (hd ns) * sgn (hd ns)) := by
      simp only [Int.mul_assoc, Int.mul_comm, Int.mul_left_comm]
    rw [e, s2, Int.mul_one, Int.mul_ediv_cancel' (cdiv_dvdI hn)]
theorem fac_ne {ns : List Int} (h : nz ns ≠ []) : (cdiv ns : Int) * sgn (hd ns) ≠ 0 := by
  have p := cdiv_pos h
  refine Int.mul_ne_zero (by omega) ?_
  unfold sgn
  split <;> decide
theorem nz_map {f : Int → Int} (h : ∀ n, f n = 0 ↔ n = 0) : ∀ ns : List Int, nz (ns.map f) = (nz ns).map f
  | [] => rfl
  | n :: r => by
    have ih := nz_map h r
    unfold nz at ih ⊢
    rw [List.map_cons, List.filter_cons, List.filter_cons]
    by_cases e : n = 0
    · have e2 : f n = 0 := (h n).mpr e
      rw [if_neg (by rw [e2]; decide), if_neg (by rw [e]; decide)]
      exact ih
    · have e2 : f n ≠ 0 := fun z => e ((h n).mp z)
      rw [if_pos (by rw [decide_eq_false e2]; rfl), if_pos (by rw [decide_eq_false e]; rfl), List.map_cons, ih]
theorem nz_fac {c : Int} (hc : c ≠ 0) (ns : List Int) : nz (ns.map (c * ·)) = (nz ns).map (c * ·) :=
  nz_map (fun n => ⟨fun e => (Int.mul_eq_zero.mp e).resolve_left hc, fun e => by rw [e, Int.mul_zero]⟩) ns
theorem norm_ray {ns : List Int} (h : nz ns ≠ []) : IsRay (norm ns) := by
  refine ⟨cdiv_norm h, ?_⟩
  have e := congrArg nz (norm_back (ns := ns))
  rw [nz_fac (fac_ne h)] at e
  cases q : nz (norm ns) with
  | nil =>
    rw [q] at e
    exact absurd e h
  | cons f r =>
    refine ⟨f, rfl, ?_⟩
    rw [q] at e
    have e1 : hd ns = (cdiv ns : Int) * sgn (hd ns) * f := by
      show (nz ns).headD 0 = _
      rw [e]
      rfl
    have p := cdiv_pos h
    have fn : f ≠ 0 := by
      have : f ∈ nz (norm ns) := by rw [q]; exact List.mem_cons_self ..
      exact (nz_mem.mp this).2
    have pg : 0 < (cdiv ns : Int) := by omega
    by_cases s : 0 < hd ns
    · have es : sgn (hd ns) = 1 := if_pos s
      rw [es, Int.mul_one] at e1
      rcases Int.lt_trichotomy f 0 with q | q | q
      · have := Int.mul_neg_of_pos_of_neg pg q
        omega
      · exact absurd q fn
      · exact q
    · have es : sgn (hd ns) = -1 := if_neg s
      rw [es] at e1
      rcases Int.lt_trichotomy f 0 with q | q | q
      · have := Int.mul_neg_of_pos_of_neg pg q
        have e2 : (cdiv ns : Int) * -1 * f = -((cdiv ns : Int) * f) := by
          rw [Int.mul_neg_one, Int.neg_mul]
        omega
      · exact absurd q fn
      · exact q
theorem norm_le {ns : List Int} {B : Nat} (h : ∀ n ∈ ns, n.natAbs ≤ B) (hz : nz ns ≠ []) : ∀ m ∈ norm ns, m.natAbs ≤ B := by
  intro m hm
  obtain ⟨n, hn, rfl⟩ := List.mem_map.mp hm
  have e := norm_abs hn
  have p := cdiv_pos hz
  have h1 := h n hn
  refine Nat.le_trans ?_ h1
  conv => rhs; rw [e]
  exact Nat.le_mul_of_pos_left _ p
end Rm

/-! ## RmN -/
namespace Rm
theorem dot_nil (ys : List Int) : dot [] ys = 0 := by cases ys <;> rfl
theorem dot_nil2 (xs : List Int) : dot xs [] = 0 := by cases xs <;> rfl
theorem dot_cons (x y : Int) (xs ys : List Int) : dot (x :: xs) (y :: ys) = x * y + dot xs ys := by
  unfold dot
  rw [List.zipWith_cons_cons, List.sum_cons]
theorem dot_map (c d : Int) : ∀ xs ys : List Int, dot (xs.map (c * ·)) (ys.map (d * ·)) = c * d * dot xs ys
  | [], ys => by rw [List.map_nil, dot_nil, dot_nil, Int.mul_zero]
  | x :: xs, [] => by rw [List.map_nil, dot_nil2, dot_nil2, Int.mul_zero]
  | x :: xs, y :: ys => by
    rw [List.map_cons, List.map_cons, dot_cons, dot_cons, dot_map c d xs ys]
    grind
theorem dot_comm : ∀ xs ys : List Int, dot xs ys = dot ys xs
  | [], ys => by rw [dot_nil, dot_nil2]
  | x :: xs, [] => by rw [dot_nil, dot_nil2]
  | x :: xs, y :: ys => by rw [dot_cons, dot_cons, dot_comm xs ys, Int.mul_comm]
theorem dot_norm {xs ys : List Int} (hx : nz xs ≠ []) (hy : nz ys ≠ []) (h : dot xs ys = 0) : dot (norm xs) (norm ys) = 0 := by
  have e1 := norm_back (ns := xs)
  have e2 := norm_back (ns := ys)
  have e : dot xs ys = ((cdiv xs : Int) * sgn (hd xs)) * ((cdiv ys : Int) * sgn (hd ys)) * dot (norm xs) (norm ys) := by
    conv => lhs; rw [e1, e2]
    exact dot_map _ _ _ _
  rw [h] at e
  exact (Int.mul_eq_zero.mp e.symm).resolve_left (Int.mul_ne_zero (fac_ne hx) (fac_ne hy))
theorem sq_nonneg (x : Int) : 0 ≤ x * x := by
  rcases Int.le_total 0 x with h | h
  · exact Int.mul_nonneg h h
  · exact Int.mul_nonneg_of_nonpos_of_nonpos h h
theorem sq_pos {x : Int} (h : x ≠ 0) : 0 < x * x := by
  have := sq_nonneg x
  have : x * x ≠ 0 := Int.mul_ne_zero h h
  omega
theorem dot_self_nonneg : ∀ xs : List Int, 0 ≤ dot xs xs
  | [] => Int.le_refl _
  | x :: xs => by
    rw [dot_cons]
    have := dot_self_nonneg xs
    have := sq_nonneg x
    omega
theorem dot_self_pos : ∀ {xs : List Int}, (∃ x ∈ xs, x ≠ 0) → 0 < dot xs xs
  | [], ⟨_, h, _⟩ => by cases h
  | x :: xs, ⟨y, h, hy⟩ => by
    rw [dot_cons]
    have h1 := sq_nonneg x
    have h2 := dot_self_nonneg xs
    rcases List.mem_cons.mp h with rfl | h
    · have := sq_pos hy
      omega
    · have := dot_self_pos ⟨y, h, hy⟩
      omega
theorem ray_nz {xs : List Int} (h : IsRay xs) : nz xs ≠ [] := by
  obtain ⟨_, f, hf, _⟩ := h
  intro e
  rw [e] at hf
  cases hf
theorem nz_ex {xs : List Int} (h : nz xs ≠ []) : ∃ x ∈ xs, x ≠ 0 := by
  obtain ⟨n, hn⟩ := List.exists_mem_of_ne_nil _ h
  obtain ⟨h1, h2⟩ := nz_mem.mp hn
  exact ⟨n, h1, h2⟩
theorem nz_of {xs : List Int} (h : ∃ x ∈ xs, x ≠ 0) : nz xs ≠ [] := by
  obtain ⟨x, h1, h2⟩ := h
  exact List.ne_nil_of_mem (nz_mem.mpr ⟨h1, h2⟩)

/-! ### the product -/
def cross (xs ys : List Int) : List Int := match xs, ys with
  | [a, b, c], [d, e, f] => [b * f - c * e, c * d - a * f, a * e - b * d]
  | _, _ => []
theorem cross_dot1 (a b c d e f : Int) : dot [a, b, c] (cross [a, b, c] [d, e, f]) = 0 := by
  show dot [a, b, c] [b * f - c * e, c * d - a * f, a * e - b * d] = 0
  simp only [dot_cons, dot_nil]
  grind
theorem cross_dot2 (a b c d e f : Int) : dot [d, e, f] (cross [a, b, c] [d, e, f]) = 0 := by
  show dot [d, e, f] [b * f - c * e, c * d - a * f, a * e - b * d] = 0
  simp only [dot_cons, dot_nil]
  grind
theorem dvd_of_par {a d : Int} {xs : List Int} (h1 : cdiv xs = 1) (h : ∀ x ∈ xs, a ∣ d * x) : a ∣ d := by
  have e : a.natAbs ∣ d.natAbs * cdiv xs := by
    have q := dvd_cdiv (ns := xs.map (d * ·)) (d := a.natAbs) fun n hn => by
      obtain ⟨x, hx, rfl⟩ := List.mem_map.mp hn
      exact Int.natAbs_dvd_natAbs.mpr (h x hx)
    have e2 := fold_gcd_map d.natAbs (fun x => x) xs 0
    have e3 : cdiv (xs.map (d * ·)) = d.natAbs * cdiv xs := by
      have : ∀ (ys : List Int) (k : Nat), (ys.map (d * ·)).foldl (fun a n => Nat.gcd a n.natAbs) (d.natAbs * k) = d.natAbs * ys.foldl (fun a n => Nat.gcd a n.natAbs) k := by
        intro ys
        induction ys with
        | nil => intro k; rfl
        | cons y r ih =>
          intro k
          show (r.map (d * ·)).foldl (fun a n => Nat.gcd a n.natAbs) (Nat.gcd (d.natAbs * k) (d * y).natAbs) = _
          rw [Int.natAbs_mul, Nat.gcd_mul_left]
          exact ih _
      have q := this xs 0
      rw [Nat.mul_zero] at q
      exact q
    rw [e3] at q
    exact q
  rw [h1, Nat.mul_one] at e
  exact Int.natAbs_dvd_natAbs.mp e
theorem abs_eq {a d : Int} (h1 : a ∣ d) (h2 : d ∣ a) : d = a ∨ d = -a := by
  have := Nat.dvd_antisymm (Int.natAbs_dvd_natAbs.mpr h1) (Int.natAbs_dvd_natAbs.mpr h2)
  omega
/-- the first that is not 0 -/
def lead (xs : List Int) : Int := hd xs
theorem ray_head {a b c : Int} (h : IsRay [a, b, c]) : 0 < a ∨ (a = 0 ∧ 0 < b) ∨ (a = 0 ∧ b = 0 ∧ 0 < c) := by
  obtain ⟨_, f, hf, hp⟩ := h
  by_cases ha : a = 0
  · by_cases hb : b = 0
    · by_cases hc : c = 0
      · subst ha hb hc
        cases hf
      · subst ha hb
        have e : nz [0, 0, c] = [c] := by simp [nz, hc]
        rw [e] at hf
        cases hf
        exact .inr (.inr ⟨rfl, rfl, hp⟩)
    · subst ha
      have e : nz [0, b, c] = b :: nz [c] := by simp [nz, hb]
      rw [e] at hf
      cases hf
      exact .inr (.inl ⟨rfl, hp⟩)
  · have e : nz [a, b, c] = a :: nz [b, c] := by simp [nz, ha]
    rw [e] at hf
    cases hf
    exact .inl hp
theorem cross_ne {a b c d e f : Int} (hx : IsRay [a, b, c]) (hy : IsRay [d, e, f]) (h1 : b * f - c * e = 0) (h2 : c * d - a * f = 0) (h3 : a * e - b * d = 0) : [a, b, c] = [d, e, f] := by
  have ad : a ∣ d := dvd_of_par hx.1 fun x hm => by
    simp only [List.mem_cons, List.not_mem_nil, or_false] at hm
    rcases hm with rfl | rfl | rfl
    · exact ⟨d, Int.mul_comm _ _⟩
    · exact ⟨e, by rw [Int.mul_comm]; omega⟩
    · exact ⟨f, by rw [Int.mul_comm]; omega⟩
  have be : b ∣ e := dvd_of_par hx.1 fun x hm => by
    simp only [List.mem_cons, List.not_mem_nil, or_false] at hm
    rcases hm with rfl | rfl | rfl
    · exact ⟨d, by rw [Int.mul_comm]; omega⟩
    · exact ⟨e, Int.mul_comm _ _⟩
    · exact ⟨f, by rw [Int.mul_comm]; omega⟩
  have cf : c ∣ f := dvd_of_par hx.1 fun x hm => by
    simp only [List.mem_cons, List.not_mem_nil, or_false] at hm
    rcases hm with rfl | rfl | rfl
    · exact ⟨d, by rw [Int.mul_comm]; omega⟩
    · exact ⟨e, by rw [Int.mul_comm]; omega⟩
    · exact ⟨f, Int.mul_comm _ _⟩
  have da : d ∣ a := dvd_of_par hy.1 fun x hm => by
    simp only [List.mem_cons, List.not_mem_nil, or_false] at hm
    rcases hm with rfl | rfl | rfl
    · exact ⟨a, Int.mul_comm _ _⟩
    · exact ⟨b, by rw [Int.mul_comm d]; omega⟩
    · exact ⟨c, by rw [Int.mul_comm d]; omega⟩
  have eb : e ∣ b := dvd_of_par hy.1 fun x hm => by
    simp only [List.mem_cons, List.not_mem_nil, or_false] at hm
    rcases hm with rfl | rfl | rfl
    · exact ⟨a, by rw [Int.mul_comm e]; omega⟩
    · exact ⟨b, Int.mul_comm _ _⟩
    · exact ⟨c, by rw [Int.mul_comm e]; omega⟩
  have fc : f ∣ c := dvd_of_par hy.1 fun x hm => by
    simp only [List.mem_cons, List.not_mem_nil, or_false] at hm
    rcases hm with rfl | rfl | rfl
    · exact ⟨a, by rw [Int.mul_comm f]; omega⟩
    · exact ⟨b, by rw [Int.mul_comm f]; omega⟩
    · exact ⟨c, Int.mul_comm _ _⟩
  have k1 := abs_eq ad da
  have k2 := abs_eq be eb
  have k3 := abs_eq cf fc
  have g1 := ray_head hx
  have g2 := ray_head hy
  -- the sign is the same
  have key : ∀ {p q r s : Int}, 0 < p → p * q - r * s = 0 → s = p → (q = r ∨ q = -r) → q = r := by
    intro p q r s hp e1 e2 _
    subst e2
    have : s * (q - r) = 0 := by
      rw [Int.mul_sub, Int.mul_comm s r]
      exact e1
    have := (Int.mul_eq_zero.mp this).resolve_left (by omega)
    omega
  rcases g1 with ha | ⟨ha, hb⟩ | ⟨ha, hb, hc⟩
  · have q1 : d = a := by omega
    have q2 : e = b := key ha h3 q1 k2
    have q3 : f = c := key ha (by omega : a * f - c * d = 0) q1 k3
    rw [q1, q2, q3]
  · have q1 : d = a := by omega
    have q2 : e = b := by omega
    have q3 : f = c := key hb h1 q2 k3
    rw [q1, q2, q3]
  · have q1 : d = a := by omega
    have q2 : e = b := by omega
    have q3 : f = c := by omega
    rw [q1, q2, q3]
theorem cross_nz {xs ys : List Int} (hx : IsRay xs) (hy : IsRay ys) (lx : xs.length = 3) (ly : ys.length = 3) (hn : xs ≠ ys) : nz (cross xs ys) ≠ [] := by
  match xs, ys, lx, ly with
  | [a, b, c], [d, e, f], _, _ =>
    intro z
    have q : ∀ n ∈ cross [a, b, c] [d, e, f], n = 0 := fun n hm => by
      by_cases h : n = 0
      · exact h
      · have : n ∈ nz (cross [a, b, c] [d, e, f]) := nz_mem.mpr ⟨hm, h⟩
        rw [z] at this
        cases this
    exact hn (cross_ne hx hy (q _ (by simp [cross])) (q _ (by simp [cross])) (q _ (by simp [cross])))
end Rm

/-! ## RmR -/
namespace Rm
/-! ### rules -/
def fourthR : List Int := [1, 2, 3, 6, 9, 11]
def isfor (m : Int) (r : List Int) : Bool := if m = 4 then decide (dot r r % 16 ∈ fourthR) else decide (dot r r % m ≠ 0)
def restp (m : Int) (r : List Int) : List Int := r.map (· % m)
def restn (m : Int) (r : List Int) : List Int := r.map (fun x => (-x) % m)
/-- the law's lists -/
def lawL (size m : Int) : List (List Int) :=
  if size = 3 ∧ m = 4 then [[0, 0, 1], [2, 2, 1], [0, 1, 1], [2, 1, 1], [1, 0, 1], [1, 2, 1], [1, 1, 2], [1, 3, 2]]
  else if size = 3 then (if m = 2 then [[1, 0, 0]] else [[0, 0, 1], [0, 1, 1], [1, 0, 1]])
  else if size = 4 then [[1, 0, 0, 0], [1, 0, 1, 1]] else [[1, 0, 0, 0, 0], [1, 1, 1, 0, 0], [1, 0, 0, 1, 1]]
def marks (size m : Int) (r : List Int) : Bool := decide (restp m r ∈ lawL size m) || decide (restn m r ∈ lawL size m)
/-- the program's lists -/
def proL (size m : Int) : List (List Int) :=
  if size = 3 then (if m = 2 then [[1, 0, 0]] else if m = 3 then [[0, 0, 1], [0, 1, 1], [1, 0, 1]] else [[0, 0, 1], [0, 1, 1], [1, 0, 1], [1, 1, 2], [1, 2, 1], [1, 3, 2], [2, 1, 1], [2, 2, 1]])
  else if size = 4 then [[1, 0, 0, 0], [1, 0, 1, 1]] else [[1, 0, 0, 0, 0], [1, 0, 0, 1, 1], [1, 1, 1, 0, 0]]
def lexLt : List Int → List Int → Bool
  | [], [] => false
  | [], _ :: _ => true
  | _ :: _, [] => false
  | x :: xs, y :: ys => if x = y then lexLt xs ys else decide (x < y)
def lesser (a b : List Int) : List Int := if lexLt a b = true then a else b
/-- which size goes with which modulus -/
def IsRule (size m : Int) : Prop := (size = 3 ∧ (m = 2 ∨ m = 3 ∨ m = 4)) ∨ (size = 4 ∧ m = 2) ∨ (size = 5 ∧ m = 2)

/-! ### all lists of rests -/
def tups (m : Nat) : Nat → List (List Int)
  | 0 => [[]]
  | k + 1 => (List.range m).flatMap fun a : Nat => (tups m k).map ((a : Int) :: ·)
theorem mem_tups {m : Nat} : ∀ {k : Nat} {r : List Int}, r.length = k → (∀ x ∈ r, 0 ≤ x ∧ x < m) → r ∈ tups m k
  | 0, [], _, _ => by simp [tups]
  | k + 1, x :: r, hl, h => by
    have hx := h x (List.mem_cons_self ..)
    refine List.mem_flatMap.mpr ⟨x.toNat, List.mem_range.mpr (by omega), List.mem_map.mpr ⟨r, mem_tups (by simpa using hl) fun y hy => h y (List.mem_cons_of_mem _ hy), ?_⟩⟩
    have : ((x.toNat : Nat) : Int) = x := by omega
    rw [this]
theorem restp_mem {m : Nat} (hm : 0 < m) {k : Nat} {r : List Int} (hl : r.length = k) : restp (m : Int) r ∈ tups m k := by
  refine mem_tups (by unfold restp; rw [List.length_map]; exact hl) fun x hx => ?_
  obtain ⟨y, _, rfl⟩ := List.mem_map.mp hx
  exact ⟨Int.emod_nonneg _ (by omega), Int.emod_lt_of_pos _ (by omega)⟩
theorem restn_eq (m : Int) (r : List Int) : restn m r = (restp m r).map (fun x => (-x) % m) := by
  unfold restn restp
  rw [List.map_map]
  refine List.map_congr_left fun x _ => ?_
  show (-x) % m = (-(x % m)) % m
  have e : -x = -(x % m) + m * (-(x / m)) := by
    have := Int.mul_ediv_add_emod x m
    rw [Int.mul_neg]
    omega
  rw [e, Int.add_mul_emod_self_left]
theorem restp_idem (m : Int) (r : List Int) : restp m (restp m r) = restp m r := by
  unfold restp
  rw [List.map_map]
  refine List.map_congr_left fun x _ => ?_
  show x % m % m = x % m
  exact Int.emod_emod_of_dvd x (Int.dvd_refl m)
theorem restn_restp (m : Int) (r : List Int) : restn m (restp m r) = restn m r := (restn_eq m r).symm ▸ rfl

/-- what the program asks is what the law asks -/
def alikeB (size m : Nat) : Bool := (tups m size).all fun r => (decide (lesser r (restn m r) ∈ proL size m) == (decide (r ∈ lawL size m) || decide (restn m r ∈ lawL size m)))
theorem alike32 : alikeB 3 2 = true := by decide +kernel
theorem alike33 : alikeB 3 3 = true := by decide +kernel
theorem alike34 : alikeB 3 4 = true := by decide +kernel
theorem alike42 : alikeB 4 2 = true := by decide +kernel
theorem alike52 : alikeB 5 2 = true := by decide +kernel
theorem alike_of {size m : Nat} (h : alikeB size m = true) (hm : 0 < m) {r : List Int} (hl : r.length = size) : decide (lesser (restp m r) (restn m r) ∈ proL size m) = marks size m r := by
  have q := List.all_eq_true.mp h _ (restp_mem hm hl)
  rw [restn_restp] at q
  exact eq_of_beq q
theorem alike {size m : Int} (h : IsRule size m) {r : List Int} (hl : (r.length : Int) = size) : decide (lesser (restp m r) (restn m r) ∈ proL size m) = marks size m r := by
  rcases h with ⟨rfl, rfl | rfl | rfl⟩ | ⟨rfl, rfl⟩ | ⟨rfl, rfl⟩
  · exact alike_of (size := 3) (m := 2) alike32 (by decide) (by omega)
  · exact alike_of (size := 3) (m := 3) alike33 (by decide) (by omega)
  · exact alike_of (size := 3) (m := 4) alike34 (by decide) (by omega)
  · exact alike_of (size := 4) (m := 2) alike42 (by decide) (by omega)
  · exact alike_of (size := 5) (m := 2) alike52 (by decide) (by omega)

/-! ### rests of products -/
theorem dot_mod (N : Int) : ∀ xs ys : List Int, dot (restp N xs) (restp N ys) % N = dot xs ys % N
  | [], ys => by
    show dot [] _ % N = _
    rw [dot_nil, dot_nil]
  | x :: xs, [] => by
    show dot _ [] % N = _
    rw [dot_nil2, dot_nil2]
  | x :: xs, y :: ys => by
    show dot (x % N :: restp N xs) (y % N :: restp N ys) % N = _
    rw [dot_cons, dot_cons, Int.add_emod, dot_mod N xs ys, ← Int.mul_emod, ← Int.add_emod]
theorem sq16 (x : Int) : ((x % 8) * (x % 8)) % 16 = (x * x) % 16 := by
  have e : x * x = (x % 8) * (x % 8) + 16 * (4 * (x / 8) * (x / 8) + (x / 8) * (x % 8)) := by
    have h : x = 8 * (x / 8) + x % 8 := by omega
    generalize x / 8 = q at *
    generalize x % 8 = t at *
    subst h
    grind
  rw [e, Int.add_mul_emod_self_left]
theorem dot16 : ∀ xs : List Int, dot (restp 8 xs) (restp 8 xs) % 16 = dot xs xs % 16
  | [] => rfl
  | x :: xs => by
    show dot (x % 8 :: restp 8 xs) (x % 8 :: restp 8 xs) % 16 = _
    rw [dot_cons, dot_cons, Int.add_emod, dot16 xs, sq16, ← Int.add_emod]
theorem restp_8 (xs : List Int) : restp 4 (restp 8 xs) = restp 4 xs := by
  unfold restp
  rw [List.map_map]
  refine List.map_congr_left fun x _ => ?_
  show x % 8 % 4 = x % 4
  omega
theorem restn_8 (xs : List Int) : restn 4 (restp 8 xs) = restn 4 xs := by
  rw [restn_eq, restp_8, ← restn_eq]
theorem isfor_8 (xs : List Int) : isfor 4 (restp 8 xs) = isfor 4 xs := by
  unfold isfor
  rw [if_pos rfl, if_pos rfl, dot16]
theorem marks_8 (xs : List Int) : marks 3 4 (restp 8 xs) = marks 3 4 xs := by
  unfold marks
  rw [restp_8, restn_8]
theorem isfor_m {m : Int} (h4 : m ≠ 4) (xs : List Int) : isfor m (restp m xs) = isfor m xs := by
  unfold isfor
  rw [if_neg h4, if_neg h4, dot_mod]
theorem marks_m (size m : Int) (xs : List Int) : marks size m (restp m xs) = marks size m xs := by
  unfold marks
  rw [restp_idem, restn_restp]

/-! ### of a pair never both -/
def mk8 : List (List Int) := (tups 8 3).filter fun r => isfor 4 r && marks 3 4 r
def pairB (N : Int) (l : List (List Int)) : Bool := l.all fun x => l.all fun y => !decide (dot x y % N = 0)
theorem pair34 : pairB 8 mk8 = true := by decide +kernel
def mkm (size m : Nat) : List (List Int) := (tups m size).filter fun r => isfor m r && marks size m r
theorem pair32 : pairB 2 (mkm 3 2) = true := by decide +kernel
theorem pair33 : pairB 3 (mkm 3 3) = true := by decide +kernel
theorem pair42 : pairB 2 (mkm 4 2) = true := by decide +kernel
theorem pair52 : pairB 2 (mkm 5 2) = true := by decide +kernel
theorem pair_of {N : Int} {l : List (List Int)} (h : pairB N l = true) {x y : List Int} (hx : restp N x ∈ l) (hy : restp N y ∈ l) : dot x y ≠ 0 := by
  intro e
  have q := List.all_eq_true.mp (List.all_eq_true.mp h _ hx) _ hy
  rw [dot_mod, e] at q
  simp at q
theorem pair_m {size m : Nat} (h : pairB m (mkm size m) = true) (hm : 0 < m) (h4 : (m : Int) ≠ 4) {x y : List Int} (lx : x.length = size) (ly : y.length = size) (fx : isfor m x = true) (fy : isfor m y = true) (kx : marks size m x = true) (ky : marks size m y = true) : dot x y ≠ 0 :=
  pair_of h (List.mem_filter.mpr ⟨restp_mem hm lx, by rw [isfor_m h4, marks_m, fx, kx]; rfl⟩) (List.mem_filter.mpr ⟨restp_mem hm ly, by rw [isfor_m h4, marks_m, fy, ky]; rfl⟩)
theorem pair {size m : Int} (h : IsRule size m) {x y : List Int} (lx : (x.length : Int) = size) (ly : (y.length : Int) = size) (fx : isfor m x = true) (fy : isfor m y = true) (kx : marks size m x = true) (ky : marks size m y = true) : dot x y ≠ 0 := by
  rcases h with ⟨rfl, rfl | rfl | rfl⟩ | ⟨rfl, rfl⟩ | ⟨rfl, rfl⟩
  · exact pair_m (size := 3) (m := 2) pair32 (by decide) (by decide) (by omega) (by omega) fx fy kx ky
  · exact pair_m (size := 3) (m := 3) pair33 (by decide) (by decide) (by omega) (by omega) fx fy kx ky
  · refine pair_of pair34 (List.mem_filter.mpr ⟨restp_mem (m := 8) (by decide) (by omega), ?_⟩) (List.mem_filter.mpr ⟨restp_mem (m := 8) (by decide) (by omega), ?_⟩)
    · show (isfor 4 (restp 8 x) && marks 3 4 (restp 8 x)) = true
      rw [isfor_8, marks_8, fx, kx]; rfl
    · show (isfor 4 (restp 8 y) && marks 3 4 (restp 8 y)) = true
      rw [isfor_8, marks_8, fy, ky]; rfl
  · exact pair_m (size := 4) (m := 2) pair42 (by decide) (by decide) (by omega) (by omega) fx fy kx ky
  · exact pair_m (size := 5) (m := 2) pair52 (by decide) (by decide) (by omega) (by omega) fx fy kx ky

/-! ### of a frame one -/
/-- no n of them, each two of which are at right angles -/
def noneB (N : Int) : Nat → List (List Int) → Bool
  | 0, _ => false
  | n + 1, l => l.all fun x => noneB N n (l.filter fun y => decide (dot x y % N = 0))
def um (size m : Nat) : List (List Int) := (tups m size).filter fun r => isfor m r && !marks size m r
theorem none32 : noneB 2 3 (um 3 2) = true := by decide +kernel
theorem none33 : noneB 3 3 (um 3 3) = true := by decide +kernel
theorem none42 : noneB 2 4 (um 4 2) = true := by decide +kernel
theorem none52 : noneB 2 5 (um 5 2) = true := by decide +kernel
def um4 : List (List Int) := (tups 4 3).filter fun r => decide (dot r r % 8 ∈ ([1, 2, 3, 6] : List Int)) && !marks 3 4 r
theorem none34 : noneB 4 3 um4 = true := by decide +kernel
theorem none_of {N : Int} : ∀ {n : Nat} {l : List (List Int)} {F : List (List Int)}, noneB N n l = true → F.length = n → (∀ x ∈ F, restp N x ∈ l) → F.Pairwise (fun x y => dot x y = 0) → False
  | 0, l, F, h, _, _, _ => by cases h
  | n + 1, l, x :: F, h, hl, hm, hp => by
    obtain ⟨h1, h2⟩ := List.pairwise_cons.mp hp
    refine none_of (n := n) (F := F) (List.all_eq_true.mp h _ (hm x (List.mem_cons_self ..))) (by simpa using hl) (fun y hy => List.mem_filter.mpr ⟨hm y (List.mem_cons_of_mem _ hy), ?_⟩) h2
    rw [dot_mod, h1 y hy]
    simp
theorem none_m {size m : Nat} (h : noneB m size (um size m) = true) (hm : 0 < m) (h4 : (m : Int) ≠ 4) {F : List (List Int)} (hl : F.length = size) (hr : ∀ x ∈ F, x.length = size) (hf : ∀ x ∈ F, isfor m x = true) (hp : F.Pairwise (fun x y => dot x y = 0)) :
    ¬ ∀ x ∈ F, marks size m x = false := fun hk =>
  none_of h hl (fun x hx => List.mem_filter.mpr ⟨restp_mem hm (hr x hx), by rw [isfor_m h4, marks_m, hf x hx, hk x hx]; rfl⟩) hp
theorem none_rule {size m : Int} (h : IsRule size m) {F : List (List Int)} (hl : (F.length : Int) = size) (hr : ∀ x ∈ F, (x.length : Int) = size) (hf : ∀ x ∈ F, isfor m x = true) (hp : F.Pairwise (fun x y => dot x y = 0)) : ¬ ∀ x ∈ F, marks size m x = false := by
  rcases h with ⟨rfl, rfl | rfl | rfl⟩ | ⟨rfl, rfl⟩ | ⟨rfl, rfl⟩
  · exact none_m (size := 3) (m := 2) none32 (by decide) (by decide) (by omega) (fun x hx => by have := hr x hx; omega) hf hp
  · exact none_m (size := 3) (m := 3) none33 (by decide) (by decide) (by omega) (fun x hx => by have := hr x hx; omega) hf hp
  · intro hk
    refine none_of none34 (F := F) (by omega) (fun x hx => List.mem_filter.mpr ⟨restp_mem (m := 4) (by decide) (by have := hr x hx; omega), ?_⟩) hp
    have f := hf x hx
    unfold isfor at f
    rw [if_pos rfl, decide_eq_true_eq] at f
    have e8 : dot (restp 4 x) (restp 4 x) % 8 = dot x x % 8 := by
      have sq8 : ∀ z : Int, ((z % 4) * (z % 4)) % 8 = (z * z) % 8 := fun z => by
        have e : z * z = (z % 4) * (z % 4) + 8 * (2 * (z / 4) * (z / 4) + (z / 4) * (z % 4)) := by
          have h : z = 4 * (z / 4) + z % 4 := by omega
          generalize z / 4 = q at *
          generalize z % 4 = t at *
          subst h
          grind
        rw [e, Int.add_mul_emod_self_left]
      have go : ∀ xs : List Int, dot (restp 4 xs) (restp 4 xs) % 8 = dot xs xs % 8 := by
        intro xs
        induction xs with
        | nil => rfl
        | cons z zs ih =>
          show dot (z % 4 :: restp 4 zs) (z % 4 :: restp 4 zs) % 8 = _
          rw [dot_cons, dot_cons, Int.add_emod, ih, sq8, ← Int.add_emod]
      exact go x
    have m1 : dot x x % 8 ∈ ([1, 2, 3, 6] : List Int) := by
      simp only [fourthR, List.mem_cons, List.not_mem_nil, or_false] at f ⊢
      omega
    show (decide (dot (restp 4 x) (restp 4 x) % 8 ∈ ([1, 2, 3, 6] : List Int)) && !marks 3 4 (restp 4 x)) = true
    rw [e8, marks_m, hk x hx, decide_eq_true m1]
    rfl
  · exact none_m (size := 4) (m := 2) none42 (by decide) (by decide) (by omega) (fun x hx => by have := hr x hx; omega) hf hp
  · exact none_m (size := 5) (m := 2) none52 (by decide) (by decide) (by omega) (fun x hx => by have := hr x hx; omega) hf hp
end Rm

/-! ## RmF -/
namespace Rm
/-! ### what is asked of a ray, of a frame -/
def Fit (L : Int) : Prop := 0 < L ∧ L < 3 ^ 80 ∧ (L < 2 ^ 80 ∨ L % 4 ≠ 0)
structure RayOk (size : Nat) (r : List Int) : Prop where
  ray : IsRay r
  len : r.length = size
  bd : ∀ x ∈ r, x.natAbs < 2 ^ 63
  fit : Fit (dot r r)
  four : size = 3 → dot r r % 4 ≠ 0
structure FrameOk (size : Nat) (F : List (List Int)) : Prop where
  sz : size = 3 ∨ size = 4 ∨ size = 5
  len : F.length = size
  rays : ∀ r ∈ F, RayOk size r
  orth : F.Pairwise (fun x y => dot x y = 0)
theorem dot_self_le {B : Nat} : ∀ {r : List Int}, (∀ x ∈ r, x.natAbs ≤ B) → dot r r ≤ (r.length : Int) * ((B : Int) * (B : Int))
  | [], _ => by rw [dot_nil]; simp
  | x :: r, h => by
    rw [dot_cons]
    have ih := dot_self_le (r := r) fun y hy => h y (List.mem_cons_of_mem _ hy)
    have hx : x * x ≤ (B : Int) * (B : Int) := by
      have h1 := h x (List.mem_cons_self ..)
      have e : x * x = ((x.natAbs * x.natAbs : Nat) : Int) := (Int.natAbs_mul_self (a := x)).symm
      rw [e, ← Int.natCast_mul]
      exact Int.ofNat_le.mpr (Nat.mul_le_mul h1 h1)
    have e : ((x :: r).length : Int) * ((B : Int) * (B : Int)) = (B : Int) * (B : Int) + (r.length : Int) * ((B : Int) * (B : Int)) := by
      rw [List.length_cons, Int.natCast_add, Int.add_mul, Int.add_comm]
      simp
    omega
theorem ray_pos {r : List Int} (h : IsRay r) : 0 < dot r r := dot_self_pos (nz_ex (ray_nz h))
/-- a ray of three numbers has no length that 4 divides -/
theorem ray3_four {r : List Int} (h : IsRay r) (hl : r.length = 3) : dot r r % 4 ≠ 0 := by
  match r, hl with
  | [a, b, c], _ =>
    intro e
    simp only [dot_cons, dot_nil] at e
    have s4 : ∀ z : Int, (z * z) % 4 = if z % 2 = 0 then 0 else 1 := fun z => by
      have h1 : z * z = (z % 2) * (z % 2) + 4 * ((z / 2) * (z / 2) + (z / 2) * (z % 2)) := by
        have h : z = 2 * (z / 2) + z % 2 := by omega
        generalize z / 2 = q at *
        generalize z % 2 = t at *
        subst h
        grind
      rw [h1, Int.add_mul_emod_self_left]
      rcases Int.emod_two_eq z with q | q
      · rw [q]; rfl
      · rw [q]; rfl
    have ha := s4 a
    have hb := s4 b
    have hc := s4 c
    have d2 : 2 ∣ cdiv [a, b, c] := dvd_cdiv fun n hn => by
      have : a % 2 = 0 ∧ b % 2 = 0 ∧ c % 2 = 0 := by
        refine ⟨?_, ?_, ?_⟩ <;> (split at ha <;> split at hb <;> split at hc <;> omega)
      simp only [List.mem_cons, List.not_mem_nil, or_false] at hn
      rcases hn with rfl | rfl | rfl <;> omega
    rw [h.1] at d2
    exact absurd d2 (by decide)
theorem rayOk3 {r : List Int} (h : IsRay r) (hl : r.length = 3) (hb : ∀ x ∈ r, x.natAbs ≤ 4 * 1000002 ^ 3) : RayOk 3 r := by
  refine ⟨h, hl, fun x hx => Nat.lt_of_le_of_lt (hb x hx) (by decide), ⟨ray_pos h, ?_, .inr (ray3_four h hl)⟩, fun _ => ray3_four h hl⟩
  have := dot_self_le hb
  rw [hl] at this
  refine Int.lt_of_le_of_lt this (by decide)
theorem rayOk_small {r : List Int} {size : Nat} (h : IsRay r) (hl : r.length = size) (hs : size = 4 ∨ size = 5) (hb : ∀ x ∈ r, x.natAbs ≤ 1000002) : RayOk size r := by
  refine ⟨h, hl, fun x hx => Nat.lt_of_le_of_lt (hb x hx) (by decide), ⟨ray_pos h, ?_, .inl ?_⟩, fun e => by omega⟩ <;>
  · have := dot_self_le hb
    rw [hl] at this
    rcases hs with rfl | rfl <;> exact Int.lt_of_le_of_lt this (by decide)

/-! ### size 3 -/
theorem list3 {r : List Int} (h : r.length = 3) : ∃ a b c, r = [a, b, c] := by
  match r, h with
  | [a, b, c], _ => exact ⟨a, b, c, rfl⟩
theorem list4 {r : List Int} (h : r.length = 4) : ∃ a b c d, r = [a, b, c, d] := by
  match r, h with
  | [a, b, c, d], _ => exact ⟨a, b, c, d, rfl⟩
theorem abs_sub_mul {a b c d : Int} {A B C D : Nat} (ha : a.natAbs ≤ A) (hb : b.natAbs ≤ B) (hc : c.natAbs ≤ C) (hd : d.natAbs ≤ D) : (a * b - c * d).natAbs ≤ A * B + C * D := by
  have h1 : (a * b).natAbs ≤ A * B := by rw [Int.natAbs_mul]; exact Nat.mul_le_mul ha hb
  have h2 : (c * d).natAbs ≤ C * D := by rw [Int.natAbs_mul]; exact Nat.mul_le_mul hc hd
  omega
theorem cross_le {xs ys : List Int} {A B : Nat} (hx : ∀ x ∈ xs, x.natAbs ≤ A) (hy : ∀ y ∈ ys, y.natAbs ≤ B) (lx : xs.length = 3) (ly : ys.length = 3) : ∀ z ∈ cross xs ys, z.natAbs ≤ 2 * (A * B) := by
  obtain ⟨a, b, c, rfl⟩ := list3 lx
  obtain ⟨d, e, f, rfl⟩ := list3 ly
  have ha := hx a (by simp)
  have hb := hx b (by simp)
  have hc := hx c (by simp)
  have hd := hy d (by simp)
  have he := hy e (by simp)
  have hf := hy f (by simp)
  intro z hz
  have e2 : 2 * (A * B) = A * B + A * B := by omega
  rw [e2]
  simp only [cross, List.mem_cons, List.not_mem_nil, or_false] at hz
  rcases hz with rfl | rfl | rfl
  · exact abs_sub_mul hb hf hc he
  · exact abs_sub_mul hc hd ha hf
  · exact abs_sub_mul ha he hb hd
theorem cross_len {xs ys : List Int} (lx : xs.length = 3) (ly : ys.length = 3) : (cross xs ys).length = 3 := by
  obtain ⟨a, b, c, rfl⟩ := list3 lx
  obtain ⟨d, e, f, rfl⟩ := list3 ly
  rfl
def crossR (xs ys : List Int) : List Int := norm (cross xs ys)
theorem crossR_spec {xs ys : List Int} {A B : Nat} (rx : IsRay xs) (ry : IsRay ys) (lx : xs.length = 3) (ly : ys.length = 3) (hn : xs ≠ ys) (hx : ∀ x ∈ xs, x.natAbs ≤ A) (hy : ∀ y ∈ ys, y.natAbs ≤ B) :
    IsRay (crossR xs ys) ∧ (crossR xs ys).length = 3 ∧ (∀ z ∈ crossR xs ys, z.natAbs ≤ 2 * (A * B)) ∧ dot xs (crossR xs ys) = 0 ∧ dot ys (crossR xs ys) = 0 := by
  have z := cross_nz rx ry lx ly hn
  refine ⟨norm_ray z, (norm_len _).trans (cross_len lx ly), norm_le (cross_le hx hy lx ly) z, ?_, ?_⟩
  · have e : dot xs (cross xs ys) = 0 := by
      obtain ⟨a, b, c, rfl⟩ := list3 lx
      obtain ⟨d, e, f, rfl⟩ := list3 ly
      exact cross_dot1 a b c d e f
    have b := norm_back (ns := cross xs ys)
    rw [b] at e
    have m := dot_map 1 ((cdiv (cross xs ys) : Int) * sgn (hd (cross xs ys))) xs (norm (cross xs ys))
    have i1 : xs.map ((1 : Int) * ·) = xs := by
      conv => rhs; rw [← List.map_id xs]
      exact List.map_congr_left fun x _ => Int.one_mul x
    rw [i1, e] at m
    have := Int.mul_eq_zero.mp m.symm
    rcases this with q | q
    · rw [Int.one_mul] at q
      exact absurd q (fac_ne z)
    · exact q
  · have e : dot ys (cross xs ys) = 0 := by
      obtain ⟨a, b, c, rfl⟩ := list3 lx
      obtain ⟨d, e, f, rfl⟩ := list3 ly
      exact cross_dot2 a b c d e f
    have b := norm_back (ns := cross xs ys)
    rw [b] at e
    have m := dot_map 1 ((cdiv (cross xs ys) : Int) * sgn (hd (cross xs ys))) ys (norm (cross xs ys))
    have i1 : ys.map ((1 : Int) * ·) = ys := by
      conv => rhs; rw [← List.map_id ys]
      exact List.map_congr_left fun x _ => Int.one_mul x
    rw [i1, e] at m
    have := Int.mul_eq_zero.mp m.symm
    rcases this with q | q
    · rw [Int.one_mul] at q
      exact absurd q (fac_ne z)
    · exact q
theorem ray_ne_of_orth {xs ys : List Int} (rx : IsRay xs) (h : dot xs ys = 0) : xs ≠ ys := by
  intro e
  subst e
  have := ray_pos rx
  omega
theorem frame3 {one other : List Int} (r1 : IsRay one) (r2 : IsRay other) (l1 : one.length = 3) (l2 : other.length = 3) (hn : one ≠ other) (b1 : ∀ x ∈ one, x.natAbs ≤ 1000000) (b2 : ∀ x ∈ other, x.natAbs ≤ 1000002) :
    FrameOk 3 [one, crossR one other, crossR one (crossR one other)] := by
  obtain ⟨ra, la, ba, oa, _⟩ := crossR_spec r1 r2 l1 l2 hn b1 b2
  obtain ⟨rb, lb, bb, ob, ob2⟩ := crossR_spec r1 ra l1 la (ray_ne_of_orth r1 oa) b1 ba
  refine ⟨.inl rfl, rfl, fun r hr => ?_, ?_⟩
  · simp only [List.mem_cons, List.not_mem_nil, or_false] at hr
    rcases hr with rfl | rfl | rfl
    · exact rayOk3 r1 l1 fun x hx => Nat.le_trans (b1 x hx) (by decide)
    · exact rayOk3 ra la fun x hx => Nat.le_trans (ba x hx) (by decide)
    · exact rayOk3 rb lb fun x hx => Nat.le_trans (bb x hx) (by decide)
  · refine List.pairwise_cons.mpr ⟨fun y hy => ?_, List.pairwise_cons.mpr ⟨fun y hy => ?_, List.pairwise_cons.mpr ⟨fun y hy => (by cases hy), List.Pairwise.nil⟩⟩⟩
    · simp only [List.mem_cons, List.not_mem_nil, or_false] at hy
      rcases hy with rfl | rfl
      · exact oa
      · exact ob
    · simp only [List.mem_cons, List.not_mem_nil, or_false] at hy
      rcases hy with rfl
      exact ob2
/-- the other ray, where both drawn are the same -/
def swap3 (one : List Int) : List Int := match one with
  | [a, b, c] => if one = [1, 0, 2] then [0, 1, 0] else norm [a + 1, b, c + 2]
  | _ => []
theorem swap3_nz {a b c : Int} (h : IsRay [a, b, c]) : nz [a + 1, b, c + 2] ≠ [] := by
  have g := ray_head h
  refine nz_of ?_
  by_cases q : a + 1 = 0
  · by_cases q2 : b = 0
    · exact ⟨c + 2, by simp, by omega⟩
    · exact ⟨b, by simp, q2⟩
  · exact ⟨a + 1, by simp, q⟩
theorem swap3_spec {a b c : Int} (h : IsRay [a, b, c]) (hb : ∀ x ∈ [a, b, c], x.natAbs ≤ 1000000) : IsRay (swap3 [a, b, c]) ∧ (swap3 [a, b, c]).length = 3 ∧ [a, b, c] ≠ swap3 [a, b, c] ∧ ∀ x ∈ swap3 [a, b, c], x.natAbs ≤ 1000002 := by
  by_cases e : [a, b, c] = [1, 0, 2]
  · have s : swap3 [a, b, c] = [0, 1, 0] := by
      show (if [a, b, c] = [1, 0, 2] then [0, 1, 0] else norm [a + 1, b, c + 2]) = [0, 1, 0]
      rw [if_pos e]
    rw [s, e]
    exact ⟨⟨by decide, 1, by decide, by decide⟩, rfl, by decide, by decide⟩
  · have s : swap3 [a, b, c] = norm [a + 1, b, c + 2] := by
      show (if [a, b, c] = [1, 0, 2] then [0, 1, 0] else norm [a + 1, b, c + 2]) = norm [a + 1, b, c + 2]
      rw [if_neg e]
    rw [s]
    have z := swap3_nz h
    have ha := hb a (by simp)
    have hb' := hb b (by simp)
    have hc := hb c (by simp)
    refine ⟨norm_ray z, norm_len _, fun q => ?_, norm_le (fun x hx => ?_) z⟩
    · -- parallel to (1, 0, 2)
      have bk := norm_back (ns := [a + 1, b, c + 2])
      rw [← q] at bk
      generalize (cdiv [a + 1, b, c + 2] : Int) * sgn (hd [a + 1, b, c + 2]) = k at bk
      simp only [List.map_cons, List.map_nil, List.cons.injEq, and_true] at bk
      obtain ⟨e1, e2, e3⟩ := bk
      have hr : IsRay [1, 0, 2] := ⟨by decide, 1, by decide, by decide⟩
      refine e (cross_ne h hr ?_ ?_ ?_)
      · -- b * 2 - c * 0
        have kb : (k - 1) * b = 0 := by rw [Int.sub_mul]; omega
        rcases Int.mul_eq_zero.mp kb with z1 | z1
        · have : k = 1 := by omega
          subst this
          omega
        · rw [z1]; omega
      · have e4 : (k - 1) * a = 1 := by rw [Int.sub_mul]; omega
        have e5 : (k - 1) * c = 2 := by rw [Int.sub_mul]; omega
        have : (k - 1) * (c - 2 * a) = 0 := by
          rw [Int.mul_sub, Int.mul_left_comm, e4, e5]
          rfl
        rcases Int.mul_eq_zero.mp this with z1 | z1
        · rw [z1] at e4; omega
        · omega
      · have kb : (k - 1) * b = 0 := by rw [Int.sub_mul]; omega
        rcases Int.mul_eq_zero.mp kb with z1 | z1
        · have : k = 1 := by omega
          subst this
          omega
        · rw [z1]; omega
    · simp only [List.mem_cons, List.not_mem_nil, or_false] at hx
      rcases hx with rfl | rfl | rfl <;> omega

/-! ### size 4, size 5 -/
def rows4 (a b c d : Int) : List (List Int) := [[a, b, c, d], [-b, a, -d, c], [-c, d, a, -b], [-d, -c, b, a]]
theorem rows4_orth (a b c d : Int) : (rows4 a b c d).Pairwise (fun x y => dot x y = 0) := by
  unfold rows4
  refine List.pairwise_cons.mpr ⟨fun y hy => ?_, List.pairwise_cons.mpr ⟨fun y hy => ?_, List.pairwise_cons.mpr ⟨fun y hy => ?_, List.pairwise_cons.mpr ⟨fun y hy => (by cases hy), List.Pairwise.nil⟩⟩⟩⟩ <;>
  · simp only [List.mem_cons, List.not_mem_nil, or_false] at hy
    rcases hy with rfl | rfl | rfl <;> (simp only [dot_cons, dot_nil]; grind)
theorem rows4_nz {a b c d : Int} (h : ∃ x ∈ [a, b, c, d], x ≠ 0) : ∀ r ∈ rows4 a b c d, nz r ≠ [] := by
  intro r hr
  obtain ⟨x, hx, hne⟩ := h
  simp only [rows4, List.mem_cons, List.not_mem_nil, or_false] at hr hx
  refine nz_of ?_
  rcases hr with rfl | rfl | rfl | rfl <;> rcases hx with rfl | rfl | rfl | rfl
  all_goals first
    | (refine ⟨x, ?_, hne⟩; simp; done)
    | (refine ⟨-x, ?_, by omega⟩; simp; done)
theorem rows4_le {a b c d : Int} {B : Nat} (h : ∀ x ∈ [a, b, c, d], x.natAbs ≤ B) : ∀ r ∈ rows4 a b c d, ∀ x ∈ r, x.natAbs ≤ B := by
  have ha := h a (by simp)
  have hb := h b (by simp)
  have hc := h c (by simp)
  have hd := h d (by simp)
  intro r hr x hx
  simp only [rows4, List.mem_cons, List.not_mem_nil, or_false] at hr
  rcases hr with rfl | rfl | rfl | rfl <;> (simp only [List.mem_cons, List.not_mem_nil, or_false] at hx; rcases hx with rfl | rfl | rfl | rfl <;> omega)
theorem rows4_len {a b c d : Int} : ∀ r ∈ rows4 a b c d, r.length = 4 := by
  intro r hr
  simp only [rows4, List.mem_cons, List.not_mem_nil, or_false] at hr
  rcases hr with rfl | rfl | rfl | rfl <;> rfl
def frameR (a b c d : Int) : List (List Int) := (rows4 a b c d).map norm
theorem frameR_spec {a b c d : Int} (h : IsRay [a, b, c, d]) (hb : ∀ x ∈ [a, b, c, d], x.natAbs ≤ 1000000) :
    (∀ r ∈ frameR a b c d, IsRay r ∧ r.length = 4 ∧ ∀ x ∈ r, x.natAbs ≤ 1000000) ∧ (frameR a b c d).Pairwise (fun x y => dot x y = 0) := by
  have z := rows4_nz (nz_ex (ray_nz h))
  refine ⟨fun r hr => ?_, ?_⟩
  · obtain ⟨q, hq, rfl⟩ := List.mem_map.mp hr
    exact ⟨norm_ray (z q hq), (norm_len q).trans (rows4_len q hq), norm_le (rows4_le hb q hq) (z q hq)⟩
  · unfold frameR
    rw [List.pairwise_map]
    refine (List.Pairwise.and_mem.mp (rows4_orth a b c d)).imp fun {x y} q => ?_
    exact dot_norm (z x q.1) (z y q.2.1) q.2.2
theorem frame4 {a b c d : Int} (h : IsRay [a, b, c, d]) (hb : ∀ x ∈ [a, b, c, d], x.natAbs ≤ 1000000) : FrameOk 4 (frameR a b c d) := by
  obtain ⟨h1, h2⟩ := frameR_spec h hb
  exact ⟨.inr (.inl rfl), rfl, fun r hr => rayOk_small (h1 r hr).1 (h1 r hr).2.1 (.inl rfl) fun x hx => Nat.le_trans ((h1 r hr).2.2 x hx) (by decide), h2⟩
/-- a 0 put in -/
def ins (k : Nat) (r : List Int) : List Int := r.take k ++ 0 :: r.drop k
def axis5 (k : Nat) : List Int := (List.range 5).map fun j => if j = k then 1 else 0
theorem nz_ins (k : Nat) (r : List Int) : nz (ins k r) = nz r := by
  unfold ins nz
  rw [List.filter_append, List.filter_cons]
  have e : r.filter (fun n => !decide (n = 0)) = (r.take k).filter (fun n => !decide (n = 0)) ++ (r.drop k).filter (fun n => !decide (n = 0)) := by
    rw [← List.filter_append, List.take_append_drop]
  rw [e, if_neg (by decide)]
theorem cdiv_ins (k : Nat) (r : List Int) : cdiv (ins k r) = cdiv r := by
  unfold ins cdiv
  rw [List.foldl_append, List.foldl_cons, Int.natAbs_zero, Nat.gcd_zero_right, ← List.foldl_append, List.take_append_drop]
theorem ins_ray {k : Nat} {r : List Int} (h : IsRay r) : IsRay (ins k r) := by
  refine ⟨(cdiv_ins k r).trans h.1, ?_⟩
  rw [nz_ins]
  exact h.2
theorem ins_len {k : Nat} {r : List Int} : (ins k r).length = r.length + 1 := by
  unfold ins
  rw [List.length_append, List.length_cons, List.length_take, List.length_drop]
  omega
theorem dot_append : ∀ {xs ys us vs : List Int}, xs.length = ys.length → dot (xs ++ us) (ys ++ vs) = dot xs ys + dot us vs
  | [], [], us, vs, _ => by rw [dot_nil]; simp
  | x :: xs, y :: ys, us, vs, h => by
    rw [List.cons_append, List.cons_append, dot_cons, dot_cons, dot_append (by simpa using h)]
    omega
theorem dot_ins {k : Nat} {r s : List Int} (h : r.length = s.length) : dot (ins k r) (ins k s) = dot r s := by
  unfold ins
  rw [dot_append (by rw [List.length_take, List.length_take, h]), dot_cons, Int.zero_mul, Int.zero_add, ← dot_append (by rw [List.length_take, List.length_take, h]), List.take_append_drop, List.take_append_drop]
theorem axis_ins {k : Nat} (hk : k < 5) {r : List Int} (h : r.length = 4) : dot (axis5 k) (ins k r) = 0 := by
  obtain ⟨a, b, c, d, rfl⟩ := list4 h
  have : k = 0 ∨ k = 1 ∨ k = 2 ∨ k = 3 ∨ k = 4 := by omega
  rcases this with rfl | rfl | rfl | rfl | rfl <;> (show (List.zipWith (· * ·) _ _).sum = 0; simp [axis5, ins, List.range_succ])
theorem axis_ray {k : Nat} (hk : k < 5) : IsRay (axis5 k) := by
  have : k = 0 ∨ k = 1 ∨ k = 2 ∨ k = 3 ∨ k = 4 := by omega
  rcases this with rfl | rfl | rfl | rfl | rfl <;> exact ⟨by decide, 1, by decide, by decide⟩
theorem frame5 {a b c d : Int} (h : IsRay [a, b, c, d]) (hb : ∀ x ∈ [a, b, c, d], x.natAbs ≤ 1000000) {k : Nat} (hk : k < 5) : FrameOk 5 (axis5 k :: (frameR a b c d).map (ins k)) := by
  obtain ⟨h1, h2⟩ := frameR_spec h hb
  refine ⟨.inr (.inr rfl), rfl, fun r hr => ?_, List.pairwise_cons.mpr ⟨fun y hy => ?_, ?_⟩⟩
  · rcases List.mem_cons.mp hr with rfl | hr
    · refine rayOk_small (axis_ray hk) (by simp [axis5]) (.inr rfl) fun x hx => ?_
      obtain ⟨j, _, rfl⟩ := List.mem_map.mp hx
      split <;> decide
    · obtain ⟨q, hq, rfl⟩ := List.mem_map.mp hr
      obtain ⟨g1, g2, g3⟩ := h1 q hq
      refine rayOk_small (ins_ray g1) (by rw [ins_len, g2]) (.inr rfl) fun x hx => ?_
      unfold ins at hx
      rcases List.mem_append.mp hx with hx | hx
      · exact Nat.le_trans (g3 x (List.mem_of_mem_take hx)) (by decide)
      · rcases List.mem_cons.mp hx with rfl | hx
        · decide
        · exact Nat.le_trans (g3 x (List.mem_of_mem_drop hx)) (by decide)
  · obtain ⟨q, hq, rfl⟩ := List.mem_map.mp hy
    exact axis_ins hk (h1 q hq).2.1
  · rw [List.pairwise_map]
    refine (List.Pairwise.and_mem.mp h2).imp fun {x y} q => ?_
    rw [dot_ins ((h1 x q.1).2.1.trans (h1 y q.2.1).2.1.symm)]
    exact q.2.2

/-! ### the frame and its marks -/
def moduliOf (size : Int) : List Int := if size = 3 then [2, 3, 4] else [2]
theorem isRule_of {size : Nat} (h : size = 3 ∨ size = 4 ∨ size = 5) {m : Int} (hm : m ∈ moduliOf size) : IsRule size m := by
  unfold moduliOf at hm
  rcases h with rfl | rfl | rfl
  · rw [if_pos (by decide)] at hm
    simp only [List.mem_cons, List.not_mem_nil, or_false] at hm
    exact .inl ⟨by decide, hm⟩
  · rw [if_neg (by decide)] at hm
    simp only [List.mem_cons, List.not_mem_nil, or_false] at hm
    exact .inr (.inl ⟨by decide, hm⟩)
  · rw [if_neg (by decide)] at hm
    simp only [List.mem_cons, List.not_mem_nil, or_false] at hm
    exact .inr (.inr ⟨by decide, hm⟩)
theorem frame_marks {size : Nat} {F : List (List Int)} (hF : FrameOk size F) {m : Int} (hm : m ∈ moduliOf size) :
    ((F.filter (isfor m)).filter (marks size m)).length ≤ 1 ∧ ((F.filter (isfor m)).length = size → ((F.filter (isfor m)).filter (marks size m)).length = 1) := by
  have R := isRule_of hF.sz hm
  have le1 : ((F.filter (isfor m)).filter (marks size m)).length ≤ 1 := by
    have hp : ((F.filter (isfor m)).filter (marks size m)).Pairwise (fun x y => dot x y = 0) := List.Pairwise.filter _ (List.Pairwise.filter _ hF.orth)
    have hall : ∀ x ∈ (F.filter (isfor m)).filter (marks size m), RayOk size x ∧ isfor m x = true ∧ marks size m x = true := fun x hx => by
      obtain ⟨h1, h2⟩ := List.mem_filter.mp hx
      obtain ⟨h3, h4⟩ := List.mem_filter.mp h1
      exact ⟨hF.rays x h3, h4, h2⟩
    match e : (F.filter (isfor m)).filter (marks size m), hp, hall with
    | [], _, _ => exact Nat.zero_le _
    | [_], _, _ => exact Nat.le_refl _
    | x :: y :: l, hp, hall =>
      have h0 := (List.pairwise_cons.mp hp).1 y (List.mem_cons_self ..)
      obtain ⟨x1, x2, x3⟩ := hall x (List.mem_cons_self ..)
      obtain ⟨y1, y2, y3⟩ := hall y (List.mem_cons_of_mem _ (List.mem_cons_self ..))
      exact absurd h0 (pair R (by rw [x1.len]) (by rw [y1.len]) x2 y2 x3 y3)
  refine ⟨le1, fun hl => ?_⟩
  have ef : F.filter (isfor m) = F := List.filter_eq_self.mpr fun x hx => List.length_filter_eq_length_iff.mp (hl.trans hF.len.symm) x hx
  rw [ef] at le1 ⊢
  have : (F.filter (marks size m)).length ≠ 0 := fun z => by
    have e0 := List.length_eq_zero_iff.mp z
    refine none_rule R (F := F) (by rw [hF.len]) (fun x hx => by rw [(hF.rays x hx).len]) (fun x hx => List.filter_eq_self.mp ef x hx) hF.orth fun x hx => ?_
    have := List.filter_eq_nil_iff.mp e0 x hx
    simpa using this
  omega
end Rm

/-! ## RmC -/
namespace Rm
/-! ### classes: primes taken out of a length -/
def strip1 (p L : Int) : Int := if L % p = 0 then L / p else L
def stripN (p : Int) : Nat → Int → Int
  | 0, L => L
  | n + 1, L => strip1 p (stripN p n L)
def stripAll (ps : List Int) (L : Int) : Int := ps.foldl (fun l p => stripN p 80 l) L
theorem stripAll_take {ps : List Int} {i : Nat} {p : Int} (h : ps[i]? = some p) (L : Int) : stripAll (ps.take (i + 1)) L = stripN p 80 (stripAll (ps.take i) L) := by
  unfold stripAll
  rw [List.take_add_one, h, List.foldl_append]
  rfl
/-- once p does not divide, nothing changes -/
theorem strip_stay {p L : Int} {n : Nat} (h : stripN p n L % p ≠ 0) : ∀ j, stripN p (n + j) L = stripN p n L
  | 0 => rfl
  | j + 1 => by
    show strip1 p (stripN p (n + j) L) = _
    rw [strip_stay h j]
    exact if_neg h
theorem strip_full {p L : Int} : ∀ n : Nat, stripN p n L % p = 0 → L = p ^ n * stripN p n L
  | 0, _ => by rw [Int.pow_zero, Int.one_mul]; rfl
  | n + 1, h => by
    by_cases q : stripN p n L % p = 0
    · have ih := strip_full n q
      have e : stripN p (n + 1) L = stripN p n L / p := if_pos q
      rw [e]
      have e2 : stripN p n L = p * (stripN p n L / p) := (Int.mul_ediv_cancel' (Int.dvd_of_emod_eq_zero q)).symm
      rw [Int.pow_succ, Int.mul_assoc, ← e2]
      exact ih
    · have e : stripN p (n + 1) L = stripN p n L := if_neg q
      rw [e] at h
      exact absurd h q
theorem strip_dvd {p L : Int} : ∀ n : Nat, ∃ k : Nat, L = p ^ k * stripN p n L
  | 0 => ⟨0, by rw [Int.pow_zero, Int.one_mul]; rfl⟩
  | n + 1 => by
    obtain ⟨k, e⟩ := strip_dvd (p := p) (L := L) n
    by_cases q : stripN p n L % p = 0
    · refine ⟨k + 1, ?_⟩
      have e1 : stripN p (n + 1) L = stripN p n L / p := if_pos q
      have e2 : stripN p n L = p * (stripN p n L / p) := (Int.mul_ediv_cancel' (Int.dvd_of_emod_eq_zero q)).symm
      rw [e1, Int.pow_succ, Int.mul_assoc, ← e2]
      exact e
    · refine ⟨k, ?_⟩
      have e1 : stripN p (n + 1) L = stripN p n L := if_neg q
      rw [e1]
      exact e
theorem strip_pos {p L : Int} (hp : 2 ≤ p) (hL : 0 < L) : ∀ n : Nat, 0 < stripN p n L
  | 0 => hL
  | n + 1 => by
    have ih := strip_pos hp hL n
    show 0 < strip1 p (stripN p n L)
    unfold strip1
    split
    · rename_i q
      have e2 : stripN p n L = p * (stripN p n L / p) := (Int.mul_ediv_cancel' (Int.dvd_of_emod_eq_zero q)).symm
      have : 0 ≤ stripN p n L / p := Int.ediv_nonneg (by omega) (by omega)
      have : stripN p n L / p ≠ 0 := fun z => by
        rw [z, Int.mul_zero] at e2
        omega
      omega
    · exact ih
theorem pow_le {p : Int} (hp : 2 ≤ p) : ∀ n : Nat, (2 : Int) ^ n ≤ p ^ n
  | 0 => by simp
  | n + 1 => by
    rw [Int.pow_succ, Int.pow_succ]
    have ih := pow_le hp n
    have h0 : (0 : Int) ≤ 2 ^ n := Int.le_of_lt (Int.pow_pos (by decide))
    exact Int.mul_le_mul ih hp (by decide) (Int.le_trans h0 ih)
theorem pow_le3 {p : Int} (hp : 3 ≤ p) : ∀ n : Nat, (3 : Int) ^ n ≤ p ^ n
  | 0 => by simp
  | n + 1 => by
    rw [Int.pow_succ, Int.pow_succ]
    have ih := pow_le3 hp n
    have h0 : (0 : Int) ≤ 3 ^ n := Int.le_of_lt (Int.pow_pos (by decide))
    exact Int.mul_le_mul ih hp (by decide) (Int.le_trans h0 ih)
theorem pow_ge_one {p : Int} (hp : 2 ≤ p) (n : Nat) : 1 ≤ p ^ n := by
  have : (0 : Int) < p ^ n := Int.pow_pos (by omega)
  omega
theorem strip_le {p L : Int} (hp : 2 ≤ p) (hL : 0 < L) (n : Nat) : stripN p n L ≤ L := by
  obtain ⟨k, e⟩ := strip_dvd (p := p) (L := L) n
  have h1 := strip_pos hp hL n
  have h2 := pow_ge_one hp k
  have : 1 * stripN p n L ≤ p ^ k * stripN p n L := Int.mul_le_mul_of_nonneg_right h2 (by omega)
  omega
theorem fit_strip {p L : Int} (hp : 2 ≤ p) (h : Fit L) (n : Nat) : Fit (stripN p n L) := by
  obtain ⟨h0, h1, h2⟩ := h
  have l := strip_le hp h0 n
  refine ⟨strip_pos hp h0 n, Int.lt_of_le_of_lt l h1, ?_⟩
  rcases h2 with h2 | h2
  · exact .inl (Int.lt_of_le_of_lt l h2)
  · refine .inr fun z => h2 ?_
    obtain ⟨k, e⟩ := strip_dvd (p := p) (L := L) n
    rw [e, Int.mul_emod, z]
    simp
/-- eighty are enough -/
theorem strip_done {p L : Int} (hp : 2 ≤ p) (h : Fit L) : stripN p 80 L % p ≠ 0 := by
  intro z
  obtain ⟨h0, h1, h2⟩ := h
  have e := strip_full 80 z
  have s := strip_pos hp h0 80
  by_cases q : p = 2
  · subst q
    rcases h2 with h2 | h2
    · have : (2 : Int) ^ 80 * 1 ≤ 2 ^ 80 * stripN 2 80 L := Int.mul_le_mul_of_nonneg_left (by omega) (by decide)
      omega
    · refine h2 ?_
      rw [e]
      have : (2 : Int) ^ 80 = 4 * 2 ^ 78 := by decide
      rw [this, Int.mul_assoc, Int.mul_emod_right]
  · have p3 := pow_le3 (p := p) (by omega) 80
    have : p ^ 80 * 1 ≤ p ^ 80 * stripN p 80 L := Int.mul_le_mul_of_nonneg_left (by omega) (by have := pow_ge_one hp 80; omega)
    omega
theorem fit_all {ps : List Int} (hp : ∀ p ∈ ps, 2 ≤ p) {L : Int} (h : Fit L) : Fit (stripAll ps L) := by
  unfold stripAll
  induction ps generalizing L with
  | nil => exact h
  | cons p r ih => exact ih (fun q hq => hp q (List.mem_cons_of_mem _ hq)) (fit_strip (hp p (List.mem_cons_self ..)) h 80)

/-! ### rules of a class -/
def moduliFor (size : Int) (ps : List Int) : List Int :=
  (if (2 : Int) ∉ ps then [2] else []) ++ ((if size = 3 ∧ (3 : Int) ∉ ps then [3] else []) ++ (if size = 3 ∧ ∀ p ∈ ps, p = 2 ∨ p % 8 = 1 ∨ p % 8 = 3 then [4] else []))
def somePs : List Int := [2, 3, 5, 7, 11, 13, 17]
/-- what holds of 1 and is kept by the primes holds of the length -/
theorem good_all {G : Int → Prop} {ps : List Int} (hk : ∀ p ∈ ps, ∀ l, G l → G (p * l)) : ∀ {L : Int}, G (stripAll ps L) → G L := by
  have hpow : ∀ p ∈ ps, ∀ (k : Nat) (l : Int), G l → G (p ^ k * l) := by
    intro p hp k
    induction k with
    | zero =>
      intro l h
      rw [Int.pow_zero, Int.one_mul]
      exact h
    | succ k ih =>
      intro l h
      have := ih (p * l) (hk p hp l h)
      rw [Int.pow_succ, Int.mul_assoc]
      exact this
  clear hk
  unfold stripAll
  induction ps with
  | nil => exact fun {_} h => h
  | cons p r ih =>
    intro L h
    have h1 := ih (fun q hq => hpow q (List.mem_cons_of_mem _ hq)) (L := stripN p 80 L) h
    obtain ⟨k, e⟩ := strip_dvd (p := p) (L := L) 80
    rw [e]
    exact hpow p (List.mem_cons_self ..) k _ h1
theorem class_rules {size : Nat} {r : List Int} (hr : RayOk size r) {ps : List Int} (hps : ∀ p ∈ ps, p ∈ somePs) (h1 : stripAll ps (dot r r) = 1) : ∀ m ∈ moduliFor size ps, isfor m r = true := by
  intro m hm
  unfold moduliFor at hm
  rcases List.mem_append.mp hm with hm | hm
  · by_cases q : (2 : Int) ∉ ps
    · rw [if_pos q] at hm
      simp only [List.mem_cons, List.not_mem_nil, or_false] at hm
      subst hm
      have g : dot r r % 2 ≠ 0 := good_all (G := fun l => l % 2 ≠ 0) (ps := ps) (fun p hp l hl => by
        have h := hps p hp
        have n2 : p ≠ 2 := fun e => q (e ▸ hp)
        simp only [somePs, List.mem_cons, List.not_mem_nil, or_false] at h
        rcases h with rfl | rfl | rfl | rfl | rfl | rfl | rfl <;> first | exact absurd rfl n2 | omega) (by rw [h1]; decide)
      unfold isfor
      rw [if_neg (by decide)]
      exact decide_eq_true g
    · rw [if_neg q] at hm
      cases hm
  · rcases List.mem_append.mp hm with hm | hm
    · by_cases q : (size : Int) = 3 ∧ (3 : Int) ∉ ps
      · rw [if_pos q] at hm
        simp only [List.mem_cons, List.not_mem_nil, or_false] at hm
        subst hm
        have g : dot r r % 3 ≠ 0 := good_all (G := fun l => l % 3 ≠ 0) (ps := ps) (fun p hp l hl => by
          have h := hps p hp
          have n3 : p ≠ 3 := fun e => q.2 (e ▸ hp)
          simp only [somePs, List.mem_cons, List.not_mem_nil, or_false] at h
          rcases h with rfl | rfl | rfl | rfl | rfl | rfl | rfl <;> first | exact absurd rfl n3 | omega) (by rw [h1]; decide)
        unfold isfor
        rw [if_neg (by decide)]
        exact decide_eq_true g
      · rw [if_neg q] at hm
        cases hm
    · by_cases q : (size : Int) = 3 ∧ ∀ p ∈ ps, p = 2 ∨ p % 8 = 1 ∨ p % 8 = 3
      · rw [if_pos q] at hm
        simp only [List.mem_cons, List.not_mem_nil, or_false] at hm
        subst hm
        have g : dot r r % 4 = 0 ∨ dot r r % 16 = 1 ∨ dot r r % 16 = 2 ∨ dot r r % 16 = 3 ∨ dot r r % 16 = 6 ∨ dot r r % 16 = 9 ∨ dot r r % 16 = 11 :=
          good_all (G := fun l => l % 4 = 0 ∨ l % 16 = 1 ∨ l % 16 = 2 ∨ l % 16 = 3 ∨ l % 16 = 6 ∨ l % 16 = 9 ∨ l % 16 = 11) (ps := ps) (fun p hp l hl => by
            have h := hps p hp
            have n := q.2 p hp
            simp only [somePs, List.mem_cons, List.not_mem_nil, or_false] at h
            rcases h with rfl | rfl | rfl | rfl | rfl | rfl | rfl <;> first | omega) (by rw [h1]; decide)
        have n4 := hr.four (by omega)
        unfold isfor
        rw [if_pos rfl]
        refine decide_eq_true ?_
        simp only [fourthR, List.mem_cons, List.not_mem_nil, or_false]
        omega
      · rw [if_neg q] at hm
        cases hm
theorem filter_none {size : Nat} {r : List Int} (hr : RayOk size r) {ps : List Int} (hps : ∀ p ∈ ps, p ∈ somePs) (h1 : stripAll ps (dot r r) = 1) : (moduliFor size ps).filter (fun m => !isfor m r) = [] := by
  refine List.filter_eq_nil_iff.mpr fun m hm => ?_
  rw [class_rules hr hps h1 m hm]
  decide
/-- the small primes are primes by the program's test -/
theorem small_prime {p : Int} (h : p ∈ somePs) : ∀ q : Int, 2 ≤ q → q * q ≤ p → 0 < p % q := by
  intro q h2 hq
  have hq5 : q < 5 := by
    rcases Int.lt_or_le q 5 with z | z
    · exact z
    · have : 5 * 5 ≤ q * q := Int.mul_le_mul z z (by decide) (by omega)
      simp only [somePs, List.mem_cons, List.not_mem_nil, or_false] at h
      omega
  have : q = 2 ∨ q = 3 ∨ q = 4 := by omega
  simp only [somePs, List.mem_cons, List.not_mem_nil, or_false] at h
  rcases this with rfl | rfl | rfl <;> rcases h with rfl | rfl | rfl | rfl | rfl | rfl | rfl <;> first | decide | omega
end Rm

/-! ## Rm0 -/
set_option maxHeartbeats 4000000
namespace Rm
open PySem PySem.Spec PyProof.Rows L2
open Evl (Ex Ex.refl Ex.trans Ex.new Ex.mut ex_l ex_t sq_of st_of sz_of sz_lt fresh_back)
/-! ### the text by places -/
def topS (i : Nat) : Stmt := PySem.Challenge.pw_rightmarks_k82_whole_rules_by_rests.main.body.getD i (.Pass ⟨0, 0, 0, 0⟩)
abbrev sGcd : Stmt := topS 1
abbrev sCdiv : Stmt := topS 2
abbrev sDot : Stmt := topS 3
abbrev sIsInt : Stmt := topS 5
abbrev sAreInts : Stmt := topS 6
abbrev sIsRay : Stmt := topS 7
abbrev sIsRayOf : Stmt := topS 8
abbrev sAsc : Stmt := topS 9
abbrev sClsSize : Stmt := topS 16
abbrev sIsPrime : Stmt := topS 17
abbrev sArePrimes : Stmt := topS 18
abbrev sLenBy : Stmt := topS 19
abbrev sWithin : Stmt := topS 20
abbrev sModFor : Stmt := topS 21
abbrev sWant : Stmt := topS 27
abbrev sWantCls : Stmt := topS 29
abbrev sInCls : Stmt := topS 30
abbrev sModBy : Stmt := topS 39
abbrev sIsMod : Stmt := topS 40
abbrev sRestsBy : Stmt := topS 41
abbrev sRestBy : Stmt := topS 42
abbrev sRuledBy : Stmt := topS 43
abbrev sMarkedBy : Stmt := topS 44
abbrev sWantRule : Stmt := topS 46
abbrev sRestOf : Stmt := topS 47
abbrev sIsRuled : Stmt := topS 48
abbrev sIsMarked : Stmt := topS 49
abbrev sRulesFor : Stmt := topS 50
abbrev sSource : Stmt := topS 52
abbrev sDraw : Stmt := topS 53
abbrev sRay : Stmt := topS 54
abbrev sLDot : Stmt := topS 55
abbrev sLists : Stmt := topS 56
abbrev sIsFor : Stmt := topS 57
abbrev sMarksIt : Stmt := topS 58
abbrev sCross : Stmt := topS 59
abbrev sSome : Stmt := topS 60
abbrev sFrame : Stmt := topS 61
abbrev sRayRight : Stmt := topS 62
abbrev sClsRight : Stmt := topS 63
abbrev sLaw : Stmt := topS 64

/-! ### a def that others call -/
structure Cal (P : Program) (w : World) (K : PySem.W.Frag) (mg : Str → Option Value) (base : Heap) (k : Nat) (x : Str) (ps : List Str) (sp : Sp) : Prop where
  ex : ∃ f fd, FnOk P w K mg base CX0 k f fd ps sp ∧ mg x = some (.ref f) ∧ PySem.W.keepIn K (.ref f) = true ∧ Binds K fd ps []
section
variable {X : Cx}
theorem pe_cal {k : Nat} {ps : List Str} {sp : Sp} {x : Str} {p pos : Pos} {e : Expr} {es : List Expr} {t : TA} (C : Cal X.prog X.w X.K X.mg X.base k x ps sp) (hr : Room k X.A) (hg : Gl X x) (ha : PA X (e :: es) t)
    (hd : (x == ("__debug__" : Str)) = false := by decide) (he : starEach (e :: es) X.env = (false, eval e X.env) :: starEach es X.env := by rfl) (hpl : (backTo pos (starEach es X.env)).any (·.1) = false := by rfl) :
    PE X (.Call (.Name x p) (e :: es) [] pos) (tCall sp [] E0 t) := by
  obtain ⟨f, fd, F, m, kp, b⟩ := C.ex
  exact pe_call F hr hg m kp b .nil pass0 ha hd he hpl
end

theorem qbl (Q : VK) {H : Hp} {a b : Bool} (e : a = b) (h : Q (.bl b) H) : Q (.bl a) H := by
  rw [e]
  exact h
theorem qint (Q : VK) {H : Hp} {a b : Int} (e : a = b) (h : Q (.int b) H) : Q (.int a) H := by
  rw [e]
  exact h
/-- a def with defaults -/
structure CalD (P : Program) (w : World) (K : PySem.W.Frag) (mg : Str → Option Value) (base : Heap) (k : Nat) (x : Str) (ps : List Str) (sp : Sp) (dvs : List V) : Prop where
  ex : ∃ f fd ds, FnOk P w K mg base CX0 k f fd ps sp ∧ mg x = some (.ref f) ∧ PySem.W.keepIn K (.ref f) = true ∧ Vals dvs ds ∧ Binds K fd ps ds
section
variable {X : Cx}
theorem pe_calD {k : Nat} {ps : List Str} {sp : Sp} {dvs : List V} {x : Str} {p pos : Pos} {e : Expr} {es : List Expr} {t : TA} (C : CalD X.prog X.w X.K X.mg X.base k x ps sp dvs) (hr : Room k X.A) (hg : Gl X x) (ha : PA X (e :: es) t)
    (hd : (x == ("__debug__" : Str)) = false := by decide) (he : starEach (e :: es) X.env = (false, eval e X.env) :: starEach es X.env := by rfl) (hpl : (backTo pos (starEach es X.env)).any (·.1) = false := by rfl) :
    PE X (.Call (.Name x p) (e :: es) [] pos) (tCall sp dvs E0 t) := by
  obtain ⟨f, fd, ds, F, m, kp, v, b⟩ := C.ex
  exact pe_call F hr hg m kp b v pass0 ha hd he hpl
end
/-! ### tuples of ints -/
def dI (ns : List Int) : PyData := .tuple (ns.map PyData.int)
theorem dpAll_ints {K : PySem.W.Frag} {H : Hp} : ∀ ns : List Int, DpAll K H (ns.map V.int) (ns.map PyData.int)
  | [] => .nil
  | n :: ns => .cons (.int n) (dpAll_ints ns)
theorem dp_dI {K : PySem.W.Frag} {H : Hp} {p : Addr} {ns : List Int} (h : SqT K H p (ns.map V.int)) : Dp K H (.ref p) (dI ns) := .tup h (dpAll_ints ns)
theorem dp_lI {K : PySem.W.Frag} {H : Hp} {p : Addr} {ns : List Int} (h : SqL K H p (ns.map V.int)) : Dp K H (.ref p) (.list (ns.map PyData.int)) := .lst h (dpAll_ints ns)
theorem ints_lay : ∀ ns : List Int, PyData.canLayAll0 (ns.map PyData.int) = true
  | [] => by simp [PyData.canLayAll0]
  | n :: ns => by simp [PyData.canLayAll0, PyData.canLay0, ints_lay ns]
theorem ints_depth : ∀ ns : List Int, PyData.depthAll (ns.map PyData.int) ≤ 1
  | [] => by simp [PyData.depthAll]
  | n :: ns => by
    have h := ints_depth ns
    simp only [List.map_cons, PyData.depthAll, PyData.depth]
    omega
theorem dI_lay (ns : List Int) : (dI ns).canLay0 = true := by
  unfold dI
  simp [PyData.canLay0, ints_lay]
theorem dI_depth (ns : List Int) : (dI ns).depth ≤ 2 := by
  have h := ints_depth ns
  unfold dI
  simp only [PyData.depth]
  omega
theorem shaped_dI (ns : List Int) : SeqAt.shaped (dI ns) = true := by
  have h := dI_depth ns
  show ((dI ns).canLay0 && decide ((dI ns).depth ≤ 64)) = true
  rw [dI_lay, decide_eq_true (by omega)]
  rfl
theorem shaped_lI (ns : List Int) : SeqAt.shaped (.list (ns.map PyData.int)) = true := by
  have h := ints_depth ns
  have h2 : PyData.depth (.list (ns.map PyData.int)) ≤ 64 := by simp only [PyData.depth]; omega
  show (PyData.canLay0 (.list (ns.map PyData.int)) && decide (PyData.depth (.list (ns.map PyData.int)) ≤ 64)) = true
  rw [decide_eq_true h2]
  simp [PyData.canLay0, ints_lay]
theorem eqvAll_ints : ∀ ns ms : List Int, PyData.eqvAll (ns.map PyData.int) (ms.map PyData.int) = decide (ns = ms)
  | [], [] => by simp [PyData.eqvAll]
  | [], m :: ms => by simp [PyData.eqvAll]
  | n :: ns, [] => by simp [PyData.eqvAll]
  | n :: ns, m :: ms => by
    rw [List.map_cons, List.map_cons, PyData.eqvAll, eqvAll_ints ns ms, PyData.eqv]
    by_cases h : n = m
    · subst h
      simp
    · simp [h]
theorem eqv_dI (ns ms : List Int) : PyData.eqv (dI ns) (dI ms) = decide (ns = ms) := by
  unfold dI
  rw [PyData.eqv, eqvAll_ints]
theorem eqv_lI (ns ms : List Int) : PyData.eqv (.list (ns.map PyData.int)) (.list (ms.map PyData.int)) = decide (ns = ms) := by
  rw [PyData.eqv, eqvAll_ints]
/-- addresses of tuples of ints -/
abbrev Tups (K : PySem.W.Frag) (H : Hp) (ps : List Addr) (nss : List (List Int)) : Prop := Paired (fun (p : Addr) (ns : List Int) => SqT K H p (ns.map V.int)) ps nss
theorem Tups.ex {K : PySem.W.Frag} {H H' : Hp} {ps : List Addr} {nss : List (List Int)} (e : Ex H H') (h : Tups K H ps nss) : Tups K H' ps nss := Paired.mapP h fun _ _ q => ex_t e q
theorem dpAll_tups {K : PySem.W.Frag} {H : Hp} : ∀ {ps : List Addr} {nss : List (List Int)}, Tups K H ps nss → DpAll K H (ps.map V.ref) (nss.map dI)
  | _, _, .nil => .nil
  | _, _, .cons h t => .cons (dp_dI h) (dpAll_tups t)
theorem tups_lay : ∀ nss : List (List Int), PyData.canLayAll0 (nss.map dI) = true
  | [] => by simp [PyData.canLayAll0]
  | n :: ns => by simp [PyData.canLayAll0, dI_lay, tups_lay ns]
theorem tups_depth : ∀ nss : List (List Int), PyData.depthAll (nss.map dI) ≤ 2
  | [] => by simp [PyData.depthAll]
  | n :: ns => by
    have h := tups_depth ns
    have h2 := dI_depth n
    simp only [List.map_cons, PyData.depthAll]
    omega
theorem any_dI (ns : List Int) : ∀ nss : List (List Int), (nss.map dI).any (fun z => PyData.eqv z (dI ns)) = decide (ns ∈ nss)
  | [] => by simp
  | m :: nss => by
    rw [List.map_cons, List.any_cons, eqv_dI, any_dI ns nss]
    by_cases h : m = ns
    · subst h
      simp
    · have : ¬ ns = m := fun e => h e.symm
      simp [h, this]
section
variable {X : Cx}
/-- a tuple of ints == another; a list of ints -/
def rEqT (K : PySem.W.Frag) : R2 := fun x y H Q => ∃ (p q : Addr) (ns ms : List Int), x = .ref p ∧ y = .ref q ∧ ((SqT K H p (ns.map V.int) ∧ SqT K H q (ms.map V.int)) ∨ (SqL K H p (ns.map V.int) ∧ SqL K H q (ms.map V.int))) ∧ Q (.bl (decide (ns = ms))) H
def rNeT (K : PySem.W.Frag) : R2 := fun x y H Q => ∃ (p q : Addr) (ns ms : List Int), x = .ref p ∧ y = .ref q ∧ ((SqT K H p (ns.map V.int) ∧ SqT K H q (ms.map V.int)) ∨ (SqL K H p (ns.map V.int) ∧ SqL K H q (ms.map V.int))) ∧ Q (.bl (!decide (ns = ms))) H
theorem op_eqT (hu : X.A.units + 64 < cLine) : OpR X (compareOp .Eq) (rEqT X.K) := by
  intro pins s σ H x y v u Q I rx ry h
  obtain ⟨p, q, ns, ms, rfl, rfl, h | h, k⟩ := h
  · exact op_eqD hu pins s σ H _ _ v u Q I rx ry ⟨_, _, dp_dI h.1, dp_dI h.2, shaped_dI ns, shaped_dI ms, by rw [eqv_dI]; exact k⟩
  · exact op_eqD hu pins s σ H _ _ v u Q I rx ry ⟨_, _, dp_lI h.1, dp_lI h.2, shaped_lI ns, shaped_lI ms, by rw [eqv_lI]; exact k⟩
theorem op_neT (hu : X.A.units + 64 < cLine) : OpR X (compareOp .NotEq) (rNeT X.K) := by
  intro pins s σ H x y v u Q I rx ry h
  obtain ⟨p, q, ns, ms, rfl, rfl, h | h, k⟩ := h
  · exact op_neD hu pins s σ H _ _ v u Q I rx ry ⟨_, _, dp_dI h.1, dp_dI h.2, shaped_dI ns, shaped_dI ms, by rw [eqv_dI]; exact k⟩
  · exact op_neD hu pins s σ H _ _ v u Q I rx ry ⟨_, _, dp_lI h.1, dp_lI h.2, shaped_lI ns, shaped_lI ms, by rw [eqv_lI]; exact k⟩
/-- a tuple of ints in a list, in a tuple of such -/
def rInT (K : PySem.W.Frag) : R2 := fun x y H Q => ∃ (p a : Addr) (ps : List Addr) (ns : List Int) (nss : List (List Int)), x = .ref p ∧ y = .ref a ∧ SqT K H p (ns.map V.int) ∧ (SqL K H a (ps.map V.ref) ∨ SqT K H a (ps.map V.ref)) ∧ Tups K H ps nss ∧ Q (.bl (decide (ns ∈ nss))) H
theorem op_inT (hu : X.A.units + 64 < cLine) : OpR X (compareOp .In) (rInT X.K) := by
  intro pins s σ H x y v u Q I rx ry h
  obtain ⟨p, a, ps, ns, nss, rfl, rfl, hp, ha, ht, k⟩ := h
  have hd := dI_depth ns
  have hroom : X.A.units + 1 + min (PyData.depthAll (nss.map dI)) (dI ns).depth < cLine := by
    have : min (PyData.depthAll (nss.map dI)) (dI ns).depth ≤ 2 := Nat.le_trans (Nat.min_le_right _ _) hd
    omega
  obtain ⟨as, r1⟩ := Dp.reads I (dI ns) _ v (dp_dI hp) rx
  rw [← any_dI] at k
  rcases ha with ha | ha
  · obtain ⟨bs, r2⟩ := Dp.reads I (.list (nss.map dI)) _ u (.lst ha (dpAll_tups ht)) ry
    exact SeqAt.in_list_reads r2 r1 (tups_lay nss) (dI_lay ns) hroom ⟨.bl _, H, I, rfl, k⟩
  · obtain ⟨bs, r2⟩ := Dp.reads I (.tuple (nss.map dI)) _ u (.tup ha (dpAll_tups ht)) ry
    exact SeqAt.in_tuple_reads r2 r1 (tups_lay nss) (dI_lay ns) hroom ⟨.bl _, H, I, rfl, k⟩
theorem call_repr_bl : CallR X (.builtin "repr") (fun xs H Q => ∃ b : Bool, xs = [.bl b] ∧ Q (.str (if b then "True" else "False")) H) := by
  intro pins s σ H xs us Q I r h
  obtain ⟨b, rfl, q⟩ := h
  obtain ⟨u, rfl, rfl⟩ := vals1 r
  exact PySem.P.repr_of_bool ⟨.str _, H, I.tok _, ⟨_, rfl⟩, q⟩
end

/-! ### the lesser of two tuples of ints -/
theorem ht_lex : ∀ ns ms : List Int, HT.lexLt ns ms = lexLt ns ms
  | [], [] => rfl
  | [], _ :: _ => rfl
  | _ :: _, [] => rfl
  | x :: xs, y :: ys => by
    show (if x = y then HT.lexLt xs ys else decide (x < y)) = (if x = y then lexLt xs ys else decide (x < y))
    rw [ht_lex xs ys]
theorem toks_lt : ∀ ns ms : List Int, ns.length = ms.length → PyProof.Rows.lexLt PyProof.Rows.itemOrd (PySem.W.keyToksAll (ns.map PyData.int)) (PySem.W.keyToksAll (ms.map PyData.int)) = lexLt ns ms
  | [], [], _ => by
    simp only [List.map_nil, PySem.W.keyToksAll]
    exact PyProof.Rows.lex_irrefl (O := PyProof.Rows.itemOrd) _
  | n :: ns, m :: ms, h => by
    rw [List.map_cons, List.map_cons, PySem.W.toks_all_cons, PySem.W.toks_all_cons, PySem.W.keyToks, PySem.W.keyToks]
    refine (PyProof.Rows.lex_self (O := PyProof.Rows.itemOrd) _ _ _).trans ?_
    show PyProof.Rows.lexLt PyProof.Rows.itemOrd (Sum.inl n :: PySem.W.keyToksAll (ns.map PyData.int)) (Sum.inl m :: PySem.W.keyToksAll (ms.map PyData.int)) = if n = m then lexLt ns ms else decide (n < m)
    by_cases e : n = m
    · subst e
      rw [if_pos rfl]
      exact (PyProof.Rows.lex_self (O := PyProof.Rows.itemOrd) _ _ _).trans (toks_lt ns ms (by simpa using h))
    · rw [if_neg e]
      exact PyProof.Rows.lex_diff (O := PyProof.Rows.itemOrd) fun z => e (Sum.inl.inj z)
theorem dataLt_dI {ns ms : List Int} (h : ns.length = ms.length) : PySem.W.dataLt (dI ns) (dI ms) = lexLt ns ms := by
  unfold PySem.W.dataLt dI
  rw [PySem.W.keyToks, PySem.W.keyToks]
  exact toks_lt ns ms h
theorem alikeAll_ints : ∀ ns ms : List Int, PySem.W.alikeAll (ns.map PyData.int) (ms.map PyData.int) = true
  | [], _ => by rw [List.map_nil, PySem.W.alikeAll]
  | _ :: _, [] => by rw [List.map_cons, List.map_nil, PySem.W.alikeAll]
  | n :: ns, m :: ms => by
    rw [List.map_cons, List.map_cons, PySem.W.alikeAll, alikeAll_ints ns ms, PySem.W.alike]
    rfl
theorem alike_dI (ns ms : List Int) : PySem.W.alike (dI ns) (dI ms) = true := by
  unfold dI
  rw [PySem.W.alike]
  exact alikeAll_ints ns ms
/-- min([t, u]) -/
def rMinT (K : PySem.W.Frag) : List V → Hp → VK → Prop := fun xs H Q => ∃ (a p q : Addr) (ns ms : List Int), xs = [.ref a] ∧ SqL K H a [.ref p, .ref q] ∧ SqT K H p (ns.map V.int) ∧ SqT K H q (ms.map V.int) ∧ ns.length = ms.length ∧
  ∀ r, SqT K H r ((if lexLt ms ns = true then ms else ns).map V.int) → Q (.ref r) H
section
variable {X : Cx}
theorem cr_minT (hc : X.calm = true) (hu : X.A.units + 64 < cLine) : CallR X (.builtin "min") (rMinT X.K) := by
  intro pins s σ H xs us Q I r h
  obtain ⟨a, p, q, ns, ms, rfl, hl, hp, hq, hlen, k⟩ := h
  obtain ⟨its, rv, pl, _⟩ := I.list hl
  rw [Vals.ref1 r]
  have ha : DpAll X.K H [V.ref p, V.ref q] [dI ns, dI ms] := .cons (dp_dI hp) (.cons (dp_dI hq) .nil)
  obtain ⟨as, ra⟩ := Dp.readsAll I [dI ns, dI ms] _ its ha rv
  have hal : PySem.W.AlikeAll [dI ns, dI ms] := by
    refine ⟨fun x hx y hy => ?_, fun x hx => ?_⟩
    · simp only [List.mem_cons, List.not_mem_nil, or_false] at hx hy
      rcases hx with rfl | rfl <;> rcases hy with rfl | rfl <;> exact alike_dI _ _
    · simp only [List.mem_cons, List.not_mem_nil, or_false] at hx
      rcases hx with rfl | rfl <;> (unfold dI; intro z; cases z)
  have hd : PyData.depthAll [dI ns, dI ms] ≤ 2 := tups_depth [ns, ms]
  refine PySem.W.min_list_data (I.ok.hd hc) pl.isList (x := dI ns) (xs := [dI ms]) (by simpa using ra) hal (by omega) fun i v h' tk bs hv rd hk => ?_
  have I2 : Inv X pins σ H { s with heap := h', toks := tk } := I.kept hk
  have em : PySem.W.minD (dI ns) [dI ms] = dI (if lexLt ms ns = true then ms else ns) := by
    show (if PySem.W.dataLt (dI ms) (dI ns) = true then dI ms else dI ns) = _
    rw [dataLt_dI hlen.symm]
    split <;> rfl
  rw [em] at rd
  have same : ∀ (c : Addr) (ks : List Int), SqT X.K H c (ks.map V.int) → v = .ref c → ks = (if lexLt ms ns = true then ms else ns) := fun c ks hc' ev => by
    obtain ⟨cs, rc⟩ := Dp.reads I2 (dI ks) (.ref c) (.ref c) (dp_dI hc') rfl
    subst ev
    have e1 := SeqAt.readOf_eq (dI_lay ks) rc
    have e2 := SeqAt.readOf_eq (dI_lay _) rd
    have e3 := e1.symm.trans e2
    have e4 := eqv_dI ks (if lexLt ms ns = true then ms else ns)
    rw [e3, eqv_dI, decide_eq_true rfl] at e4
    exact of_decide_eq_true e4.symm
  cases rv with
  | cons r1 rr =>
    cases rr with
    | cons r2 rr =>
      cases rr
      cases r1
      cases r2
      match i, hv with
      | 0, hv =>
        have ev : v = .ref p := (Option.some.inj hv).symm
        exact ⟨.ref p, H, I2, ev, k p (by rw [← same p ns hp ev]; exact hp)⟩
      | 1, hv =>
        have ev : v = .ref q := (Option.some.inj hv).symm
        exact ⟨.ref q, H, I2, ev, k q (by rw [← same q ms hq ev]; exact hq)⟩
end

/-! ### cuts and sums of tuples: some tuple of these items -/
def rSlX (K : PySem.W.Frag) : V → Option Int → Option Int → Hp → VK → Prop := fun x lo hi H Q => ∃ a xs, x = .ref a ∧ SqT K H a xs ∧ ∀ H1 p, Ex H H1 → SqT K H1 p (cutV xs lo hi) → Q (.ref p) H1
def rCatX (K : PySem.W.Frag) : R2 := fun x y H Q => ∃ a b xs ys, x = .ref a ∧ y = .ref b ∧ SqT K H a xs ∧ SqT K H b ys ∧ xs.length + ys.length ≤ sizeLine ∧ ∀ H1 p, Ex H H1 → SqT K H1 p (xs ++ ys) → Q (.ref p) H1
section
variable {X : Cx}
theorem sl_tupX : SlR X (rSlX X.K) := by
  intro pins s σ H x v vl vu lo hi sl Q I rx hs pl pu h
  obtain ⟨a, xs, rfl, hx, q⟩ := h
  refine sl_tupA pins s σ H _ v vl vu lo hi sl Q I rx hs pl pu ⟨a, xs, rfl, hx, fun w => q H a (Ex.refl H) ?_, fun _ p hp => q _ p (Ex.new hp) (st_of upd_same)⟩
  have : cutV xs lo hi = xs := by
    unfold cutV
    rw [w.1, w.2]
    simp
  rw [this]
  exact hx
theorem op_catX : OpR X (binaryOp .Add) (rCatX X.K) := by
  intro pins s σ H x y v u Q I rx ry h
  obtain ⟨a, b, xs, ys, rfl, rfl, ha, hb, hz, q⟩ := h
  refine op_catA pins s σ H _ _ v u Q I rx ry ⟨a, b, xs, ys, rfl, rfl, ha, hb, hz, fun e => q H b (Ex.refl H) ?_, fun _ e => q H a (Ex.refl H) ?_, fun _ _ p hp => q _ p (Ex.new hp) (st_of upd_same)⟩
  · rw [e]
    exact hb
  · rw [e, List.append_nil]
    exact ha
end

/-! ### comprehensions -/
/-- any that is walked: n turns, what each gives (G), what is known of the item (Y) -/
theorem lcJ {J : It} {g : TG} {tt : TT} {te : TE} {vs : List Nat} {σ : L2.St} {H0 : Hp} {Q : Addr → Hp → Prop} (n : Nat) (G : Nat → Option V) (Y : Nat → V → Hp → Prop) (hz : n ≤ 40000)
    (hgo : ∀ i H, Ex H0 H → i < n → J.go i H) (hstop : ∀ H, Ex H0 H → J.stop n H) (hy : ∀ i H x H', Ex H0 H → i < n → J.yld i H x H' → Ex H H' ∧ Y i x H')
    (turn : ∀ i x H1, i < n → Ex H0 H1 → Y i x H1 → ∀ R : Option V → Hp → Prop, (∀ H2, Ex H1 H2 → R (G i) H2) → g x (wipe σ vs) H1 fun σ2 H2 => wipe σ2 vs = wipe σ vs ∧ tt σ2 H2 fun b H3 => if b = true then te σ2 H3 fun y H4 => R (some y) H4 else R none H3)
    (k : ∀ D H2, H0 D = none → Ex H0 H2 → H2 D = some (.lst ((List.range n).filterMap G)) → Q D H2) :
    ∀ D, H0 D = none → ∃ W : Nat → Nat → Hp → Prop, (∃ m, W 0 m (upd H0 D (.lst []))) ∧ ∀ i m H, W i m H →
      (J.stop i H ∧ Q D H) ∨ (J.go i H ∧ ∃ Nx : Hp → Prop, (∀ H', Nx H' → ∃ m', m' < m ∧ W (i + 1) m' H') ∧ ∀ x H', J.yld i H x H' → g x (wipe σ vs) H' fun σ2 H2 => wipe σ2 vs = wipe σ vs ∧ tt σ2 H2 fun b H3 =>
        if b = true then te σ2 H3 fun y H4 => ∃ acc, H4 D = some (.lst acc) ∧ acc.length < sizeLine ∧ Nx (upd H4 D (.lst (acc ++ [y]))) else Nx H3) := by
  intro D hD
  let Pv : Nat → Hp → Prop := fun i H => Ex H0 H ∧ H D = some (.lst ((List.range i).filterMap G))
  have glen : ∀ i, ((List.range i).filterMap G).length ≤ i := fun i => by
    have := List.length_filterMap_le G (List.range i)
    rw [List.length_range] at this
    exact this
  refine ⟨fun i m H => m = n - i ∧ i ≤ n ∧ Pv i H, ⟨n, by simp, Nat.zero_le _, Ex.new hD, upd_same⟩, ?_⟩
  rintro i m H ⟨rfl, hi, pe, pd⟩
  by_cases hlt : i < n
  · refine .inr ⟨hgo i H pe hlt, Pv (i + 1), fun H' p' => ⟨n - (i + 1), by omega, rfl, hlt, p'⟩, fun x H' y => ?_⟩
    obtain ⟨e1, hY⟩ := hy i H x H' pe hlt y
    refine turn i x H' hlt (pe.trans e1) hY (fun o H4 => match o with
      | some y => ∃ acc, H4 D = some (.lst acc) ∧ acc.length < sizeLine ∧ Pv (i + 1) (upd H4 D (.lst (acc ++ [y])))
      | none => Pv (i + 1) H4) fun H2 e2 => ?_
    have d2 : H2 D = some (.lst ((List.range i).filterMap G)) := e2 _ _ (e1 _ _ pd)
    have er : (List.range (i + 1)).filterMap G = (List.range i).filterMap G ++ (match G i with | some y => [y] | none => []) := by
      rw [List.range_succ, List.filterMap_append]
      cases hG : G i with
      | some y => simp [hG]
      | none => simp [hG]
    cases hG : G i with
    | some y =>
      rw [hG] at er
      refine ⟨_, d2, sz_lt (by have := glen i; omega), Ex.mut ((pe.trans e1).trans e2) hD, ?_⟩
      rw [upd_same, er]
    | none =>
      rw [hG, List.append_nil] at er
      refine ⟨(pe.trans e1).trans e2, ?_⟩
      rw [er]
      exact d2
  · have e : i = n := by omega
    subst e
    exact .inl ⟨hstop H pe, k D H hD pe pd⟩
theorem range_get {α β : Type} (F : α → Option β) : ∀ xs : List α, (List.range xs.length).filterMap (fun i => xs[i]?.bind F) = xs.filterMap F := fun xs => by
  have e : xs.filterMap F = ((List.range xs.length).filterMap (fun i => xs[i]?)).filterMap F := by
    congr 1
    induction xs with
    | nil => rfl
    | cons x r ih =>
      rw [List.length_cons, List.range_succ_eq_map, List.filterMap_cons]
      simp only [List.getElem?_cons_zero]
      rw [List.filterMap_map]
      have : ((fun i => (x :: r)[i]?) ∘ Nat.succ) = fun i => r[i]? := by
        funext i
        simp
      rw [this, ← ih]
  rw [e, List.filterMap_filterMap]
theorem range_zip {α β γ : Type} (F : α → β → Option γ) : ∀ (xs : List α) (ys : List β), (List.range (min xs.length ys.length)).filterMap (fun i => xs[i]?.bind fun x => ys[i]?.bind fun y => F x y) = (xs.zip ys).filterMap fun p => F p.1 p.2
  | [], ys => by simp
  | x :: xs, [] => by simp
  | x :: xs, y :: ys => by
    have ih := range_zip F xs ys
    have e : min (x :: xs).length (y :: ys).length = min xs.length ys.length + 1 := by
      rw [List.length_cons, List.length_cons]
      omega
    rw [e, List.range_succ_eq_map, List.filterMap_cons, List.filterMap_map, List.zip_cons_cons, List.filterMap_cons]
    simp only [List.getElem?_cons_zero, Option.bind_some]
    have e2 : ((fun i => (x :: xs)[i]?.bind fun x => (y :: ys)[i]?.bind fun y => F x y) ∘ Nat.succ) = fun i => xs[i]?.bind fun x => ys[i]?.bind fun y => F x y := by
      funext i
      simp
    rw [e2, ih]
/-- over a tuple -/
theorem lcT {K : PySem.W.Frag} {a : Addr} {xs : List V} {g : TG} {tt : TT} {te : TE} {vs : List Nat} {σ : L2.St} {H0 : Hp} {Q : Addr → Hp → Prop} (F : V → Option V) (hx : SqT K H0 a xs) (hz : xs.length ≤ 40000)
    (turn : ∀ x H1, x ∈ xs → Ex H0 H1 → ∀ R : Option V → Hp → Prop, (∀ H2, Ex H1 H2 → R (F x) H2) → g x (wipe σ vs) H1 fun σ2 H2 => wipe σ2 vs = wipe σ vs ∧ tt σ2 H2 fun b H3 => if b = true then te σ2 H3 fun y H4 => R (some y) H4 else R none H3)
    (k : ∀ D H2, H0 D = none → Ex H0 H2 → H2 D = some (.lst (xs.filterMap F)) → Q D H2) :
    ∀ D, H0 D = none → ∃ W : Nat → Nat → Hp → Prop, (∃ m, W 0 m (upd H0 D (.lst []))) ∧ ∀ i m H, W i m H →
      ((Itt K a).stop i H ∧ Q D H) ∨ ((Itt K a).go i H ∧ ∃ Nx : Hp → Prop, (∀ H', Nx H' → ∃ m', m' < m ∧ W (i + 1) m' H') ∧ ∀ x H', (Itt K a).yld i H x H' → g x (wipe σ vs) H' fun σ2 H2 => wipe σ2 vs = wipe σ vs ∧ tt σ2 H2 fun b H3 =>
        if b = true then te σ2 H3 fun y H4 => ∃ acc, H4 D = some (.lst acc) ∧ acc.length < sizeLine ∧ Nx (upd H4 D (.lst (acc ++ [y]))) else Nx H3) :=
  lcJ xs.length (fun i => xs[i]?.bind F) (fun i x _ => xs[i]? = some x) hz (fun i H e hi => ⟨xs, xs[i], ex_t e hx, List.getElem?_eq_getElem hi⟩) (fun H e => ⟨xs, ex_t e hx, Nat.le_refl _⟩)
    (fun i H x H' e hi y => by
      obtain ⟨rfl, y⟩ := y
      exact ⟨Ex.refl _, y xs (ex_t e hx)⟩)
    (fun i x H1 hi e hY R q => turn x H1 (List.mem_of_getElem? hY) e R (fun H2 e2 => by
      have := q H2 e2
      rw [hY] at this
      exact this))
    (by rw [range_get]; exact k)
/-- over a tuple, by places -/
theorem lcTi {K : PySem.W.Frag} {a : Addr} {xs : List V} {g : TG} {tt : TT} {te : TE} {vs : List Nat} {σ : L2.St} {H0 : Hp} {Q : Addr → Hp → Prop} (G : Nat → Option V) (hx : SqT K H0 a xs) (hz : xs.length ≤ 40000)
    (turn : ∀ (i : Nat) (x : V) (H1 : Hp), xs[i]? = some x → Ex H0 H1 → ∀ R : Option V → Hp → Prop, (∀ H2, Ex H1 H2 → R (G i) H2) → g x (wipe σ vs) H1 fun σ2 H2 => wipe σ2 vs = wipe σ vs ∧ tt σ2 H2 fun b H3 => if b = true then te σ2 H3 fun y H4 => R (some y) H4 else R none H3)
    (k : ∀ D H2, H0 D = none → Ex H0 H2 → H2 D = some (.lst ((List.range xs.length).filterMap G)) → Q D H2) :
    ∀ D, H0 D = none → ∃ W : Nat → Nat → Hp → Prop, (∃ m, W 0 m (upd H0 D (.lst []))) ∧ ∀ i m H, W i m H →
      ((Itt K a).stop i H ∧ Q D H) ∨ ((Itt K a).go i H ∧ ∃ Nx : Hp → Prop, (∀ H', Nx H' → ∃ m', m' < m ∧ W (i + 1) m' H') ∧ ∀ x H', (Itt K a).yld i H x H' → g x (wipe σ vs) H' fun σ2 H2 => wipe σ2 vs = wipe σ vs ∧ tt σ2 H2 fun b H3 =>
        if b = true then te σ2 H3 fun y H4 => ∃ acc, H4 D = some (.lst acc) ∧ acc.length < sizeLine ∧ Nx (upd H4 D (.lst (acc ++ [y]))) else Nx H3) :=
  lcJ xs.length G (fun i x _ => xs[i]? = some x) hz (fun i H e hi => ⟨xs, xs[i], ex_t e hx, List.getElem?_eq_getElem hi⟩) (fun H e => ⟨xs, ex_t e hx, Nat.le_refl _⟩)
    (fun i H x H' e hi y => by
      obtain ⟨rfl, y⟩ := y
      exact ⟨Ex.refl _, y xs (ex_t e hx)⟩)
    (fun i x H1 hi e hY R q => turn i x H1 hY e R q) k
/-- over a list -/
theorem lcL {K : PySem.W.Frag} {a : Addr} {xs : List V} {g : TG} {tt : TT} {te : TE} {vs : List Nat} {σ : L2.St} {H0 : Hp} {Q : Addr → Hp → Prop} (F : V → Option V) (hx : SqL K H0 a xs) (hz : xs.length ≤ 40000)
    (turn : ∀ x H1, x ∈ xs → Ex H0 H1 → ∀ R : Option V → Hp → Prop, (∀ H2, Ex H1 H2 → R (F x) H2) → g x (wipe σ vs) H1 fun σ2 H2 => wipe σ2 vs = wipe σ vs ∧ tt σ2 H2 fun b H3 => if b = true then te σ2 H3 fun y H4 => R (some y) H4 else R none H3)
    (k : ∀ D H2, H0 D = none → Ex H0 H2 → H2 D = some (.lst (xs.filterMap F)) → Q D H2) :
    ∀ D, H0 D = none → ∃ W : Nat → Nat → Hp → Prop, (∃ m, W 0 m (upd H0 D (.lst []))) ∧ ∀ i m H, W i m H →
      ((Itl K a).stop i H ∧ Q D H) ∨ ((Itl K a).go i H ∧ ∃ Nx : Hp → Prop, (∀ H', Nx H' → ∃ m', m' < m ∧ W (i + 1) m' H') ∧ ∀ x H', (Itl K a).yld i H x H' → g x (wipe σ vs) H' fun σ2 H2 => wipe σ2 vs = wipe σ vs ∧ tt σ2 H2 fun b H3 =>
        if b = true then te σ2 H3 fun y H4 => ∃ acc, H4 D = some (.lst acc) ∧ acc.length < sizeLine ∧ Nx (upd H4 D (.lst (acc ++ [y]))) else Nx H3) :=
  lcJ xs.length (fun i => xs[i]?.bind F) (fun i x _ => xs[i]? = some x) hz (fun i H e hi => ⟨xs, xs[i], ex_l e hx, List.getElem?_eq_getElem hi⟩) (fun H e => ⟨xs, ex_l e hx, Nat.le_refl _⟩)
    (fun i H x H' e hi y => by
      obtain ⟨rfl, y⟩ := y
      exact ⟨Ex.refl _, y xs (ex_l e hx)⟩)
    (fun i x H1 hi e hY R q => turn x H1 (List.mem_of_getElem? hY) e R (fun H2 e2 => by
      have := q H2 e2
      rw [hY] at this
      exact this))
    (by rw [range_get]; exact k)
/-- over a range -/
theorem lcR {lo : Int} {n : Nat} {g : TG} {tt : TT} {te : TE} {vs : List Nat} {σ : L2.St} {H0 : Hp} {Q : Addr → Hp → Prop} (G : Nat → Option V) (hz : n ≤ 40000)
    (turn : ∀ (i : Nat) H1, i < n → Ex H0 H1 → ∀ R : Option V → Hp → Prop, (∀ H2, Ex H1 H2 → R (G i) H2) → g (.int (lo + i)) (wipe σ vs) H1 fun σ2 H2 => wipe σ2 vs = wipe σ vs ∧ tt σ2 H2 fun b H3 => if b = true then te σ2 H3 fun y H4 => R (some y) H4 else R none H3)
    (k : ∀ D H2, H0 D = none → Ex H0 H2 → H2 D = some (.lst ((List.range n).filterMap G)) → Q D H2) :
    ∀ D, H0 D = none → ∃ W : Nat → Nat → Hp → Prop, (∃ m, W 0 m (upd H0 D (.lst []))) ∧ ∀ i m H, W i m H →
      ((Itr lo n).stop i H ∧ Q D H) ∨ ((Itr lo n).go i H ∧ ∃ Nx : Hp → Prop, (∀ H', Nx H' → ∃ m', m' < m ∧ W (i + 1) m' H') ∧ ∀ x H', (Itr lo n).yld i H x H' → g x (wipe σ vs) H' fun σ2 H2 => wipe σ2 vs = wipe σ vs ∧ tt σ2 H2 fun b H3 =>
        if b = true then te σ2 H3 fun y H4 => ∃ acc, H4 D = some (.lst acc) ∧ acc.length < sizeLine ∧ Nx (upd H4 D (.lst (acc ++ [y]))) else Nx H3) :=
  lcJ n G (fun i x _ => x = .int (lo + i)) hz (fun i H _ hi => hi) (fun H _ => Nat.le_refl _)
    (fun i H x H' e hi y => by
      obtain ⟨rfl, rfl⟩ := y
      exact ⟨Ex.refl _, rfl⟩)
    (fun i x H1 hi e hY R q => by
      subst hY
      exact turn i H1 hi e R q) k
/-- over zip of two tuples -/
theorem lcZ {K : PySem.W.Frag} {a b : Addr} {xs ys : List V} {g : TG} {tt : TT} {te : TE} {vs : List Nat} {σ : L2.St} {H0 : Hp} {Q : Addr → Hp → Prop} (F : V → V → Option V) (n : Nat) (hn : n = min xs.length ys.length) (hx : SqT K H0 a xs) (hy : SqT K H0 b ys) (hz : n ≤ 40000)
    (turn : ∀ (i : Nat) (x y : V) (T : Addr) (H1 : Hp), xs[i]? = some x → ys[i]? = some y → Ex H0 H1 → H1 T = some (.tup [x, y]) → ∀ R : Option V → Hp → Prop, (∀ H2, Ex H1 H2 → R (F x y) H2) → g (.ref T) (wipe σ vs) H1 fun σ2 H2 => wipe σ2 vs = wipe σ vs ∧ tt σ2 H2 fun b H3 => if b = true then te σ2 H3 fun y H4 => R (some y) H4 else R none H3)
    (k : ∀ D H2, H0 D = none → Ex H0 H2 → H2 D = some (.lst ((xs.zip ys).filterMap fun p => F p.1 p.2)) → Q D H2) :
    ∀ D, H0 D = none → ∃ W : Nat → Nat → Hp → Prop, (∃ m, W 0 m (upd H0 D (.lst []))) ∧ ∀ i m H, W i m H →
      ((RZ.ItzT K a b).stop i H ∧ Q D H) ∨ ((RZ.ItzT K a b).go i H ∧ ∃ Nx : Hp → Prop, (∀ H', Nx H' → ∃ m', m' < m ∧ W (i + 1) m' H') ∧ ∀ x H', (RZ.ItzT K a b).yld i H x H' → g x (wipe σ vs) H' fun σ2 H2 => wipe σ2 vs = wipe σ vs ∧ tt σ2 H2 fun b H3 =>
        if b = true then te σ2 H3 fun y H4 => ∃ acc, H4 D = some (.lst acc) ∧ acc.length < sizeLine ∧ Nx (upd H4 D (.lst (acc ++ [y]))) else Nx H3) :=
  lcJ n (fun i => xs[i]?.bind fun x => ys[i]?.bind fun y => F x y) (fun i v H1 => ∃ T x y, v = .ref T ∧ H1 T = some (.tup [x, y]) ∧ xs[i]? = some x ∧ ys[i]? = some y) hz
    (fun i H e hi => ⟨xs, ys, xs[i]'(by omega), ys[i]'(by omega), ex_t e hx, ex_t e hy, List.getElem?_eq_getElem _, List.getElem?_eq_getElem _⟩)
    (fun H e => ⟨xs, ys, ex_t e hx, ex_t e hy, by omega⟩)
    (fun i H v H' e hi y => by
      obtain ⟨T, x, y, rfl, hT, rfl, f1, f2⟩ := y
      exact ⟨Ex.new hT, T, x, y, rfl, upd_same, f1 xs (ex_t e hx), f2 ys (ex_t e hy)⟩)
    (fun i v H1 hi e hY R q => by
      obtain ⟨T, x, y, rfl, hT, gx, gy⟩ := hY
      exact turn i x y T H1 gx gy e hT R (fun H2 e2 => by
        have := q H2 e2
        rw [gx, Option.bind_some, gy, Option.bind_some] at this
        exact this)) (by rw [hn, range_zip]; exact k)
/-! the same without a test -/
theorem lcTm {K : PySem.W.Frag} {a : Addr} {xs : List V} {g : TG} {te : TE} {vs : List Nat} {σ : L2.St} {H0 : Hp} {Q : Addr → Hp → Prop} (F : V → V) (hx : SqT K H0 a xs) (hz : xs.length ≤ 40000)
    (turn : ∀ x H1, x ∈ xs → Ex H0 H1 → ∀ R : VK, (∀ H2, Ex H1 H2 → R (F x) H2) → g x (wipe σ vs) H1 fun σ2 H2 => wipe σ2 vs = wipe σ vs ∧ te σ2 H2 R)
    (k : ∀ D H2, H0 D = none → Ex H0 H2 → H2 D = some (.lst (xs.map F)) → Q D H2) :
    ∀ D, H0 D = none → ∃ W : Nat → Nat → Hp → Prop, (∃ m, W 0 m (upd H0 D (.lst []))) ∧ ∀ i m H, W i m H →
      ((Itt K a).stop i H ∧ Q D H) ∨ ((Itt K a).go i H ∧ ∃ Nx : Hp → Prop, (∀ H', Nx H' → ∃ m', m' < m ∧ W (i + 1) m' H') ∧ ∀ x H', (Itt K a).yld i H x H' → g x (wipe σ vs) H' fun σ2 H2 => wipe σ2 vs = wipe σ vs ∧ tYes σ2 H2 fun b H3 =>
        if b = true then te σ2 H3 fun y H4 => ∃ acc, H4 D = some (.lst acc) ∧ acc.length < sizeLine ∧ Nx (upd H4 D (.lst (acc ++ [y]))) else Nx H3) := lcT (tt := tYes) (fun x => some (F x)) hx hz (fun x H1 m e R q => turn x H1 m e (fun y H4 => R (some y) H4) q) (by rw [show (fun x => some (F x)) = some ∘ F from rfl, List.filterMap_eq_map]; exact k)
theorem lcLm {K : PySem.W.Frag} {a : Addr} {xs : List V} {g : TG} {te : TE} {vs : List Nat} {σ : L2.St} {H0 : Hp} {Q : Addr → Hp → Prop} (F : V → V) (hx : SqL K H0 a xs) (hz : xs.length ≤ 40000)
    (turn : ∀ x H1, x ∈ xs → Ex H0 H1 → ∀ R : VK, (∀ H2, Ex H1 H2 → R (F x) H2) → g x (wipe σ vs) H1 fun σ2 H2 => wipe σ2 vs = wipe σ vs ∧ te σ2 H2 R)
    (k : ∀ D H2, H0 D = none → Ex H0 H2 → H2 D = some (.lst (xs.map F)) → Q D H2) :
    ∀ D, H0 D = none → ∃ W : Nat → Nat → Hp → Prop, (∃ m, W 0 m (upd H0 D (.lst []))) ∧ ∀ i m H, W i m H →
      ((Itl K a).stop i H ∧ Q D H) ∨ ((Itl K a).go i H ∧ ∃ Nx : Hp → Prop, (∀ H', Nx H' → ∃ m', m' < m ∧ W (i + 1) m' H') ∧ ∀ x H', (Itl K a).yld i H x H' → g x (wipe σ vs) H' fun σ2 H2 => wipe σ2 vs = wipe σ vs ∧ tYes σ2 H2 fun b H3 =>
        if b = true then te σ2 H3 fun y H4 => ∃ acc, H4 D = some (.lst acc) ∧ acc.length < sizeLine ∧ Nx (upd H4 D (.lst (acc ++ [y]))) else Nx H3) := lcL (tt := tYes) (fun x => some (F x)) hx hz (fun x H1 m e R q => turn x H1 m e (fun y H4 => R (some y) H4) q) (by rw [show (fun x => some (F x)) = some ∘ F from rfl, List.filterMap_eq_map]; exact k)
theorem lcRm {lo : Int} {n : Nat} {g : TG} {te : TE} {vs : List Nat} {σ : L2.St} {H0 : Hp} {Q : Addr → Hp → Prop} (G : Nat → V) (hz : n ≤ 40000)
    (turn : ∀ (i : Nat) H1, i < n → Ex H0 H1 → ∀ R : VK, (∀ H2, Ex H1 H2 → R (G i) H2) → g (.int (lo + i)) (wipe σ vs) H1 fun σ2 H2 => wipe σ2 vs = wipe σ vs ∧ te σ2 H2 R)
    (k : ∀ D H2, H0 D = none → Ex H0 H2 → H2 D = some (.lst ((List.range n).map G)) → Q D H2) :
    ∀ D, H0 D = none → ∃ W : Nat → Nat → Hp → Prop, (∃ m, W 0 m (upd H0 D (.lst []))) ∧ ∀ i m H, W i m H →
      ((Itr lo n).stop i H ∧ Q D H) ∨ ((Itr lo n).go i H ∧ ∃ Nx : Hp → Prop, (∀ H', Nx H' → ∃ m', m' < m ∧ W (i + 1) m' H') ∧ ∀ x H', (Itr lo n).yld i H x H' → g x (wipe σ vs) H' fun σ2 H2 => wipe σ2 vs = wipe σ vs ∧ tYes σ2 H2 fun b H3 =>
        if b = true then te σ2 H3 fun y H4 => ∃ acc, H4 D = some (.lst acc) ∧ acc.length < sizeLine ∧ Nx (upd H4 D (.lst (acc ++ [y]))) else Nx H3) := lcR (tt := tYes) (fun x => some (G x)) hz (fun x H1 m e R q => turn x H1 m e (fun y H4 => R (some y) H4) q) (by rw [show (fun x => some (G x)) = some ∘ G from rfl, List.filterMap_eq_map]; exact k)
theorem lcZm {K : PySem.W.Frag} {a b : Addr} {xs ys : List V} {g : TG} {te : TE} {vs : List Nat} {σ : L2.St} {H0 : Hp} {Q : Addr → Hp → Prop} (F : V → V → V) (n : Nat) (hn : n = min xs.length ys.length) (hx : SqT K H0 a xs) (hy : SqT K H0 b ys) (hz : n ≤ 40000)
    (turn : ∀ (i : Nat) (x y : V) (T : Addr) (H1 : Hp), xs[i]? = some x → ys[i]? = some y → Ex H0 H1 → H1 T = some (.tup [x, y]) → ∀ R : VK, (∀ H2, Ex H1 H2 → R (F x y) H2) → g (.ref T) (wipe σ vs) H1 fun σ2 H2 => wipe σ2 vs = wipe σ vs ∧ te σ2 H2 R)
    (k : ∀ D H2, H0 D = none → Ex H0 H2 → H2 D = some (.lst ((xs.zip ys).map fun p => F p.1 p.2)) → Q D H2) :
    ∀ D, H0 D = none → ∃ W : Nat → Nat → Hp → Prop, (∃ m, W 0 m (upd H0 D (.lst []))) ∧ ∀ i m H, W i m H →
      ((RZ.ItzT K a b).stop i H ∧ Q D H) ∨ ((RZ.ItzT K a b).go i H ∧ ∃ Nx : Hp → Prop, (∀ H', Nx H' → ∃ m', m' < m ∧ W (i + 1) m' H') ∧ ∀ x H', (RZ.ItzT K a b).yld i H x H' → g x (wipe σ vs) H' fun σ2 H2 => wipe σ2 vs = wipe σ vs ∧ tYes σ2 H2 fun b H3 =>
        if b = true then te σ2 H3 fun y H4 => ∃ acc, H4 D = some (.lst acc) ∧ acc.length < sizeLine ∧ Nx (upd H4 D (.lst (acc ++ [y]))) else Nx H3) := lcZ (tt := tYes) (fun x y => some (F x y)) n hn hx hy hz (fun i x y T H1 gx gy e hT R q => turn i x y T H1 gx gy e hT (fun y H4 => R (some y) H4) q) (by rw [show (fun p : V × V => some (F p.1 p.2)) = some ∘ (fun p : V × V => F p.1 p.2) from rfl, List.filterMap_eq_map]; exact k)
end Rm

/-! ## Rm1 -/
namespace Rm
open PySem PySem.Spec PyProof.Rows L2
open Evl (Ex Ex.refl Ex.trans Ex.new Ex.mut ex_l ex_t sq_of st_of sz_of sz_lt fresh_back)
section
variable {P : Program} {w : World} {K : PySem.W.Frag} {mg : Str → Option Value} {base : Heap} {f : Addr} {fd : FuncData}
/-! ### divisor_of -/
def spGcd : Sp := fun vs H Q _ => ∃ a b : Int, vs = [.int a, .int b] ∧ 0 ≤ a ∧ 0 ≤ b ∧ Q (.int (Nat.gcd a.natAbs b.natAbs : Nat)) H
theorem scGcd : FnScope ["one", "other"] ["one", "other"] (defScope sGcd) := ⟨rfl, rfl, rfl, by decide +kernel, rfl, by decide +kernel, by decide +kernel⟩
theorem ok_gcd (F : Fun K "divisor_of" "divisor_of" sGcd f fd) : FnOk P w K mg base CX0 1 f fd ["one", "other"] spGcd := by
  refine F.ok scGcd (fun vs H Q E h => ?_) (fun cdv A outer s H vs Q E hr h => ?_)
  · obtain ⟨a, b, rfl, _⟩ := h
    rfl
  · obtain ⟨a, b, rfl, ha, hb, q⟩ := h
    refine ⟨_, pss_cons (ps_while PassesOwn.never (pt_cmpR op_ne (pv 1) pe_int (nomark _))
        (pss_one (ps_par (i := 0) (j := 1) rfl scGcd.nd rfl rfl (by decide) rfl rfl (pa_cons (pv 1) (pa_cons (pe_op op_modN (pv 0) (pv 1)) pa_nil)) (by rfl))))
      (pss_one (ps_ret (pv 0))), ?_⟩
    refine ⟨fun m σ H' => ∃ x y : Int, σ = [some (.int x), some (.int y)] ∧ H' = H ∧ m = y.toNat ∧ 0 ≤ x ∧ 0 ≤ y ∧ Nat.gcd x.natAbs y.natAbs = Nat.gcd a.natAbs b.natAbs, ⟨_, a, b, rfl, rfl, rfl, ha, hb, rfl⟩, ?_⟩
    rintro m σ H' ⟨x, y, rfl, rfl, rfl, hx, hy, e⟩
    refine ⟨.int y, rfl, rfl, _, rfl, ?_⟩
    by_cases c : y = 0
    · subst c
      refine iteNS rfl ?_
      refine ⟨_, rfl, ?_⟩
      have : ((Nat.gcd a.natAbs b.natAbs : Nat) : Int) = x := by
        rw [← e]
        simp
        omega
      rw [this] at q
      exact q
    · have cy : ¬ V.int y = V.int 0 := fun z => c (V.int.inj z)
      rw [decide_eq_false cy]
      refine iteT ⟨fun σ' H2 => σ' = [some (.int y), some (.int (x.fmod y))] ∧ H2 = H', fun σ' H2 hN => ?_, ?_⟩
      · obtain ⟨rfl, rfl⟩ := hN
        have hp : 0 < y := by omega
        have e1 : x.fmod y = x % y := Int.fmod_eq_emod_of_nonneg x (by omega)
        have l1 := Int.emod_nonneg x c
        have l2 := Int.emod_lt_of_pos x hp
        refine ⟨_, ?_, y, x.fmod y, rfl, rfl, rfl, hy, by omega, ?_⟩
        · rw [e1]
          omega
        · rw [e1, Int.natAbs_emod_of_nonneg hx, ← e, Nat.gcd_comm x.natAbs, Nat.gcd_rec y.natAbs x.natAbs, Nat.gcd_comm]
      · exact ⟨_, rfl, _, rfl, _, rfl, _, _, rfl, rfl, c, _, _, rfl, rfl, rfl⟩
/-! ### common_divisor -/
theorem cdiv_take {ns : List Int} {i : Nat} {n : Int} (h : ns[i]? = some n) : cdiv (ns.take (i + 1)) = Nat.gcd (cdiv (ns.take i)) n.natAbs := by
  unfold cdiv
  rw [List.take_add_one, h, List.foldl_append]
  rfl
theorem ints_at {ns : List Int} {i : Nat} {x : V} (h : (ns.map V.int)[i]? = some x) : ∃ n, ns[i]? = some n ∧ x = .int n := by
  rw [List.getElem?_map] at h
  cases e : ns[i]? with
  | none =>
    rw [e] at h
    cases h
  | some n =>
    rw [e] at h
    exact ⟨n, rfl, (Option.some.inj h).symm⟩
theorem ints_mem {ns : List Int} {x : V} (h : x ∈ ns.map V.int) : ∃ n ∈ ns, x = .int n := by
  obtain ⟨n, h1, h2⟩ := List.mem_map.mp h
  exact ⟨n, h1, h2.symm⟩
def spCdiv (K : PySem.W.Frag) : Sp := fun vs H Q _ => ∃ (a : Addr) (ns : List Int), vs = [.ref a] ∧ SqT K H a (ns.map V.int) ∧ Q (.int (cdiv ns : Nat)) H
theorem scCdiv : FnScope ["numbers", "found", "number"] ["numbers"] (defScope sCdiv) := ⟨rfl, rfl, rfl, by decide +kernel, rfl, by decide +kernel, by decide +kernel⟩
theorem ok_cdiv (F : Fun K "common_divisor" "common_divisor" sCdiv f fd) (C : Cal P w K mg base 1 "divisor_of" ["one", "other"] spGcd) (mabs : mg "abs" = none) : FnOk P w K mg base CX0 2 f fd ["numbers"] (spCdiv K) := by
  refine F.ok scCdiv (fun vs H Q E h => ?_) (fun cdv A outer s H vs Q E hr h => ?_)
  · obtain ⟨a, ns, rfl, _⟩ := h
    rfl
  · obtain ⟨a, ns, rfl, hS, q⟩ := h
    refine ⟨_, pss_cons (ps_set (i := 1) scCdiv.nd rfl (.inl rfl) pe_int)
      (pss_cons (ps_for PassesOwn.never rfl (pi_tup (pv 0)) (pg_name (i := 2) scCdiv.nd rfl (.inl rfl))
        (pss_one (ps_set (i := 1) scCdiv.nd rfl (.inl rfl) (pe_cal C hr (by rfl) (pa_cons (pv 1) (pa_cons (pe_callB call_abs (by rfl) mabs (by decide +kernel) (pa_cons (pv 2) pa_nil)) pa_nil))))))
      (pss_one (ps_ret (pv 1)))), ?_⟩
    refine ⟨_, rfl, a, rfl, ⟨_, hS⟩, for_tup (K := K) (a := a) (xs := ns.map V.int) (fun i σ H' => H' = H ∧ ∃ y, σ = [some (.ref a), some (.int (cdiv (ns.take i) : Nat)), y]) ⟨rfl, _, rfl⟩ (fun i σ H' _ h => by rw [h.1]; exact hS) ?_ ?_⟩
    · rintro i x σ H' hx ⟨rfl, y, rfl⟩
      obtain ⟨n, hn, rfl⟩ := ints_at hx
      refine ⟨_, rfl, _, rfl, n, rfl, _, _, rfl, by omega, by split <;> omega, rfl, some (.int n), ?_⟩
      rw [cdiv_take hn]
      have : (if n < 0 then -n else n).natAbs = n.natAbs := by split <;> omega
      rw [this]
      rfl
    · rintro σ H' ⟨rfl, y, rfl⟩
      refine ⟨_, rfl, ?_⟩
      rw [List.length_map, List.take_length]
      exact q
/-! ### dot_by -/
def mulV : V → V → V := fun x y => match x, y with
  | .int i, .int j => .int (i * j)
  | _, _ => .non
theorem mulV_zip : ∀ xs ys : List Int, ((xs.map V.int).zip (ys.map V.int)).map (fun p => mulV p.1 p.2) = (List.zipWith (· * ·) xs ys).map V.int
  | [], ys => by simp
  | x :: xs, [] => by simp
  | x :: xs, y :: ys => by
    have ih := mulV_zip xs ys
    rw [List.map_cons, List.map_cons, List.zip_cons_cons, List.map_cons, List.zipWith_cons_cons, List.map_cons, ← ih]
    rfl
def spDot (K : PySem.W.Frag) : Sp := fun vs H Q _ => ∃ (a b : Addr) (xs ys : List Int), vs = [.ref a, .ref b] ∧ SqT K H a (xs.map V.int) ∧ SqT K H b (ys.map V.int) ∧ xs.length ≤ 1000 ∧ (∀ x ∈ xs, x.natAbs < 2 ^ 63) ∧ ∀ H', Ex H H' → Q (.int (dot xs ys)) H'
theorem scDot : FnScope ["one", "other", "here", "there"] ["one", "other"] (defScope sDot) := ⟨rfl, rfl, rfl, by decide +kernel, rfl, by decide +kernel, by decide +kernel⟩
theorem ok_dot (F : Fun K "dot_by" "dot_by" sDot f fd) (msum : mg "sum" = none) (mzip : mg "zip" = none) : FnOk P w K mg base CX0 1 f fd ["one", "other"] (spDot K) := by
  refine F.ok scDot (fun vs H Q E h => ?_) (fun cdv A outer s H vs Q E hr h => ?_)
  · obtain ⟨a, b, xs, ys, rfl, _⟩ := h
    rfl
  · obtain ⟨a, b, xs, ys, rfl, hA, hB, hl, hbd, q⟩ := h
    refine ⟨_, pss_one (ps_ret (pe_callB (cr_sum rfl) (by rfl) msum (by decide +kernel) (pa_cons
      (pe_lc (own := [("here", 2), ("there", 3)]) (g := gTup K 2 (gCons (gName 2) (gCons (gName 3) gNil))) rfl scDot.nd (RZ.pi_zipA (by rfl) mzip (pa_cons (pv 0) (pa_cons (pv 1) pa_nil))) (blkOk_by (own := [("here", 2), ("there", 3)]) (N := ["one", "other", "here", "there"]) (sc := defScope sDot) (by decide +kernel))
        (fun _ _ _ _ _ => pg_tup rfl (pgs_cons (pg_name (i := 2) scDot.nd rfl (.inl rfl) (.inr rfl)) (pgs_cons (pg_name (i := 3) scDot.nd rfl (.inl rfl) (.inr rfl)) pgs_nil)))
        (fun _ _ _ _ _ => pts_nil) (fun _ _ _ _ _ => pe_op op_mul (pv 2) (pv 3))) pa_nil))), ?_⟩
    refine ⟨_, rfl, _, rfl, a, b, xs.map V.int, ys.map V.int, rfl, .inr ⟨hA, hB, lcZm mulV _ rfl hA hB (by rw [List.length_map, List.length_map]; omega) ?_ ?_⟩⟩
    · intro i x y T H1 hx hy e1 hT R hR
      obtain ⟨x, hx', rfl⟩ := ints_at hx
      obtain ⟨y, hy', rfl⟩ := ints_at hy
      refine ⟨T, [.int x, .int y], rfl, st_of hT, rfl, .int x, [.int y], rfl, .int y, [], rfl, rfl, rfl, ?_⟩
      refine ⟨_, rfl, _, rfl, x, y, rfl, rfl, .inl ?_, hR H1 (Ex.refl _)⟩
      have := hbd x (List.mem_of_getElem? hx')
      omega
    · intro D H2 hD e2 h2
      rw [mulV_zip] at h2
      exact ⟨D, _, rfl, sq_of h2, q H2 e2⟩
/-! ### kinds -/
theorem tyx_tup {H : Hp} {a : Addr} {xs : List V} (h : SqT K H a xs) : TyX K H (.ref a) (.type "tuple") := by
  rcases h with (h | ⟨o, h⟩) | ⟨o, its, n, h1, h2, _⟩
  · exact .base (.tup h)
  · exact .fTuple h
  · exact .kTuple h1 h2
def spIsInt : Sp := fun vs H Q _ => ∃ i : Int, vs = [.int i] ∧ Q (.bl true) H
theorem scIsInt : FnScope ["thing"] ["thing"] (defScope sIsInt) := ⟨rfl, rfl, rfl, by decide +kernel, rfl, by decide +kernel, by decide +kernel⟩
theorem ok_isInt (F : Fun K "is_integer" "is_integer" sIsInt f fd) (misi : mg "isinstance" = none) (mint : mg "int" = none) (mbool : mg "bool" = none) : FnOk P w K mg base CX0 1 f fd ["thing"] spIsInt := by
  refine F.ok scIsInt (fun vs H Q E h => ?_) (fun cdv A outer s H vs Q E hr h => ?_)
  · obtain ⟨i, rfl, _⟩ := h
    rfl
  · obtain ⟨i, rfl, q⟩ := h
    refine ⟨_, pss_one (ps_ret (pe_and (pe_callB call_isi (by rfl) misi (by decide +kernel) (pa_cons (pv 0) (pa_cons (pe_bltn (v := .ty "int") (by rfl) mint (by decide +kernel) rfl) pa_nil)))
      (pe_one (pe_not (pe_callB call_isi (by rfl) misi (by decide +kernel) (pa_cons (pv 0) (pa_cons (pe_bltn (v := .ty "bool") (by rfl) mbool (by decide +kernel) rfl) pa_nil))))))), ?_⟩
    refine ⟨_, rfl, _, _, _, _, true, rfl, .ty _, .base (.int i), kit_ty (by decide +kernel), true, rfl, iteT ?_⟩
    exact ⟨_, rfl, _, _, _, _, false, rfl, .ty _, .base (.int i), kit_ty (by decide +kernel), false, rfl, q⟩
def spAreInts (K : PySem.W.Frag) : Sp := fun vs H Q _ => ∃ (a : Addr) (ns : List Int), vs = [.ref a] ∧ SqT K H a (ns.map V.int) ∧ ns.length ≤ 1000 ∧ ∀ H', Ex H H' → Q (.bl true) H'
theorem trues_all (n : Nat) : ((List.replicate n true).all id) = true := by
  induction n with
  | zero => rfl
  | succ n ih => rw [List.replicate_succ, List.all_cons, ih]; rfl
theorem trues_of {xs : List V} : xs.map (fun _ => V.bl true) = (List.replicate xs.length true).map V.bl := by
  rw [List.map_const', List.map_replicate]
theorem scAreInts : FnScope ["thing", "one"] ["thing"] (defScope sAreInts) := ⟨rfl, rfl, rfl, by decide +kernel, rfl, by decide +kernel, by decide +kernel⟩
theorem ok_areInts (F : Fun K "are_integers" "are_integers" sAreInts f fd) (C : Cal P w K mg base 1 "is_integer" ["thing"] spIsInt) (misi : mg "isinstance" = none) (mtup : mg "tuple" = none) (mall : mg "all" = none) : FnOk P w K mg base CX0 2 f fd ["thing"] (spAreInts K) := by
  refine F.ok scAreInts (fun vs H Q E h => ?_) (fun cdv A outer s H vs Q E hr h => ?_)
  · obtain ⟨a, ns, rfl, _⟩ := h
    rfl
  · obtain ⟨a, ns, rfl, hS, hl, q⟩ := h
    refine ⟨_, pss_one (ps_ret (pe_and (pe_callB call_isi (by rfl) misi (by decide +kernel) (pa_cons (pv 0) (pa_cons (pe_bltn (v := .ty "tuple") (by rfl) mtup (by decide +kernel) rfl) pa_nil)))
      (pe_one (pe_callB (cr_all rfl) (by rfl) mall (by decide +kernel) (pa_cons
        (pe_lc (own := [("one", 1)]) (g := gName 1) rfl scAreInts.nd (pi_tup (pv 0)) (blkOk_by (own := [("one", 1)]) (N := ["thing", "one"]) (sc := defScope sAreInts) (by decide +kernel))
          (fun _ _ _ _ _ => pg_name (i := 1) scAreInts.nd rfl (.inl rfl)) (fun _ _ _ _ _ => pts_nil) (fun _ _ _ _ _ => pe_cal C hr (by rfl) (pa_cons (pv 1) pa_nil))) pa_nil))))), ?_⟩
    refine ⟨_, rfl, _, _, _, _, true, rfl, .ty _, tyx_tup hS, kit_ty (by decide +kernel), true, rfl, iteT ?_⟩
    refine ⟨_, rfl, a, rfl, ⟨_, hS⟩, lcTm (fun _ => .bl true) hS (by rw [List.length_map]; omega) ?_ ?_⟩
    · intro x H1 hx e1 R hR
      obtain ⟨n, hn, rfl⟩ := ints_mem hx
      exact ⟨rfl, _, rfl, n, rfl, hR H1 (Ex.refl _)⟩
    · intro D H2 hD e2 h2
      rw [trues_of] at h2
      refine ⟨D, _, rfl, sq_of h2, ?_⟩
      rw [trues_all]
      exact q H2 e2
end
end Rm

/-! ## Rm2 -/
namespace Rm
open PySem PySem.Spec PyProof.Rows L2
open Evl (Ex Ex.refl Ex.trans Ex.new Ex.mut ex_l ex_t sq_of st_of sz_of sz_lt fresh_back)
section
variable {P : Program} {w : World} {K : PySem.W.Frag} {mg : Str → Option Value} {base : Heap} {f : Addr} {fd : FuncData}
/-! ### is_ray -/
def nzV : V → Option V := fun x => match x with
  | .int i => if i = 0 then none else some (.int i)
  | _ => none
theorem nzV_map : ∀ ns : List Int, (ns.map V.int).filterMap nzV = (nz ns).map V.int
  | [] => rfl
  | n :: ns => by
    have ih := nzV_map ns
    unfold nz at ih ⊢
    rw [List.map_cons, List.filter_cons]
    by_cases h : n = 0
    · have e : nzV (V.int n) = none := if_pos h
      rw [List.filterMap_cons_none e, if_neg (by rw [h]; decide)]
      exact ih
    · have e : nzV (V.int n) = some (V.int n) := if_neg h
      rw [List.filterMap_cons_some e, if_pos (by rw [decide_eq_false h]; rfl), List.map_cons, ih]
theorem nz_len (ns : List Int) : (nz ns).length ≤ ns.length := List.length_filter_le ..
def spIsRay (K : PySem.W.Frag) : Sp := fun vs H Q _ => ∃ (a : Addr) (ns : List Int), vs = [.ref a] ∧ SqT K H a (ns.map V.int) ∧ ns.length ≤ 1000 ∧ IsRay ns ∧ ∀ H', Ex H H' → Q (.bl true) H'
theorem scIsRay : FnScope ["thing", "firsts", "number"] ["thing"] (defScope sIsRay) := ⟨rfl, rfl, rfl, by decide +kernel, rfl, by decide +kernel, by decide +kernel⟩
theorem ok_isRay (F : Fun K "is_ray" "is_ray" sIsRay f fd) (C1 : Cal P w K mg base 2 "are_integers" ["thing"] (spAreInts K)) (C2 : Cal P w K mg base 2 "common_divisor" ["numbers"] (spCdiv K)) (mlen : mg "len" = none) : FnOk P w K mg base CX0 3 f fd ["thing"] (spIsRay K) := by
  refine F.ok scIsRay (fun vs H Q E h => ?_) (fun cdv A outer s H vs Q E hr h => ?_)
  · obtain ⟨a, ns, rfl, _⟩ := h
    rfl
  · obtain ⟨a, ns, rfl, hS, hl, ⟨g1, fst, hf, hp⟩, q⟩ := h
    refine ⟨_, pss_cons (ps_if (pt_not (pt_val (pe_cal C1 hr (by rfl) (pa_cons (pv 0) pa_nil)))) (pss_one (ps_ret pe_bl)) pss_nil)
      (pss_cons (ps_setLc (i := 1) (own := [("number", 2)]) (g := gName 2) (by rfl) scIsRay.nd rfl rfl (sw_true rfl rfl rfl (by decide +kernel)) (pi_tup (pv 0)) (blkOk_by (own := [("number", 2)]) (N := ["thing", "firsts", "number"]) (sc := defScope sIsRay) (by decide +kernel))
        (fun _ _ _ _ _ => pg_name (i := 2) scIsRay.nd rfl (.inl rfl)) (fun _ _ _ _ _ => pts_one (pt_cmpR op_ne (pv 2) pe_int (nomark _))) (fun _ _ _ _ _ => pv 2))
      (pss_one (ps_ret (pe_and (pe_cmpR op_gt (pe_callB call_len_seq (by rfl) mlen PySem.boot_len (pa_cons (pv 1) pa_nil)) pe_int (nomark _))
        (pe_and (pe_cmpR op_gt (pe_ix ix_list (pv 1) pe_int (fun _ _ => rfl)) pe_int (nomark _)) (pe_one (pe_cmpR op_eq (pe_cal C2 hr (by rfl) (pa_cons (pv 0) pa_nil)) pe_int (nomark _)))))))), ?_⟩
    refine ⟨_, rfl, a, ns, rfl, hS, hl, fun H1 e1 => ⟨true, rfl, iteF ?_⟩⟩
    refine ⟨_, rfl, a, rfl, ⟨_, ex_t e1 hS⟩, lcT nzV (ex_t e1 hS) (by rw [List.length_map]; omega) ?_ ?_⟩
    · intro x H2 hx e2 R hR
      obtain ⟨n, hn, rfl⟩ := ints_mem hx
      refine ⟨rfl, _, rfl, rfl, _, rfl, ?_⟩
      by_cases z : n = 0
      · subst z
        exact iteNS rfl (hR H2 (Ex.refl _))
      · have cz : ¬ V.int n = V.int 0 := fun q => z (V.int.inj q)
        rw [decide_eq_false cz]
        have hR2 := hR H2 (Ex.refl _)
        rw [show nzV (.int n) = some (.int n) from if_neg z] at hR2
        exact iteT ⟨_, rfl, hR2⟩
    · intro D H2 hD e2 h2
      rw [nzV_map] at h2
      obtain ⟨r, er⟩ : ∃ r, nz ns = fst :: r := by
        cases e : nz ns with
        | nil =>
          rw [e] at hf
          cases hf
        | cons y r =>
          rw [e] at hf
          cases hf
          exact ⟨r, rfl⟩
      rw [er] at h2
      refine ⟨.ref D, rfl, D, _, rfl, .inl (sq_of h2), _, _, rfl, rfl, _, rfl, ?_⟩
      rw [decide_eq_true (by show (0 : Int) < (((fst :: r).map V.int).length : Int); rw [List.length_map, List.length_cons]; omega)]
      refine iteT ⟨.ref D, rfl, D, _, 0, .int fst, rfl, rfl, sq_of h2, atI_nat (j := 0) rfl, fst, 0, rfl, rfl, true, congrArg V.bl (decide_eq_true hp), iteT ?_⟩
      refine ⟨_, rfl, a, ns, rfl, ex_t e2 (ex_t e1 hS), rfl, ?_⟩
      rw [g1]
      exact q H2 (e1.trans e2)
/-! ### is_ray_of -/
def spIsRayOf (K : PySem.W.Frag) : Sp := fun vs H Q _ => ∃ (a : Addr) (ns : List Int), vs = [.int ns.length, .ref a] ∧ SqT K H a (ns.map V.int) ∧ ns.length ≤ 1000 ∧ IsRay ns ∧ ∀ H', Ex H H' → Q (.bl true) H'
theorem scIsRayOf : FnScope ["size", "thing"] ["size", "thing"] (defScope sIsRayOf) := ⟨rfl, rfl, rfl, by decide +kernel, rfl, by decide +kernel, by decide +kernel⟩
theorem ok_isRayOf (F : Fun K "is_ray_of" "is_ray_of" sIsRayOf f fd) (C1 : Cal P w K mg base 3 "is_ray" ["thing"] (spIsRay K)) (mlen : mg "len" = none) : FnOk P w K mg base CX0 4 f fd ["size", "thing"] (spIsRayOf K) := by
  refine F.ok scIsRayOf (fun vs H Q E h => ?_) (fun cdv A outer s H vs Q E hr h => ?_)
  · obtain ⟨a, ns, rfl, _⟩ := h
    rfl
  · obtain ⟨a, ns, rfl, hS, hl, hR, q⟩ := h
    refine ⟨_, pss_one (ps_ret (pe_and (pe_cal C1 hr (by rfl) (pa_cons (pv 1) pa_nil))
      (pe_one (pe_cmpR op_eq (pe_callB call_len_seq (by rfl) mlen PySem.boot_len (pa_cons (pv 1) pa_nil)) (pv 0) (nomark _))))), ?_⟩
    refine ⟨_, rfl, a, ns, rfl, hS, hl, hR, fun H1 e1 => ⟨true, rfl, iteT ?_⟩⟩
    refine ⟨_, rfl, a, _, rfl, .inr (ex_t e1 hS), _, rfl, rfl, ?_⟩
    rw [List.length_map, decide_eq_true rfl]
    exact q H1 e1
/-! ### are_ascending -/
def ltV : V → V → V := fun x y => match x, y with
  | .int i, .int j => .bl (decide (i < j))
  | _, _ => .non
theorem ltV_zip : ∀ xs ys : List Int, ((xs.map V.int).zip (ys.map V.int)).map (fun p => ltV p.1 p.2) = (List.zipWith (fun x y => decide (x < y)) xs ys).map V.bl
  | [], ys => by simp
  | x :: xs, [] => by simp
  | x :: xs, y :: ys => by
    have ih := ltV_zip xs ys
    rw [List.map_cons, List.map_cons, List.zip_cons_cons, List.map_cons, List.zipWith_cons_cons, List.map_cons, ← ih]
    rfl
theorem asc_all : ∀ xs : List Int, xs.Pairwise (· < ·) → (List.zipWith (fun x y => decide (x < y)) xs (xs.drop 1)).all id = true
  | [], _ => rfl
  | [_], _ => rfl
  | x :: y :: r, h => by
    obtain ⟨h1, h2⟩ := List.pairwise_cons.mp h
    have ih := asc_all (y :: r) h2
    show (decide (x < y) && (List.zipWith (fun x y => decide (x < y)) (y :: r) r).all id) = true
    rw [decide_eq_true (h1 y (List.mem_cons_self ..))]
    exact ih
theorem cutV1 (xs : List V) : cutV xs (some 1) none = xs.drop 1 := by
  unfold cutV
  rw [show HT.sIx xs.length 0 (some 1) = min 1 xs.length from HT.sIx_nat xs.length 0 1, HT.sIx_none]
  cases xs with
  | nil => rfl
  | cons x r =>
    rw [show min 1 (x :: r).length = 1 by rw [List.length_cons]; omega]
    show (List.take ((x :: r).length - 1) r) = r
    rw [List.length_cons, Nat.add_sub_cancel]
    exact List.take_length
def spAsc (K : PySem.W.Frag) : Sp := fun vs H Q _ => ∃ (a : Addr) (ns : List Int), vs = [.ref a] ∧ SqT K H a (ns.map V.int) ∧ ns.length ≤ 1000 ∧ ns.Pairwise (· < ·) ∧ ∀ H', Ex H H' → Q (.bl true) H'
theorem scAsc : FnScope ["things", "one", "other"] ["things"] (defScope sAsc) := ⟨rfl, rfl, rfl, by decide +kernel, rfl, by decide +kernel, by decide +kernel⟩
theorem ok_asc (F : Fun K "are_ascending" "are_ascending" sAsc f fd) (mall : mg "all" = none) (mzip : mg "zip" = none) : FnOk P w K mg base CX0 1 f fd ["things"] (spAsc K) := by
  refine F.ok scAsc (fun vs H Q E h => ?_) (fun cdv A outer s H vs Q E hr h => ?_)
  · obtain ⟨a, ns, rfl, _⟩ := h
    rfl
  · obtain ⟨a, ns, rfl, hS, hl, hP, q⟩ := h
    refine ⟨_, pss_one (ps_ret (pe_callB (cr_all rfl) (by rfl) mall (by decide +kernel) (pa_cons
      (pe_lc (own := [("one", 1), ("other", 2)]) (g := gTup K 2 (gCons (gName 1) (gCons (gName 2) gNil))) rfl scAsc.nd (RZ.pi_zipA (by rfl) mzip (pa_cons (pv 0) (pa_cons (pe_slice sl_tupX (pv 0) (po_some pe_int) po_none) pa_nil)))
        (blkOk_by (own := [("one", 1), ("other", 2)]) (N := ["things", "one", "other"]) (sc := defScope sAsc) (by decide +kernel))
        (fun _ _ _ _ _ => pg_tup rfl (pgs_cons (pg_name (i := 1) scAsc.nd rfl (.inl rfl) (.inr rfl)) (pgs_cons (pg_name (i := 2) scAsc.nd rfl (.inl rfl) (.inr rfl)) pgs_nil)))
        (fun _ _ _ _ _ => pts_nil) (fun _ _ _ _ _ => pe_cmpR op_lt (pv 1) (pv 2) (nomark _))) pa_nil))), ?_⟩
    refine ⟨_, rfl, _, rfl, 1, rfl, a, ns.map V.int, rfl, hS, fun H1 b e1 hB => ?_⟩
    rw [cutV1, ← List.map_drop] at hB
    refine ⟨a, b, ns.map V.int, (ns.drop 1).map V.int, rfl, .inr ⟨ex_t e1 hS, hB, lcZm ltV _ rfl (ex_t e1 hS) hB (by rw [List.length_map, List.length_map]; omega) ?_ ?_⟩⟩
    · intro i x y T H2 hx hy e2 hT R hR
      obtain ⟨x, hx', rfl⟩ := ints_at hx
      obtain ⟨y, hy', rfl⟩ := ints_at hy
      refine ⟨T, [.int x, .int y], rfl, st_of hT, rfl, .int x, [.int y], rfl, .int y, [], rfl, rfl, rfl, ?_⟩
      exact ⟨_, rfl, _, rfl, x, y, rfl, rfl, hR H2 (Ex.refl _)⟩
    · intro D H2 hD e2 h2
      rw [ltV_zip] at h2
      refine ⟨D, _, rfl, sq_of h2, ?_⟩
      rw [asc_all ns hP]
      exact q H2 (e1.trans e2)
end
end Rm

/-! ## Rm3 -/
namespace Rm
open PySem PySem.Spec PyProof.Rows L2
open Evl (Ex Ex.refl Ex.trans Ex.new Ex.mut ex_l ex_t sq_of st_of sz_of sz_lt fresh_back)
section
variable {P : Program} {w : World} {K : PySem.W.Frag} {mg : Str → Option Value} {base : Heap} {f : Addr} {fd : FuncData}
/-! ### is_class_size -/
def GlI (mg : Str → Option Value) (x : Str) (i : Int) : Prop := ∃ t, mg x = some (.int i t)
def spClsSize : Sp := fun vs H Q _ => ∃ i : Int, vs = [.int i] ∧ 3 ≤ i ∧ i ≤ 5 ∧ Q (.bl true) H
theorem scClsSize : FnScope ["thing"] ["thing"] (defScope sClsSize) := ⟨rfl, rfl, rfl, by decide +kernel, rfl, by decide +kernel, by decide +kernel⟩
theorem ok_clsSize (F : Fun K "is_class_size" "is_class_size" sClsSize f fd) (C : Cal P w K mg base 1 "is_integer" ["thing"] spIsInt) (g1 : GlI mg "LEAST_CLASS" 3) (g2 : GlI mg "MOST_CLASS" 5) : FnOk P w K mg base CX0 2 f fd ["thing"] spClsSize := by
  refine F.ok scClsSize (fun vs H Q E h => ?_) (fun cdv A outer s H vs Q E hr h => ?_)
  · obtain ⟨i, rfl, _⟩ := h
    rfl
  · obtain ⟨i, rfl, h1, h2, q⟩ := h
    obtain ⟨t1, g1⟩ := g1
    obtain ⟨t2, g2⟩ := g2
    refine ⟨_, pss_one (ps_ret (pe_and (pe_cal C hr (by rfl) (pa_cons (pv 0) pa_nil)) (pe_one (pe_chain op_le op_le (pe_glob (v := .int 3) rfl g1 ⟨_, rfl⟩) (pv 0) (pe_glob (v := .int 5) rfl g2 ⟨_, rfl⟩))))), ?_⟩
    refine ⟨_, rfl, i, rfl, true, rfl, iteT ?_⟩
    refine ⟨_, rfl, _, _, rfl, rfl, true, congrArg V.bl (decide_eq_true h1), iteT ⟨_, _, rfl, rfl, ?_⟩⟩
    exact qbl Q (decide_eq_true h2) q
/-! ### is_prime -/
def spIsPrime : Sp := fun vs H Q _ => ∃ p : Int, vs = [.int p] ∧ p ∈ somePs ∧ ∀ H', Ex H H' → Q (.bl true) H'
def prG (p : Int) (i : Nat) : Option V := if (2 + (i : Int)) * (2 + (i : Int)) ≤ p then some (.bl true) else none
theorem prG_list (p : Int) (n : Nat) : ∃ bs : List Bool, (List.range n).filterMap (prG p) = bs.map V.bl ∧ bs.all id = true := by
  refine ⟨List.replicate ((List.range n).filterMap (prG p)).length true, ?_, trues_all _⟩
  rw [List.map_replicate]
  refine List.eq_replicate_iff.mpr ⟨rfl, fun b hb => ?_⟩
  obtain ⟨i, _, e⟩ := List.mem_filterMap.mp hb
  unfold prG at e
  split at e
  · exact (Option.some.inj e).symm
  · cases e
theorem scIsPrime : FnScope ["thing", "part"] ["thing"] (defScope sIsPrime) := ⟨rfl, rfl, rfl, by decide +kernel, rfl, by decide +kernel, by decide +kernel⟩
theorem ok_isPrime (F : Fun K "is_prime" "is_prime" sIsPrime f fd) (C : Cal P w K mg base 1 "is_integer" ["thing"] spIsInt) (g1 : GlI mg "TOP_PRIME" 1000000) (g2 : GlI mg "TOP_ROOT" 1000) (mall : mg "all" = none) (mrange : mg "range" = none) : FnOk P w K mg base CX0 2 f fd ["thing"] spIsPrime := by
  refine F.ok scIsPrime (fun vs H Q E h => ?_) (fun cdv A outer s H vs Q E hr h => ?_)
  · obtain ⟨i, rfl, _⟩ := h
    rfl
  · obtain ⟨p, rfl, hp, q⟩ := h
    obtain ⟨t1, g1⟩ := g1
    obtain ⟨t2, g2⟩ := g2
    have hlo : 2 ≤ p ∧ p < 1000000 := by
      simp only [somePs, List.mem_cons, List.not_mem_nil, or_false] at hp
      omega
    refine ⟨_, pss_cons (ps_if (PW.pt (pw_or (pt_not (pt_val (pe_cal C hr (by rfl) (pa_cons (pv 0) pa_nil)))) (pw_or (pt_cmpR op_lt (pv 0) pe_int (nomark _)) (pw_or1 (pt_cmpR op_ge (pv 0) (pe_glob (v := .int 1000000) rfl g1 ⟨_, rfl⟩) (nomark _)))))) (pss_one (ps_ret pe_bl)) pss_nil)
      (pss_one (ps_ret (pe_callB (cr_all rfl) (by rfl) mall (by decide +kernel) (pa_cons
        (pe_lc (own := [("part", 1)]) (g := gName 1) rfl scIsPrime.nd (pi_range2 (by rfl) mrange (pa_cons pe_int (pa_cons (pe_glob (v := .int 1000) rfl g2 ⟨_, rfl⟩) pa_nil))) (blkOk_by (own := [("part", 1)]) (N := ["thing", "part"]) (sc := defScope sIsPrime) (by decide +kernel))
          (fun _ _ _ _ _ => pg_name (i := 1) scIsPrime.nd rfl (.inl rfl)) (fun _ _ _ _ _ => pts_one (pt_cmpR op_le (pe_op op_mul (pv 1) (pv 1)) (pv 0) (nomark _))) (fun _ _ _ _ _ => pe_cmpR op_gt (pe_op op_mod (pv 0) (pv 1)) pe_int (nomark _))) pa_nil)))), ?_⟩
    refine ⟨_, rfl, p, rfl, true, rfl, iteF ⟨_, rfl, _, _, rfl, rfl, false, congrArg V.bl (decide_eq_false (by omega)), iteF ⟨_, rfl, _, _, rfl, rfl, false, congrArg V.bl (decide_eq_false (by omega)), iteF ?_⟩⟩⟩
    refine ⟨2, 1000, rfl, ⟨by decide, by decide, by decide, by decide⟩, lcR (prG p) (by decide) ?_ ?_⟩
    · intro i H1 hi e1 R hR
      have hi : i < 998 := hi
      refine ⟨rfl, _, rfl, _, rfl, _, _, rfl, rfl, .inl (by omega), _, rfl, _, _, rfl, rfl, _, rfl, ?_⟩
      have h1 := hR H1 (Ex.refl _)
      unfold prG at h1
      by_cases c : (2 + (i : Int)) * (2 + (i : Int)) ≤ p
      · rw [if_pos c] at h1
        rw [decide_eq_true c]
        refine iteT ⟨_, rfl, _, rfl, _, _, rfl, rfl, by omega, _, _, rfl, rfl, ?_⟩
        exact qbl (fun y H4 => R (some y) H4) (decide_eq_true (small_prime hp (2 + (i : Int)) (by omega) c)) h1
      · rw [if_neg c] at h1
        rw [decide_eq_false c]
        exact iteF h1
    · intro D H2 hD e2 h2
      obtain ⟨bs, eb, hb⟩ := prG_list p 998
      have h2 : H2 D = some (.lst ((List.range 998).filterMap (prG p))) := h2
      rw [eb] at h2
      refine ⟨D, bs, rfl, sq_of h2, ?_⟩
      rw [hb]
      exact q H2 e2
/-! ### are_primes -/
def spArePrimes (K : PySem.W.Frag) : Sp := fun vs H Q _ => ∃ (a : Addr) (ps : List Int), vs = [.ref a] ∧ SqT K H a (ps.map V.int) ∧ ps.length ≤ 1000 ∧ (∀ p ∈ ps, p ∈ somePs) ∧ ps.Pairwise (· < ·) ∧ ∀ H', Ex H H' → Q (.bl true) H'
theorem scArePrimes : FnScope ["thing", "one"] ["thing"] (defScope sArePrimes) := ⟨rfl, rfl, rfl, by decide +kernel, rfl, by decide +kernel, by decide +kernel⟩
theorem ok_arePrimes (F : Fun K "are_primes" "are_primes" sArePrimes f fd) (C : Cal P w K mg base 2 "is_prime" ["thing"] spIsPrime) (C2 : Cal P w K mg base 1 "are_ascending" ["things"] (spAsc K)) (misi : mg "isinstance" = none) (mtup : mg "tuple" = none) (mall : mg "all" = none) : FnOk P w K mg base CX0 3 f fd ["thing"] (spArePrimes K) := by
  refine F.ok scArePrimes (fun vs H Q E h => ?_) (fun cdv A outer s H vs Q E hr h => ?_)
  · obtain ⟨a, ns, rfl, _⟩ := h
    rfl
  · obtain ⟨a, ns, rfl, hS, hl, hP, hA, q⟩ := h
    refine ⟨_, pss_one (ps_ret (pe_and (pe_callB call_isi (by rfl) misi (by decide +kernel) (pa_cons (pv 0) (pa_cons (pe_bltn (v := .ty "tuple") (by rfl) mtup (by decide +kernel) rfl) pa_nil)))
      (pe_and (pe_callB (cr_all rfl) (by rfl) mall (by decide +kernel) (pa_cons
        (pe_lc (own := [("one", 1)]) (g := gName 1) rfl scArePrimes.nd (pi_tup (pv 0)) (blkOk_by (own := [("one", 1)]) (N := ["thing", "one"]) (sc := defScope sArePrimes) (by decide +kernel))
          (fun _ _ _ _ _ => pg_name (i := 1) scArePrimes.nd rfl (.inl rfl)) (fun _ _ _ _ _ => pts_nil) (fun _ _ _ _ _ => pe_cal C hr (by rfl) (pa_cons (pv 1) pa_nil))) pa_nil))
        (pe_one (pe_cal C2 (hr.mono (by decide)) (by rfl) (pa_cons (pv 0) pa_nil)))))), ?_⟩
    refine ⟨_, rfl, _, _, _, _, true, rfl, .ty _, tyx_tup hS, kit_ty (by decide +kernel), true, rfl, iteT ?_⟩
    refine ⟨_, rfl, a, rfl, ⟨_, hS⟩, lcTm (fun _ => .bl true) hS (by rw [List.length_map]; omega) ?_ ?_⟩
    · intro x H1 hx e1 R hR
      obtain ⟨n, hn, rfl⟩ := ints_mem hx
      exact ⟨rfl, _, rfl, n, rfl, hP n hn, hR⟩
    · intro D H2 hD e2 h2
      rw [trues_of] at h2
      refine ⟨D, _, rfl, sq_of h2, true, congrArg V.bl (trues_all _), iteT ?_⟩
      exact ⟨_, rfl, a, ns, rfl, ex_t e2 hS, hl, hA, fun H3 e3 => q H3 (e2.trans e3)⟩
/-! ### length_by -/
def spLenBy (K : PySem.W.Frag) : Sp := fun vs H Q _ => ∃ (a : Addr) (xs : List Int), vs = [.ref a] ∧ SqT K H a (xs.map V.int) ∧ xs.length ≤ 1000 ∧ (∀ x ∈ xs, x.natAbs < 2 ^ 63) ∧ ∀ H', Ex H H' → Q (.int (dot xs xs)) H'
theorem scLenBy : FnScope ["ray"] ["ray"] (defScope sLenBy) := ⟨rfl, rfl, rfl, by decide +kernel, rfl, by decide +kernel, by decide +kernel⟩
theorem ok_lenBy (F : Fun K "length_by" "length_by" sLenBy f fd) (C : Cal P w K mg base 1 "dot_by" ["one", "other"] (spDot K)) : FnOk P w K mg base CX0 2 f fd ["ray"] (spLenBy K) := by
  refine F.ok scLenBy (fun vs H Q E h => ?_) (fun cdv A outer s H vs Q E hr h => ?_)
  · obtain ⟨a, xs, rfl, _⟩ := h
    rfl
  · obtain ⟨a, xs, rfl, hS, hl, hb, q⟩ := h
    refine ⟨_, pss_one (ps_ret (pe_cal C hr (by rfl) (pa_cons (pv 0) (pa_cons (pv 0) pa_nil)))), ?_⟩
    exact ⟨_, rfl, _, rfl, a, a, xs, xs, rfl, hS, hS, hl, hb, q⟩
/-! ### is_within -/
def spWithin (K : PySem.W.Frag) : Sp := fun vs H Q _ => ∃ (a r : Addr) (ps xs : List Int), vs = [.ref a, .ref r] ∧ SqT K H a (ps.map V.int) ∧ SqT K H r (xs.map V.int) ∧ xs.length ≤ 1000 ∧ (∀ x ∈ xs, x.natAbs < 2 ^ 63) ∧ Fit (dot xs xs) ∧ (∀ p ∈ ps, 2 ≤ p ∧ p < 1000) ∧
  ∀ H', Ex H H' → Q (.bl (decide (stripAll ps (dot xs xs) = 1))) H'
theorem scWithin : FnScope ["primes", "ray", "rest", "prime"] ["primes", "ray"] (defScope sWithin) := ⟨rfl, rfl, rfl, by decide +kernel, rfl, by decide +kernel, by decide +kernel⟩
theorem ok_within (F : Fun K "is_within" "is_within" sWithin f fd) (C : Cal P w K mg base 2 "length_by" ["ray"] (spLenBy K)) : FnOk P w K mg base CX0 3 f fd ["primes", "ray"] (spWithin K) := by
  refine F.ok scWithin (fun vs H Q E h => ?_) (fun cdv A outer s H vs Q E hr h => ?_)
  · obtain ⟨a, r, ps, xs, rfl, _⟩ := h
    rfl
  · obtain ⟨a, r, ps, xs, rfl, hP, hS, hl, hb, hF, h2, q⟩ := h
    refine ⟨_, pss_cons (ps_set (i := 2) scWithin.nd rfl (.inl rfl) (pe_cal C hr (by rfl) (pa_cons (pv 1) pa_nil)))
      (pss_cons (ps_for PassesOwn.never rfl (pi_tup (pv 0)) (pg_name (i := 3) scWithin.nd rfl (.inl rfl))
        (pss_one (ps_while PassesOwn.never (pt_cmpR op_eq (pe_op op_mod (pv 2) (pv 3)) pe_int (nomark _)) (pss_one (ps_set (i := 2) scWithin.nd rfl (.inl rfl) (pe_op op_fdiv (pv 2) (pv 3)))))))
      (pss_one (ps_ret (pe_cmpR op_eq (pv 2) pe_int (nomark _))))), ?_⟩
    refine ⟨_, rfl, r, xs, rfl, hS, hl, hb, fun H1 e1 => ?_⟩
    refine ⟨_, rfl, a, rfl, ⟨_, ex_t e1 hP⟩, for_tup (K := K) (a := a) (xs := ps.map V.int) (fun i σ H' => H' = H1 ∧ ∃ y, σ = [some (.ref a), some (.ref r), some (.int (stripAll (ps.take i) (dot xs xs))), y]) ⟨rfl, _, rfl⟩ (fun i σ H' _ h => by rw [h.1]; exact ex_t e1 hP) ?_ ?_⟩
    · rintro i x σ H' hx ⟨rfl, y, rfl⟩
      obtain ⟨p, hp, rfl⟩ := ints_at hx
      obtain ⟨p2, p1000⟩ := h2 p (List.mem_of_getElem? hp)
      have fit : Fit (stripAll (ps.take i) (dot xs xs)) := fit_all (fun z hz => (h2 z (List.mem_of_mem_take hz)).1) hF
      have done := strip_done p2 fit
      refine ⟨fun m σ H2 => ∃ k, k ≤ 80 ∧ m = 80 - k ∧ σ = [some (.ref a), some (.ref r), some (.int (stripN p k (stripAll (ps.take i) (dot xs xs)))), some (.int p)] ∧ H2 = H', ⟨_, 0, by omega, rfl, rfl, rfl⟩, ?_⟩
      · rintro m σ H2 ⟨k, hk, rfl, rfl, rfl⟩
        refine ⟨_, rfl, _, rfl, _, _, rfl, rfl, by omega, rfl, _, rfl, ?_⟩
        by_cases c : stripN p k (stripAll (ps.take i) (dot xs xs)) % p = 0
        · rw [decide_eq_true (congrArg V.int c)]
          have k80 : k ≠ 80 := fun z => by
            subst z
            exact done c
          refine iteT ⟨fun σ' H3 => σ' = [some (.ref a), some (.ref r), some (.int (stripN p (k + 1) (stripAll (ps.take i) (dot xs xs)))), some (.int p)] ∧ H3 = H2, fun σ' H3 hN => ?_, ?_⟩
          · obtain ⟨rfl, rfl⟩ := hN
            exact ⟨_, by omega, k + 1, by omega, rfl, rfl, rfl⟩
          · refine ⟨_, rfl, _, rfl, _, _, rfl, rfl, ⟨by omega, by omega⟩, ?_, rfl⟩
            have e : stripN p (k + 1) (stripAll (ps.take i) (dot xs xs)) = stripN p k (stripAll (ps.take i) (dot xs xs)) / p := if_pos c
            rw [e]
            rfl
        · rw [decide_eq_false fun z => c (V.int.inj z)]
          refine iteF ⟨rfl, some (.int p), ?_⟩
          have e := strip_stay c (80 - k)
          rw [show k + (80 - k) = 80 by omega] at e
          rw [stripAll_take hp, e]
    · rintro σ H' ⟨rfl, y, rfl⟩
      refine ⟨_, rfl, rfl, ?_⟩
      rw [List.length_map, List.take_length]
      have : decide (V.int (stripAll ps (dot xs xs)) = V.int 1) = decide (stripAll ps (dot xs xs) = 1) := by
        by_cases z : stripAll ps (dot xs xs) = 1
        · rw [z, decide_eq_true rfl, decide_eq_true rfl]
        · rw [decide_eq_false z, decide_eq_false fun q => z (V.int.inj q)]
      rw [this]
      exact q H' e1
end
end Rm

/-! ## Rm4 -/
namespace Rm
open PySem PySem.Spec PyProof.Rows L2
open Evl (Ex Ex.refl Ex.trans Ex.new Ex.mut ex_l ex_t sq_of st_of sz_of sz_lt fresh_back)
section
variable {P : Program} {w : World} {K : PySem.W.Frag} {mg : Str → Option Value} {base : Heap} {f : Addr} {fd : FuncData}
theorem inV_ints (k : Int) : ∀ ns : List Int, inV (.int k) (ns.map V.int) = decide (k ∈ ns)
  | [] => rfl
  | n :: ns => by
    have ih := inV_ints k ns
    unfold inV at ih ⊢
    rw [List.map_cons, List.any_cons, ih]
    show (n == k || decide (k ∈ ns)) = decide (k ∈ n :: ns)
    by_cases h : n = k
    · subst h
      simp
    · have h2 : ¬ k = n := fun e => h e.symm
      simp [h, h2]
theorem flat_ints (ns : List Int) : (ns.map V.int).all flatV = true := by
  rw [List.all_map]
  exact List.all_eq_true.mpr fun _ _ => rfl
/-- a tuple of ints of the top -/
def GlT (K : PySem.W.Frag) (mg : Str → Option Value) (x : Str) (ns : List Int) : Prop := ∃ a, mg x = some (.ref a) ∧ ∀ H, SqT K H a (ns.map V.int)
/-! ### moduli_for -/
def okP (p : Int) : Bool := decide (p = 2 ∨ p % 8 = 1 ∨ p % 8 = 3)
def okV : V → V := fun x => match x with
  | .int p => .bl (okP p)
  | _ => .non
theorem okV_map (ps : List Int) : (ps.map V.int).map okV = (ps.map okP).map V.bl := by
  rw [List.map_map, List.map_map]
  rfl
theorem okP_all (ps : List Int) : ((ps.map okP).all id) = decide (∀ p ∈ ps, p = 2 ∨ p % 8 = 1 ∨ p % 8 = 3) := by
  rw [List.all_map, Bool.eq_iff_iff, List.all_eq_true, decide_eq_true_eq]
  exact ⟨fun h p hp => of_decide_eq_true (h p hp), fun h p hp => decide_eq_true (h p hp)⟩
def found1 (ps : List Int) : List Int := if (2 : Int) ∉ ps then [2] else []
def found2 (size : Int) (ps : List Int) : List Int := found1 ps ++ if size = 3 ∧ (3 : Int) ∉ ps then [3] else []
theorem found3 (size : Int) (ps : List Int) : moduliFor size ps = found2 size ps ++ if size = 3 ∧ ∀ p ∈ ps, p = 2 ∨ p % 8 = 1 ∨ p % 8 = 3 then [4] else [] := by
  unfold moduliFor found2 found1
  rw [List.append_assoc]
def spModFor (K : PySem.W.Frag) : Sp := fun vs H Q _ => ∃ (size : Int) (a : Addr) (ps : List Int), vs = [.int size, .ref a] ∧ SqT K H a (ps.map V.int) ∧ ps.length ≤ 1000 ∧ ∀ H' p, Ex H H' → SqT K H' p ((moduliFor size ps).map V.int) → Q (.ref p) H'
theorem scModFor : FnScope ["size", "primes", "found", "prime"] ["size", "primes"] (defScope sModFor) := ⟨rfl, rfl, rfl, by decide +kernel, rfl, by decide +kernel, by decide +kernel⟩
theorem ok_modFor (F : Fun K "moduli_for" "moduli_for" sModFor f fd) (g1 : GlI mg "LEAST_CLASS" 3) (g2 : GlT K mg "OPEN_RESTS" [1, 3]) (mall : mg "all" = none) (mtup : mg "tuple" = none) : FnOk P w K mg base CX0 1 f fd ["size", "primes"] (spModFor K) := by
  refine F.ok scModFor (fun vs H Q E h => ?_) (fun cdv A outer s H vs Q E hr h => ?_)
  · obtain ⟨size, a, ps, rfl, _⟩ := h
    rfl
  · obtain ⟨size, a, ps, rfl, hS, hl, q⟩ := h
    obtain ⟨t1, g1⟩ := g1
    obtain ⟨oa, g2, hO⟩ := g2
    refine ⟨_, Evl.pss_cut (ps_set (i := 2) scModFor.nd rfl (.inl rfl) (pe_ifExp (pt_cmpR op_notIn_seq pe_int (pv 1) (by rfl)) (pe_lst (pa_cons pe_int pa_nil)) (pe_lst pa_nil)))
      (Evl.pss_cut (ps_if (PW.pt (pw_and (pt_cmpR op_eq (pv 0) (pe_glob (v := .int 3) rfl g1 ⟨_, rfl⟩) (nomark _)) (pw_and1 (pt_cmpR op_notIn_seq pe_int (pv 1) (by rfl)))))
          (pss_one (ps_set (i := 2) scModFor.nd rfl (.inl rfl) (pe_lst (StX.pa_star (pv 2) (pa_cons pe_int pa_nil))))) pss_nil)
      (Evl.pss_cut (ps_if (PW.pt (pw_and (pt_cmpR op_eq (pv 0) (pe_glob (v := .int 3) rfl g1 ⟨_, rfl⟩) (nomark _)) (pw_and1 (pt_val (pe_callB (cr_all rfl) (by rfl) mall (by decide +kernel) (pa_cons
          (pe_lc (own := [("prime", 3)]) (g := gName 3) rfl scModFor.nd (pi_tup (pv 1)) (blkOk_by (own := [("prime", 3)]) (N := ["size", "primes", "found", "prime"]) (sc := defScope sModFor) (by decide +kernel))
            (fun _ _ _ _ _ => pg_name (i := 3) scModFor.nd rfl (.inl rfl)) (fun _ _ _ _ _ => pts_nil)
            (fun _ _ _ _ _ => pe_or (pe_cmpR op_eq (pv 3) pe_int (nomark _)) (pe_one (pe_cmpR (show OpR _ (compareOp .In) (rIn K false) from op_in_seq) (pe_op op_mod (pv 3) pe_int) (pe_glob (v := .ref oa) rfl g2 rfl) (by rfl))))) pa_nil))))))
          (pss_one (ps_set (i := 2) scModFor.nd rfl (.inl rfl) (pe_lst (StX.pa_star (pv 2) (pa_cons pe_int pa_nil))))) pss_nil)
      (pss_one (ps_ret (pe_callTy call_tuple_of (by rfl) mtup (by decide +kernel) (pa_cons (pv 2) pa_nil)))))), ?_⟩
    -- found = [2] if 2 not in primes else []
    refine ⟨fun σ' H' => ∃ l, σ' = [some (.int size), some (.ref a), some (.ref l), none] ∧ Ex H H' ∧ H' l = some (.lst ((found1 ps).map V.int)), ?_, ?_⟩
    · refine ⟨_, rfl, a, _, rfl, .inr hS, rfl, flat_ints ps, _, rfl, ?_⟩
      rw [inV_ints]
      by_cases c : (2 : Int) ∈ ps
      · rw [decide_eq_true c]
        refine iteF ⟨Nat.zero_le _, fun l hl => ⟨l, rfl, Ex.new hl, ?_⟩⟩
        rw [upd_same]
        unfold found1
        rw [if_neg (fun z => z c)]
        rfl
      · rw [decide_eq_false c]
        refine iteT ⟨by decide, fun l hl => ⟨l, rfl, Ex.new hl, ?_⟩⟩
        rw [upd_same]
        unfold found1
        rw [if_pos c]
        rfl
    rintro σ1 H1 ⟨l1, rfl, e1, h1⟩
    -- if size == 3 and 3 not in primes
    refine ⟨fun σ' H' => ∃ l, σ' = [some (.int size), some (.ref a), some (.ref l), none] ∧ Ex H H' ∧ H' l = some (.lst ((found2 size ps).map V.int)), ?_, ?_⟩
    · refine ⟨_, rfl, rfl, _, rfl, ?_⟩
      have stay : ¬ (size = 3 ∧ (3 : Int) ∉ ps) → ∃ l, [some (V.int size), some (.ref a), some (.ref l1), none] = [some (.int size), some (.ref a), some (.ref l), none] ∧ Ex H H1 ∧ H1 l = some (.lst ((found2 size ps).map V.int)) := fun z => by
        refine ⟨l1, rfl, e1, ?_⟩
        unfold found2
        rw [if_neg z, List.append_nil]
        exact h1
      by_cases c : size = 3
      · rw [decide_eq_true (congrArg V.int c)]
        refine iteT ⟨_, rfl, a, _, rfl, .inr (ex_t e1 hS), rfl, flat_ints ps, _, rfl, ?_⟩
        rw [inV_ints]
        by_cases c2 : (3 : Int) ∈ ps
        · rw [decide_eq_true c2]
          exact iteF (stay fun z => z.2 c2)
        · rw [decide_eq_false c2]
          refine iteT ⟨_, rfl, l1, _, rfl, .inr (sq_of h1), by rw [List.length_append, List.length_map]; unfold found1; split <;> decide, fun l hl => ⟨l, rfl, e1.trans (Ex.new hl), ?_⟩⟩
          rw [upd_same]
          unfold found2
          rw [if_pos ⟨c, c2⟩, List.map_append]
          rfl
      · rw [decide_eq_false fun z => c (V.int.inj z)]
        exact iteF (iteF (stay fun z => c z.1))
    rintro σ2 H2 ⟨l2, rfl, e2, h2⟩
    have len2 : (found2 size ps).length ≤ 2 := by
      unfold found2 found1
      rw [List.length_append]
      split <;> split <;> decide
    -- if size == 3 and all(..)
    refine ⟨fun σ' H' => ∃ l, σ' = [some (.int size), some (.ref a), some (.ref l), none] ∧ Ex H H' ∧ H' l = some (.lst ((moduliFor size ps).map V.int)), ?_, ?_⟩
    · refine ⟨_, rfl, rfl, _, rfl, ?_⟩
      have stay : ∀ H3, Ex H2 H3 → ¬ (size = 3 ∧ ∀ p ∈ ps, p = 2 ∨ p % 8 = 1 ∨ p % 8 = 3) → ∃ l, [some (V.int size), some (.ref a), some (.ref l2), none] = [some (.int size), some (.ref a), some (.ref l), none] ∧ Ex H H3 ∧ H3 l = some (.lst ((moduliFor size ps).map V.int)) := fun H3 e3 z => by
        refine ⟨l2, rfl, e2.trans e3, ?_⟩
        rw [found3, if_neg z, List.append_nil]
        exact e3 _ _ h2
      by_cases c : size = 3
      · rw [decide_eq_true (congrArg V.int c)]
        refine iteT ⟨_, rfl, a, rfl, ⟨_, ex_t e2 hS⟩, lcTm okV (ex_t e2 hS) (by rw [List.length_map]; omega) ?_ ?_⟩
        · intro x H3 hx e3 R hR
          obtain ⟨p, hp, rfl⟩ := ints_mem hx
          have h3 := hR H3 (Ex.refl _)
          refine ⟨rfl, _, rfl, rfl, _, rfl, ?_⟩
          by_cases c2 : p = 2
          · rw [decide_eq_true (congrArg V.int c2)]
            refine iteT ?_
            rw [show okV (.int p) = .bl true from congrArg V.bl (decide_eq_true (.inl c2))] at h3
            exact h3
          · rw [decide_eq_false fun z => c2 (V.int.inj z)]
            refine iteF ⟨_, rfl, _, _, rfl, rfl, (by show (0 : Int) < 8; decide), oa, _, rfl, .inr (hO _), rfl, flat_ints [1, 3], ?_⟩
            have e : (if false = true then !inV (.int (p % 8)) (([1, 3] : List Int).map V.int) else inV (.int (p % 8)) (([1, 3] : List Int).map V.int)) = okP p := by
              rw [if_neg Bool.false_ne_true, inV_ints]
              unfold okP
              simp [c2]
            exact qbl R e h3
        · intro D H3 hD e3 h3
          rw [okV_map] at h3
          refine ⟨D, _, rfl, sq_of h3, _, rfl, ?_⟩
          rw [okP_all]
          by_cases c2 : ∀ p ∈ ps, p = 2 ∨ p % 8 = 1 ∨ p % 8 = 3
          · rw [decide_eq_true c2]
            refine iteT ⟨_, rfl, l2, _, rfl, .inr (sq_of (e3 _ _ h2)), by rw [List.length_append, List.length_map]; exact Nat.le_trans (Nat.add_le_add_right len2 _) (by decide), fun l hl => ⟨l, rfl, (e2.trans e3).trans (Ex.new hl), ?_⟩⟩
            rw [upd_same, found3, if_pos ⟨c, c2⟩, List.map_append]
            rfl
          · rw [decide_eq_false c2]
            exact iteF (stay H3 e3 fun z => c2 z.2)
      · rw [decide_eq_false fun z => c (V.int.inj z)]
        exact iteF (iteF (stay H2 (Ex.refl _) fun z => c z.1))
    rintro σ3 H3 ⟨l3, rfl, e3, h3⟩
    exact ⟨_, rfl, l3, _, rfl, .inl ⟨sq_of h3, fun l hl => q _ l (e3.trans (Ex.new hl)) (st_of upd_same)⟩⟩
end
end Rm

/-! ## Rm5 -/
namespace Rm
open PySem PySem.Spec PyProof.Rows L2
open Evl (Ex Ex.refl Ex.trans Ex.new Ex.mut ex_l ex_t sq_of st_of sz_of sz_lt fresh_back)
section
variable {P : Program} {w : World} {K : PySem.W.Frag} {mg : Str → Option Value} {base : Heap} {f : Addr} {fd : FuncData}
/-! ### want -/
def spWant : Sp := fun vs H Q _ => ∃ x : Str, vs = [.bl true, .str x, .int (-1)] ∧ Q .non H
abbrev FnW (K : PySem.W.Frag) (f : Addr) (fd : FuncData) : Prop := FunD K "want" "want" (defArgs sWant) (defBody sWant) (defScope sWant) [.int (-1)] [] f fd
theorem scWant : FnScope ["is_right", "name", "place"] ["is_right", "name", "place"] (defScope sWant) := ⟨rfl, rfl, rfl, by decide +kernel, rfl, by decide +kernel, by decide +kernel⟩
theorem ok_want (F : FnW K f fd) : FnOk P w K mg base CX0 1 f fd ["is_right", "name", "place"] spWant := by
  refine F.ok scWant (fun vs H Q E h => ?_) (fun cdv A outer s H vs Q E hr h => ?_)
  · obtain ⟨x, rfl, _⟩ := h
    rfl
  · obtain ⟨x, rfl, q⟩ := h
    refine ⟨_, PSs.nox (pss_one (ps_if (pt_not (pt_val (pv 0))) (pss_one ps_never) pss_nil)), ?_⟩
    exact ⟨_, rfl, true, rfl, iteF q⟩
abbrev WantC (P : Program) (w : World) (K : PySem.W.Frag) (mg : Str → Option Value) (base : Heap) : Prop := CalD P w K mg base 1 "want" ["is_right", "name", "place"] spWant [.int (-1)]
/-! ### want_class, is_in_class, rules_for -/
def spWantCls (K : PySem.W.Frag) : Sp := fun vs H Q _ => ∃ (size : Int) (a : Addr) (ps : List Int), vs = [.int size, .ref a] ∧ 3 ≤ size ∧ size ≤ 5 ∧ SqT K H a (ps.map V.int) ∧ ps.length ≤ 1000 ∧ (∀ p ∈ ps, p ∈ somePs) ∧ ps.Pairwise (· < ·) ∧ ∀ H', Ex H H' → Q .non H'
theorem scWantCls : FnScope ["size", "primes"] ["size", "primes"] (defScope sWantCls) := ⟨rfl, rfl, rfl, by decide +kernel, rfl, by decide +kernel, by decide +kernel⟩
theorem ok_wantCls (F : Fun K "want_class" "want_class" sWantCls f fd) (C0 : WantC P w K mg base) (C1 : Cal P w K mg base 2 "is_class_size" ["thing"] spClsSize) (C2 : Cal P w K mg base 3 "are_primes" ["thing"] (spArePrimes K)) : FnOk P w K mg base CX0 4 f fd ["size", "primes"] (spWantCls K) := by
  refine F.ok scWantCls (fun vs H Q E h => ?_) (fun cdv A outer s H vs Q E hr h => ?_)
  · obtain ⟨size, a, ps, rfl, _⟩ := h
    rfl
  · obtain ⟨size, a, ps, rfl, s3, s5, hS, hl, hP, hA, q⟩ := h
    refine ⟨_, pss_cons (ps_expr (pe_calD C0 (hr.mono (by decide)) (by rfl) (pa_cons (pe_cal C1 (hr.mono (by decide)) (by rfl) (pa_cons (pv 0) pa_nil)) (pa_cons pe_str pa_nil))))
      (pss_one (ps_expr (pe_calD C0 (hr.mono (by decide)) (by rfl) (pa_cons (pe_cal C2 (hr.mono (by decide)) (by rfl) (pa_cons (pv 1) pa_nil)) (pa_cons pe_str pa_nil))))), ?_⟩
    refine ⟨_, rfl, size, rfl, s3, s5, _, rfl, ?_⟩
    exact ⟨_, rfl, a, ps, rfl, hS, hl, hP, hA, fun H1 e1 => ⟨_, rfl, q H1 e1⟩⟩
def spInCls (K : PySem.W.Frag) : Sp := fun vs H Q _ => ∃ (a r : Addr) (ps xs : List Int), vs = [.int xs.length, .ref a, .ref r] ∧ SqT K H a (ps.map V.int) ∧ ps.length ≤ 1000 ∧ (∀ p ∈ ps, p ∈ somePs) ∧ ps.Pairwise (· < ·) ∧ SqT K H r (xs.map V.int) ∧ 3 ≤ (xs.length : Int) ∧ (xs.length : Int) ≤ 5 ∧ IsRay xs ∧
  (∀ x ∈ xs, x.natAbs < 2 ^ 63) ∧ Fit (dot xs xs) ∧ ∀ H', Ex H H' → Q (.bl (decide (stripAll ps (dot xs xs) = 1))) H'
theorem some_lt {p : Int} (h : p ∈ somePs) : 2 ≤ p ∧ p < 1000 := by
  simp only [somePs, List.mem_cons, List.not_mem_nil, or_false] at h
  omega
theorem scInCls : FnScope ["size", "primes", "ray"] ["size", "primes", "ray"] (defScope sInCls) := ⟨rfl, rfl, rfl, by decide +kernel, rfl, by decide +kernel, by decide +kernel⟩
theorem ok_inCls (F : Fun K "is_in_class" "is_in_class" sInCls f fd) (C0 : WantC P w K mg base) (C1 : Cal P w K mg base 4 "want_class" ["size", "primes"] (spWantCls K)) (C2 : Cal P w K mg base 4 "is_ray_of" ["size", "thing"] (spIsRayOf K)) (C3 : Cal P w K mg base 3 "is_within" ["primes", "ray"] (spWithin K)) :
    FnOk P w K mg base CX0 5 f fd ["size", "primes", "ray"] (spInCls K) := by
  refine F.ok scInCls (fun vs H Q E h => ?_) (fun cdv A outer s H vs Q E hr h => ?_)
  · obtain ⟨a, r, ps, xs, rfl, _⟩ := h
    rfl
  · obtain ⟨a, r, ps, xs, rfl, hS, hl, hP, hA, hX, l3, l5, hR, hb, hF, q⟩ := h
    refine ⟨_, pss_cons (ps_expr (pe_cal C1 hr (by rfl) (pa_cons (pv 0) (pa_cons (pv 1) pa_nil))))
      (pss_cons (ps_expr (pe_calD C0 (hr.mono (by decide)) (by rfl) (pa_cons (pe_cal C2 hr (by rfl) (pa_cons (pv 0) (pa_cons (pv 2) pa_nil))) (pa_cons pe_str pa_nil))))
      (pss_one (ps_ret (pe_cal C3 (hr.mono (by decide)) (by rfl) (pa_cons (pv 1) (pa_cons (pv 2) pa_nil)))))), ?_⟩
    refine ⟨_, rfl, _, rfl, _, a, ps, rfl, l3, l5, hS, hl, hP, hA, fun H1 e1 => ?_⟩
    refine ⟨_, rfl, _, rfl, r, xs, rfl, ex_t e1 hX, by omega, hR, fun H2 e2 => ⟨_, rfl, ?_⟩⟩
    exact ⟨_, rfl, _, rfl, a, r, ps, xs, rfl, ex_t (e1.trans e2) hS, ex_t (e1.trans e2) hX, by omega, hb, hF, fun p hp => some_lt (hP p hp), fun H3 e3 => q H3 ((e1.trans e2).trans e3)⟩
def spRulesFor (K : PySem.W.Frag) : Sp := fun vs H Q _ => ∃ (size : Int) (a : Addr) (ps : List Int), vs = [.int size, .ref a] ∧ 3 ≤ size ∧ size ≤ 5 ∧ SqT K H a (ps.map V.int) ∧ ps.length ≤ 1000 ∧ (∀ p ∈ ps, p ∈ somePs) ∧ ps.Pairwise (· < ·) ∧ ∀ H' p, Ex H H' → SqT K H' p ((moduliFor size ps).map V.int) → Q (.ref p) H'
theorem scRulesFor : FnScope ["size", "primes"] ["size", "primes"] (defScope sRulesFor) := ⟨rfl, rfl, rfl, by decide +kernel, rfl, by decide +kernel, by decide +kernel⟩
theorem ok_rulesFor (F : Fun K "rules_for" "rules_for" sRulesFor f fd) (C1 : Cal P w K mg base 4 "want_class" ["size", "primes"] (spWantCls K)) (C2 : Cal P w K mg base 1 "moduli_for" ["size", "primes"] (spModFor K)) : FnOk P w K mg base CX0 5 f fd ["size", "primes"] (spRulesFor K) := by
  refine F.ok scRulesFor (fun vs H Q E h => ?_) (fun cdv A outer s H vs Q E hr h => ?_)
  · obtain ⟨size, a, ps, rfl, _⟩ := h
    rfl
  · obtain ⟨size, a, ps, rfl, s3, s5, hS, hl, hP, hA, q⟩ := h
    refine ⟨_, pss_cons (ps_expr (pe_cal C1 hr (by rfl) (pa_cons (pv 0) (pa_cons (pv 1) pa_nil)))) (pss_one (ps_ret (pe_cal C2 (hr.mono (by decide)) (by rfl) (pa_cons (pv 0) (pa_cons (pv 1) pa_nil))))), ?_⟩
    refine ⟨_, rfl, _, rfl, size, a, ps, rfl, s3, s5, hS, hl, hP, hA, fun H1 e1 => ?_⟩
    exact ⟨_, rfl, _, rfl, size, a, ps, rfl, ex_t e1 hS, hl, fun H2 p e2 h2 => q H2 p (e1.trans e2) h2⟩
/-! ### the table of rules -/
def ruleKeys : List (Int × Int) := [(3, 2), (3, 3), (3, 4), (4, 2), (5, 2)]
structure Rules (K : PySem.W.Frag) (mg : Str → Option Value) (ra : Addr) (rs ls : List Addr) : Prop where
  g : mg "RULES" = some (.ref ra)
  lr : rs.length = 5
  ll : ls.length = 5
  all : ∀ H, SqT K H ra (rs.map V.ref)
  row : ∀ (i : Nat) (r l : Addr) (k : Int × Int), rs[i]? = some r → ls[i]? = some l → ruleKeys[i]? = some k → ∀ H, SqT K H r [.int k.1, .int k.2, .ref l]
  lst : ∀ (i : Nat) (l : Addr) (k : Int × Int), ls[i]? = some l → ruleKeys[i]? = some k → ∃ ps, (∀ H, SqT K H l (ps.map V.ref)) ∧ ∀ H, Tups K H ps (proL k.1 k.2)
theorem Rules.at {ra : Addr} {rs ls : List Addr} (R : Rules K mg ra rs ls) {i : Nat} {x : V} (h : (rs.map V.ref)[i]? = some x) : ∃ r l k, x = .ref r ∧ rs[i]? = some r ∧ ls[i]? = some l ∧ ruleKeys[i]? = some k ∧ ∀ H, SqT K H r [.int k.1, .int k.2, .ref l] := by
  rw [List.getElem?_map] at h
  cases e : rs[i]? with
  | none =>
    rw [e] at h
    cases h
  | some r =>
    rw [e] at h
    have hi : i < 5 := by
      have := (List.getElem?_eq_some_iff.mp e).1
      rw [R.lr] at this
      exact this
    have hk : i < ruleKeys.length := hi
    have hl : i < ls.length := by rw [R.ll]; exact hi
    exact ⟨r, ls[i], ruleKeys[i], (Option.some.inj h).symm, rfl, List.getElem?_eq_getElem hl, List.getElem?_eq_getElem hk, R.row i r _ _ e (List.getElem?_eq_getElem hl) (List.getElem?_eq_getElem hk)⟩
/-! ### moduli_by -/
def modG (size : Int) (i : Nat) : Option V := ruleKeys[i]?.bind fun k => if k.1 = size then some (.int k.2) else none
theorem modG_list {size : Int} (h3 : 3 ≤ size) (h5 : size ≤ 5) : (List.range 5).filterMap (modG size) = (moduliOf size).map V.int := by
  have : size = 3 ∨ size = 4 ∨ size = 5 := by omega
  rcases this with rfl | rfl | rfl <;> decide
def spModBy (K : PySem.W.Frag) : Sp := fun vs H Q _ => ∃ size : Int, vs = [.int size] ∧ 3 ≤ size ∧ size ≤ 5 ∧ ∀ H' p, Ex H H' → SqT K H' p ((moduliOf size).map V.int) → Q (.ref p) H'
theorem scModBy : FnScope ["size", "own", "modulus", "rests"] ["size"] (defScope sModBy) := ⟨rfl, rfl, rfl, by decide +kernel, rfl, by decide +kernel, by decide +kernel⟩
theorem ok_modBy {ra : Addr} {rs ls : List Addr} (F : Fun K "moduli_by" "moduli_by" sModBy f fd) (R : Rules K mg ra rs ls) (mtup : mg "tuple" = none) : FnOk P w K mg base CX0 1 f fd ["size"] (spModBy K) := by
  refine F.ok scModBy (fun vs H Q E h => ?_) (fun cdv A outer s H vs Q E hr h => ?_)
  · obtain ⟨size, rfl, _⟩ := h
    rfl
  · obtain ⟨size, rfl, s3, s5, q⟩ := h
    refine ⟨_, pss_one (ps_ret (pe_callTy call_tuple_of (by rfl) mtup (by decide +kernel) (pa_cons
      (pe_lc (own := [("own", 1), ("modulus", 2), ("rests", 3)]) (g := gTup K 3 (gCons (gName 1) (gCons (gName 2) (gCons (gName 3) gNil)))) rfl scModBy.nd (pi_tup (pe_glob (v := .ref ra) rfl R.g rfl))
        (blkOk_by (own := [("own", 1), ("modulus", 2), ("rests", 3)]) (N := ["size", "own", "modulus", "rests"]) (sc := defScope sModBy) (by decide +kernel))
        (fun _ _ _ _ _ => pg_tup rfl (pgs_cons (pg_name (i := 1) scModBy.nd rfl (.inl rfl) (.inr rfl)) (pgs_cons (pg_name (i := 2) scModBy.nd rfl (.inl rfl) (.inr rfl)) (pgs_cons (pg_name (i := 3) scModBy.nd rfl (.inl rfl) (.inr rfl)) pgs_nil))))
        (fun _ _ _ _ _ => pts_one (pt_cmpR op_eq (pv 1) (pv 0) (nomark _))) (fun _ _ _ _ _ => pv 2)) pa_nil))), ?_⟩
    refine ⟨ra, rfl, ⟨_, R.all H⟩, lcTi (modG size) (R.all H) (by rw [List.length_map, R.lr]; decide) ?_ ?_⟩
    · intro i x H1 hx e1 R1 hR
      obtain ⟨r, l, k, rfl, hr1, hl1, hk, hrow⟩ := R.at hx
      have h1 := hR H1 (Ex.refl _)
      unfold modG at h1
      rw [hk, Option.bind_some] at h1
      refine ⟨r, _, rfl, hrow H1, rfl, _, _, rfl, _, _, rfl, _, _, rfl, rfl, rfl, ?_⟩
      refine ⟨_, rfl, _, rfl, rfl, _, rfl, ?_⟩
      by_cases c : k.1 = size
      · rw [if_pos c] at h1
        rw [decide_eq_true (congrArg V.int c)]
        exact iteT ⟨_, rfl, h1⟩
      · rw [if_neg c] at h1
        rw [decide_eq_false fun z => c (V.int.inj z)]
        exact iteF h1
    · intro D H2 hD e2 h2
      rw [List.length_map, R.lr, modG_list s3 s5] at h2
      exact ⟨D, _, rfl, .inl ⟨sq_of h2, fun l hl => q _ l (e2.trans (Ex.new hl)) (st_of upd_same)⟩⟩
/-! ### is_modulus -/
def spIsMod : Sp := fun vs H Q _ => ∃ size m : Int, vs = [.int size, .int m] ∧ 3 ≤ size ∧ size ≤ 5 ∧ m ∈ moduliOf size ∧ ∀ H', Ex H H' → Q (.bl true) H'
theorem scIsMod : FnScope ["size", "thing"] ["size", "thing"] (defScope sIsMod) := ⟨rfl, rfl, rfl, by decide +kernel, rfl, by decide +kernel, by decide +kernel⟩
theorem ok_isMod (F : Fun K "is_modulus" "is_modulus" sIsMod f fd) (C1 : Cal P w K mg base 1 "is_integer" ["thing"] spIsInt) (C2 : Cal P w K mg base 1 "moduli_by" ["size"] (spModBy K)) : FnOk P w K mg base CX0 2 f fd ["size", "thing"] spIsMod := by
  refine F.ok scIsMod (fun vs H Q E h => ?_) (fun cdv A outer s H vs Q E hr h => ?_)
  · obtain ⟨size, m, rfl, _⟩ := h
    rfl
  · obtain ⟨size, m, rfl, s3, s5, hm, q⟩ := h
    refine ⟨_, pss_one (ps_ret (pe_and (pe_cal C1 hr (by rfl) (pa_cons (pv 1) pa_nil)) (pe_one (pe_cmpR op_in_seq (pv 1) (pe_cal C2 hr (by rfl) (pa_cons (pv 0) pa_nil)) (by rfl))))), ?_⟩
    refine ⟨_, rfl, m, rfl, true, rfl, iteT ?_⟩
    refine ⟨_, rfl, _, rfl, size, rfl, s3, s5, fun H1 p e1 h1 => ⟨p, _, rfl, .inr h1, rfl, flat_ints _, ?_⟩⟩
    have e : (if false = true then !inV (.int m) ((moduliOf size).map V.int) else inV (.int m) ((moduliOf size).map V.int)) = true := by
      rw [if_neg Bool.false_ne_true, inV_ints, decide_eq_true hm]
    exact qbl Q e (q H1 e1)
/-! ### rests_by -/
def resG (size m : Int) (ls : List Addr) (i : Nat) : Option V := ruleKeys[i]?.bind fun k => if k = (size, m) then ls[i]?.map V.ref else none
theorem resG_list {size m : Int} (h : IsRule size m) {ls : List Addr} (hl : ls.length = 5) : ∃ (i : Nat) (l : Addr), ls[i]? = some l ∧ ruleKeys[i]? = some (size, m) ∧ (List.range 5).filterMap (resG size m ls) = [.ref l] := by
  match ls, hl with
  | [a, b, c, d, e], _ =>
    rcases h with ⟨rfl, rfl | rfl | rfl⟩ | ⟨rfl, rfl⟩ | ⟨rfl, rfl⟩
    · exact ⟨0, a, rfl, rfl, by simp [List.range_succ, resG, ruleKeys]⟩
    · exact ⟨1, b, rfl, rfl, by simp [List.range_succ, resG, ruleKeys]⟩
    · exact ⟨2, c, rfl, rfl, by simp [List.range_succ, resG, ruleKeys]⟩
    · exact ⟨3, d, rfl, rfl, by simp [List.range_succ, resG, ruleKeys]⟩
    · exact ⟨4, e, rfl, rfl, by simp [List.range_succ, resG, ruleKeys]⟩
def spRestsBy (K : PySem.W.Frag) : Sp := fun vs H Q _ => ∃ size m : Int, vs = [.int size, .int m] ∧ IsRule size m ∧ ∀ H' l ps, Ex H H' → (SqT K H' l (ps.map V.ref)) → Tups K H' ps (proL size m) → Q (.ref l) H'
theorem scRestsBy : FnScope ["size", "modulus", "own", "late", "rests"] ["size", "modulus"] (defScope sRestsBy) := ⟨rfl, rfl, rfl, by decide +kernel, rfl, by decide +kernel, by decide +kernel⟩
theorem ok_restsBy {ra : Addr} {rs ls : List Addr} (F : Fun K "rests_by" "rests_by" sRestsBy f fd) (R : Rules K mg ra rs ls) : FnOk P w K mg base CX0 1 f fd ["size", "modulus"] (spRestsBy K) := by
  refine F.ok scRestsBy (fun vs H Q E h => ?_) (fun cdv A outer s H vs Q E hr h => ?_)
  · obtain ⟨size, m, rfl, _⟩ := h
    rfl
  · obtain ⟨size, m, rfl, hR, q⟩ := h
    refine ⟨_, pss_one (ps_ret (pe_ix ix_list
      (pe_lc (own := [("own", 2), ("late", 3), ("rests", 4)]) (g := gTup K 3 (gCons (gName 2) (gCons (gName 3) (gCons (gName 4) gNil)))) rfl scRestsBy.nd (pi_tup (pe_glob (v := .ref ra) rfl R.g rfl))
        (blkOk_by (own := [("own", 2), ("late", 3), ("rests", 4)]) (N := ["size", "modulus", "own", "late", "rests"]) (sc := defScope sRestsBy) (by decide +kernel))
        (fun _ _ _ _ _ => pg_tup rfl (pgs_cons (pg_name (i := 2) scRestsBy.nd rfl (.inl rfl) (.inr rfl)) (pgs_cons (pg_name (i := 3) scRestsBy.nd rfl (.inl rfl) (.inr rfl)) (pgs_cons (pg_name (i := 4) scRestsBy.nd rfl (.inl rfl) (.inr rfl)) pgs_nil))))
        (fun _ _ _ _ _ => pts_one (PW.pt (pw_and (pt_cmpR op_eq (pv 2) (pv 0) (nomark _)) (pw_and1 (pt_cmpR op_eq (pv 3) (pv 1) (nomark _)))))) (fun _ _ _ _ _ => pv 4)) pe_int (fun _ _ => rfl))), ?_⟩
    refine ⟨ra, rfl, ⟨_, R.all H⟩, lcTi (resG size m ls) (R.all H) (by rw [List.length_map, R.lr]; decide) ?_ ?_⟩
    · intro i x H1 hx e1 R1 hR1
      obtain ⟨r, l, k, rfl, hr1, hl1, hk, hrow⟩ := R.at hx
      have h1 := hR1 H1 (Ex.refl _)
      unfold resG at h1
      rw [hk, Option.bind_some, hl1] at h1
      refine ⟨r, _, rfl, hrow H1, rfl, _, _, rfl, _, _, rfl, _, _, rfl, rfl, rfl, ?_⟩
      refine ⟨_, rfl, _, rfl, rfl, _, rfl, ?_⟩
      by_cases c : k.1 = size
      · rw [decide_eq_true (congrArg V.int c)]
        refine iteT ⟨_, rfl, _, rfl, rfl, _, rfl, ?_⟩
        by_cases c2 : k.2 = m
        · rw [if_pos (Prod.ext c c2)] at h1
          rw [decide_eq_true (congrArg V.int c2)]
          exact iteT ⟨_, rfl, h1⟩
        · rw [if_neg (fun z => c2 (congrArg Prod.snd z))] at h1
          rw [decide_eq_false fun z => c2 (V.int.inj z)]
          exact iteF h1
      · rw [if_neg (fun z => c (congrArg Prod.fst z))] at h1
        rw [decide_eq_false fun z => c (V.int.inj z)]
        exact iteF (iteF h1)
    · intro D H2 hD e2 h2
      obtain ⟨i, l, hl1, hk, el⟩ := resG_list hR R.ll
      rw [List.length_map, R.lr, el] at h2
      obtain ⟨ps, p1, p2⟩ := R.lst i l _ hl1 hk
      exact ⟨D, _, 0, .ref l, rfl, rfl, sq_of h2, atI_nat (j := 0) rfl, q H2 l ps e2 (p1 H2) (p2 H2)⟩
end
end Rm

/-! ## Rm6 -/
namespace Rm
open PySem PySem.Spec PyProof.Rows L2
open Evl (Ex Ex.refl Ex.trans Ex.new Ex.mut ex_l ex_t sq_of st_of sz_of sz_lt fresh_back)
section
variable {P : Program} {w : World} {K : PySem.W.Frag} {mg : Str → Option Value} {base : Heap} {f : Addr} {fd : FuncData}
/-! ### rest_by -/
def modV (m : Int) : V → V := fun x => match x with
  | .int n => .int (n % m)
  | _ => .non
def negV (m : Int) : V → V := fun x => match x with
  | .int n => .int (-n % m)
  | _ => .non
theorem modV_map (m : Int) (ns : List Int) : (ns.map V.int).map (modV m) = (restp m ns).map V.int := by
  unfold restp
  rw [List.map_map, List.map_map]
  rfl
theorem negV_map (m : Int) (ns : List Int) : (ns.map V.int).map (negV m) = (restn m ns).map V.int := by
  unfold restn
  rw [List.map_map, List.map_map]
  rfl
def spRestBy (K : PySem.W.Frag) : Sp := fun vs H Q _ => ∃ (m : Int) (a : Addr) (xs : List Int), vs = [.int m, .ref a] ∧ 0 < m ∧ SqT K H a (xs.map V.int) ∧ xs.length ≤ 1000 ∧ ∀ H' p, Ex H H' → SqT K H' p ((lesser (restp m xs) (restn m xs)).map V.int) → Q (.ref p) H'
theorem scRestBy : FnScope ["modulus", "numbers", "one", "other", "number"] ["modulus", "numbers"] (defScope sRestBy) := ⟨rfl, rfl, rfl, by decide +kernel, rfl, by decide +kernel, by decide +kernel⟩
theorem ok_restBy (F : Fun K "rest_by" "rest_by" sRestBy f fd) (mtup : mg "tuple" = none) : FnOk P w K mg base CX0 1 f fd ["modulus", "numbers"] (spRestBy K) := by
  refine F.ok scRestBy (fun vs H Q E h => ?_) (fun cdv A outer s H vs Q E hr h => ?_)
  · obtain ⟨m, a, xs, rfl, _⟩ := h
    rfl
  · obtain ⟨m, a, xs, rfl, hm, hS, hl, q⟩ := h
    refine ⟨_, pss_cons (ps_set (i := 2) scRestBy.nd rfl (.inl rfl) (pe_callTy call_tuple_of (by rfl) mtup (by decide +kernel) (pa_cons
        (pe_lc (own := [("number", 4)]) (g := gName 4) rfl scRestBy.nd (pi_tup (pv 1)) (blkOk_by (own := [("number", 4)]) (N := ["modulus", "numbers", "one", "other", "number"]) (sc := defScope sRestBy) (by decide +kernel))
          (fun _ _ _ _ _ => pg_name (i := 4) scRestBy.nd rfl (.inl rfl)) (fun _ _ _ _ _ => pts_nil) (fun _ _ _ _ _ => pe_op op_mod (pv 4) (pv 0))) pa_nil)))
      (pss_cons (ps_set (i := 3) scRestBy.nd rfl (.inl rfl) (pe_callTy call_tuple_of (by rfl) mtup (by decide +kernel) (pa_cons
        (pe_lc (own := [("number", 4)]) (g := gName 4) rfl scRestBy.nd (pi_tup (pv 1)) (blkOk_by (own := [("number", 4)]) (N := ["modulus", "numbers", "one", "other", "number"]) (sc := defScope sRestBy) (by decide +kernel))
          (fun _ _ _ _ _ => pg_name (i := 4) scRestBy.nd rfl (.inl rfl)) (fun _ _ _ _ _ => pts_nil) (fun _ _ _ _ _ => pe_op op_mod (pe_un un_neg (pv 4)) (pv 0))) pa_nil)))
      (pss_one (ps_ret (pe_ifExp (pt_cmpR (op_ltT hr.units0) (pv 2) (pv 3) (nomark _)) (pv 2) (pv 3))))), ?_⟩
    refine ⟨_, rfl, a, rfl, ⟨_, hS⟩, lcTm (modV m) hS (by rw [List.length_map]; omega) ?_ ?_⟩
    · intro x H1 hx e1 R hR
      obtain ⟨n, hn, rfl⟩ := ints_mem hx
      exact ⟨rfl, _, rfl, _, rfl, _, _, rfl, rfl, hm, hR H1 (Ex.refl _)⟩
    · intro D H1 hD e1 h1
      rw [modV_map] at h1
      refine ⟨D, _, rfl, .inl ⟨sq_of h1, fun p hp => ?_⟩⟩
      have e2 : Ex H (upd H1 p (.tup ((restp m xs).map V.int))) := e1.trans (Ex.new hp)
      have s2 : SqT K (upd H1 p (.tup ((restp m xs).map V.int))) p ((restp m xs).map V.int) := st_of upd_same
      generalize upd H1 p (.tup ((restp m xs).map V.int)) = H2 at e2 s2
      refine ⟨_, rfl, a, rfl, ⟨_, ex_t e2 hS⟩, lcTm (negV m) (ex_t e2 hS) (by rw [List.length_map]; omega) ?_ ?_⟩
      · intro x H3 hx e3 R hR
        obtain ⟨n, hn, rfl⟩ := ints_mem hx
        exact ⟨rfl, _, rfl, _, rfl, _, rfl, _, _, rfl, rfl, hm, hR H3 (Ex.refl _)⟩
      · intro D2 H3 hD2 e3 h3
        rw [negV_map] at h3
        refine ⟨D2, _, rfl, .inl ⟨sq_of h3, fun p2 hp2 => ?_⟩⟩
        have e4 : Ex H2 (upd H3 p2 (.tup ((restn m xs).map V.int))) := e3.trans (Ex.new hp2)
        have s4 : SqT K (upd H3 p2 (.tup ((restn m xs).map V.int))) p2 ((restn m xs).map V.int) := st_of upd_same
        generalize upd H3 p2 (.tup ((restn m xs).map V.int)) = H4 at e4 s4
        have fin := q H4
        unfold lesser at fin
        refine ⟨_, rfl, _, rfl, p, p2, restp m xs, restn m xs, rfl, rfl, ex_t e4 s2, s4, _, rfl, ?_⟩
        rw [ht_lex]
        cases c : lexLt (restp m xs) (restn m xs) with
        | true =>
          rw [c, if_pos rfl] at fin
          exact iteT ⟨_, rfl, fin p (e2.trans e4) (ex_t e4 s2)⟩
        | false =>
          rw [c, if_neg Bool.false_ne_true] at fin
          exact iteF ⟨_, rfl, fin p2 (e2.trans e4) s4⟩
/-! ### is_ruled_by -/
def spRuledBy (K : PySem.W.Frag) : Sp := fun vs H Q _ => ∃ (m : Int) (a : Addr) (xs : List Int), vs = [.int m, .ref a] ∧ 0 < m ∧ SqT K H a (xs.map V.int) ∧ xs.length ≤ 1000 ∧ (∀ x ∈ xs, x.natAbs < 2 ^ 63) ∧ ∀ H', Ex H H' → Q (.bl (isfor m xs)) H'
theorem scRuledBy : FnScope ["modulus", "ray", "length"] ["modulus", "ray"] (defScope sRuledBy) := ⟨rfl, rfl, rfl, by decide +kernel, rfl, by decide +kernel, by decide +kernel⟩
theorem ok_ruledBy (F : Fun K "is_ruled_by" "is_ruled_by" sRuledBy f fd) (C : Cal P w K mg base 2 "length_by" ["ray"] (spLenBy K)) (g : GlT K mg "FOURTH_RESTS" fourthR) : FnOk P w K mg base CX0 3 f fd ["modulus", "ray"] (spRuledBy K) := by
  refine F.ok scRuledBy (fun vs H Q E h => ?_) (fun cdv A outer s H vs Q E hr h => ?_)
  · obtain ⟨m, a, xs, rfl, _⟩ := h
    rfl
  · obtain ⟨m, a, xs, rfl, hm, hS, hl, hb, q⟩ := h
    obtain ⟨ga, g1, g2⟩ := g
    refine ⟨_, pss_cons (ps_set (i := 2) scRuledBy.nd rfl (.inl rfl) (pe_cal C hr (by rfl) (pa_cons (pv 1) pa_nil)))
      (pss_one (ps_ret (pe_ifExp (pt_cmpR op_eq (pv 0) pe_int (nomark _)) (pe_cmpR op_in_seq (pe_op op_mod (pv 2) pe_int) (pe_glob (v := .ref ga) rfl g1 rfl) (by rfl)) (pe_cmpR op_gt (pe_op op_mod (pv 2) (pv 0)) pe_int (nomark _))))), ?_⟩
    refine ⟨_, rfl, a, xs, rfl, hS, hl, hb, fun H1 e1 => ?_⟩
    have fin := q H1 e1
    unfold isfor at fin
    refine ⟨_, rfl, rfl, _, rfl, ?_⟩
    by_cases c : m = 4
    · rw [if_pos c] at fin
      rw [decide_eq_true (congrArg V.int c)]
      refine iteT ⟨_, rfl, _, _, rfl, rfl, (by show (0 : Int) < 16; decide), ga, _, rfl, .inr (g2 _), rfl, flat_ints _, ?_⟩
      have e : (if false = true then !inV (.int (dot xs xs % 16)) (fourthR.map V.int) else inV (.int (dot xs xs % 16)) (fourthR.map V.int)) = decide (dot xs xs % 16 ∈ fourthR) := by
        rw [if_neg Bool.false_ne_true, inV_ints]
      exact qbl Q e fin
    · rw [if_neg c] at fin
      rw [decide_eq_false fun z => c (V.int.inj z)]
      refine iteF ⟨_, rfl, _, rfl, _, _, rfl, rfl, hm, _, _, rfl, rfl, ?_⟩
      refine qbl Q ?_ fin
      have := Int.emod_nonneg (dot xs xs) (by omega : m ≠ 0)
      by_cases z : dot xs xs % m = 0
      · rw [decide_eq_false (by omega : ¬ 0 < dot xs xs % m), decide_eq_false (fun n => n z)]
      · rw [decide_eq_true (by omega : 0 < dot xs xs % m), decide_eq_true z]
/-! ### is_marked_by -/
def spMarkedBy (K : PySem.W.Frag) : Sp := fun vs H Q _ => ∃ (m : Int) (a : Addr) (xs : List Int), vs = [.int xs.length, .int m, .ref a] ∧ IsRule xs.length m ∧ SqT K H a (xs.map V.int) ∧ xs.length ≤ 1000 ∧ ∀ H', Ex H H' → Q (.bl (marks xs.length m xs)) H'
theorem rule_pos {size m : Int} (h : IsRule size m) : 0 < m := by
  unfold IsRule at h
  omega
theorem scMarkedBy : FnScope ["size", "modulus", "ray"] ["size", "modulus", "ray"] (defScope sMarkedBy) := ⟨rfl, rfl, rfl, by decide +kernel, rfl, by decide +kernel, by decide +kernel⟩
theorem ok_markedBy (F : Fun K "is_marked_by" "is_marked_by" sMarkedBy f fd) (C1 : Cal P w K mg base 1 "rest_by" ["modulus", "numbers"] (spRestBy K)) (C2 : Cal P w K mg base 1 "rests_by" ["size", "modulus"] (spRestsBy K)) : FnOk P w K mg base CX0 2 f fd ["size", "modulus", "ray"] (spMarkedBy K) := by
  refine F.ok scMarkedBy (fun vs H Q E h => ?_) (fun cdv A outer s H vs Q E hr h => ?_)
  · obtain ⟨m, a, xs, rfl, _⟩ := h
    rfl
  · obtain ⟨m, a, xs, rfl, hR, hS, hl, q⟩ := h
    refine ⟨_, pss_one (ps_ret (pe_cmpR (op_inT hr.units) (pe_cal C1 hr (by rfl) (pa_cons (pv 1) (pa_cons (pv 2) pa_nil))) (pe_cal C2 hr (by rfl) (pa_cons (pv 0) (pa_cons (pv 1) pa_nil))) (by rfl))), ?_⟩
    refine ⟨_, rfl, _, rfl, m, a, xs, rfl, rule_pos hR, hS, hl, fun H1 p e1 h1 => ?_⟩
    refine ⟨_, rfl, _, rfl, _, m, rfl, hR, fun H2 l ps e2 h2 t2 => ?_⟩
    refine ⟨p, l, ps, _, _, rfl, rfl, ex_t e2 h1, .inr h2, t2, ?_⟩
    rw [alike hR rfl]
    exact q H2 (e1.trans e2)
/-! ### want_rule, rest_of, is_ruled, is_marked -/
def spWantRule : Sp := fun vs H Q _ => ∃ size m : Int, vs = [.int size, .int m] ∧ 3 ≤ size ∧ size ≤ 5 ∧ m ∈ moduliOf size ∧ ∀ H', Ex H H' → Q .non H'
theorem scWantRule : FnScope ["size", "modulus"] ["size", "modulus"] (defScope sWantRule) := ⟨rfl, rfl, rfl, by decide +kernel, rfl, by decide +kernel, by decide +kernel⟩
theorem ok_wantRule (F : Fun K "want_rule" "want_rule" sWantRule f fd) (C0 : WantC P w K mg base) (C1 : Cal P w K mg base 2 "is_class_size" ["thing"] spClsSize) (C2 : Cal P w K mg base 2 "is_modulus" ["size", "thing"] spIsMod) : FnOk P w K mg base CX0 3 f fd ["size", "modulus"] spWantRule := by
  refine F.ok scWantRule (fun vs H Q E h => ?_) (fun cdv A outer s H vs Q E hr h => ?_)
  · obtain ⟨size, m, rfl, _⟩ := h
    rfl
  · obtain ⟨size, m, rfl, s3, s5, hm, q⟩ := h
    refine ⟨_, pss_cons (ps_expr (pe_calD C0 (hr.mono (by decide)) (by rfl) (pa_cons (pe_cal C1 hr (by rfl) (pa_cons (pv 0) pa_nil)) (pa_cons pe_str pa_nil))))
      (pss_one (ps_expr (pe_calD C0 (hr.mono (by decide)) (by rfl) (pa_cons (pe_cal C2 hr (by rfl) (pa_cons (pv 0) (pa_cons (pv 1) pa_nil))) (pa_cons pe_str pa_nil))))), ?_⟩
    refine ⟨_, rfl, size, rfl, s3, s5, _, rfl, ?_⟩
    exact ⟨_, rfl, _, rfl, size, m, rfl, s3, s5, hm, fun H1 e1 => ⟨_, rfl, q H1 e1⟩⟩
def spRestOf (K : PySem.W.Frag) : Sp := fun vs H Q _ => ∃ (m : Int) (a : Addr) (xs : List Int), vs = [.int m, .ref a] ∧ m ∈ moduliOf 3 ∧ SqT K H a (xs.map V.int) ∧ 3 ≤ (xs.length : Int) ∧ (xs.length : Int) ≤ 5 ∧ IsRay xs ∧ ∀ H' p, Ex H H' → SqT K H' p ((lesser (restp m xs) (restn m xs)).map V.int) → Q (.ref p) H'
theorem scRestOf : FnScope ["modulus", "ray"] ["modulus", "ray"] (defScope sRestOf) := ⟨rfl, rfl, rfl, by decide +kernel, rfl, by decide +kernel, by decide +kernel⟩
theorem ok_restOf (F : Fun K "rest_of" "rest_of" sRestOf f fd) (C0 : WantC P w K mg base) (C1 : Cal P w K mg base 1 "is_integer" ["thing"] spIsInt) (C2 : Cal P w K mg base 1 "moduli_by" ["size"] (spModBy K)) (C3 : Cal P w K mg base 3 "is_ray" ["thing"] (spIsRay K))
    (C4 : Cal P w K mg base 2 "is_class_size" ["thing"] spClsSize) (C5 : Cal P w K mg base 1 "rest_by" ["modulus", "numbers"] (spRestBy K)) (mlen : mg "len" = none) : FnOk P w K mg base CX0 4 f fd ["modulus", "ray"] (spRestOf K) := by
  refine F.ok scRestOf (fun vs H Q E h => ?_) (fun cdv A outer s H vs Q E hr h => ?_)
  · obtain ⟨m, a, xs, rfl, _⟩ := h
    rfl
  · obtain ⟨m, a, xs, rfl, hm, hS, l3, l5, hR, q⟩ := h
    refine ⟨_, pss_cons (ps_expr (pe_calD C0 (hr.mono (by decide)) (by rfl) (pa_cons (pe_and (pe_cal C1 (hr.mono (by decide)) (by rfl) (pa_cons (pv 0) pa_nil)) (pe_one (pe_cmpR op_in_seq (pv 0) (pe_cal C2 (hr.mono (by decide)) (by rfl) (pa_cons pe_int pa_nil)) (by rfl)))) (pa_cons pe_str pa_nil))))
      (pss_cons (ps_expr (pe_calD C0 (hr.mono (by decide)) (by rfl) (pa_cons (pe_and (pe_cal C3 hr (by rfl) (pa_cons (pv 1) pa_nil)) (pe_one (pe_cal C4 (hr.mono (by decide)) (by rfl) (pa_cons (pe_callB call_len_seq (by rfl) mlen PySem.boot_len (pa_cons (pv 1) pa_nil)) pa_nil)))) (pa_cons pe_str pa_nil))))
      (pss_one (ps_ret (pe_cal C5 (hr.mono (by decide)) (by rfl) (pa_cons (pv 0) (pa_cons (pv 1) pa_nil)))))), ?_⟩
    refine ⟨_, rfl, m, rfl, true, rfl, iteT ?_⟩
    refine ⟨_, rfl, 3, rfl, by decide, by decide, fun H1 p e1 h1 => ⟨p, _, rfl, .inr h1, rfl, flat_ints _, ?_⟩⟩
    have e : (if false = true then !inV (.int m) ((moduliOf 3).map V.int) else inV (.int m) ((moduliOf 3).map V.int)) = true := by
      rw [if_neg Bool.false_ne_true, inV_ints, decide_eq_true hm]
    refine ⟨_, congrArg (fun b => [V.bl b, _, _]) e, ?_⟩
    refine ⟨_, rfl, a, xs, rfl, ex_t e1 hS, by omega, hR, fun H2 e2 => ⟨true, rfl, iteT ?_⟩⟩
    refine ⟨_, rfl, a, _, rfl, .inr (ex_t (e1.trans e2) hS), _, rfl, by rw [List.length_map]; exact l3, by rw [List.length_map]; exact l5, _, rfl, ?_⟩
    have m0 : 0 < m := by
      rw [show moduliOf 3 = [2, 3, 4] from rfl] at hm
      simp only [List.mem_cons, List.not_mem_nil, or_false] at hm
      omega
    exact ⟨_, rfl, _, rfl, m, a, xs, rfl, m0, ex_t (e1.trans e2) hS, by omega, fun H3 p3 e3 h3 => q H3 p3 ((e1.trans e2).trans e3) h3⟩
def spIsRuled (K : PySem.W.Frag) : Sp := fun vs H Q _ => ∃ (m : Int) (a : Addr) (xs : List Int), vs = [.int xs.length, .int m, .ref a] ∧ m ∈ moduliOf xs.length ∧ SqT K H a (xs.map V.int) ∧ 3 ≤ (xs.length : Int) ∧ (xs.length : Int) ≤ 5 ∧ IsRay xs ∧ (∀ x ∈ xs, x.natAbs < 2 ^ 63) ∧ ∀ H', Ex H H' → Q (.bl (isfor m xs)) H'
theorem mod_rule {xs : List Int} (l3 : 3 ≤ (xs.length : Int)) (l5 : (xs.length : Int) ≤ 5) {m : Int} (h : m ∈ moduliOf xs.length) : IsRule xs.length m := isRule_of (size := xs.length) (by omega) h
theorem scIsRuled : FnScope ["size", "modulus", "ray"] ["size", "modulus", "ray"] (defScope sIsRuled) := ⟨rfl, rfl, rfl, by decide +kernel, rfl, by decide +kernel, by decide +kernel⟩
theorem ok_isRuled (F : Fun K "is_ruled" "is_ruled" sIsRuled f fd) (C0 : WantC P w K mg base) (C1 : Cal P w K mg base 3 "want_rule" ["size", "modulus"] spWantRule) (C2 : Cal P w K mg base 4 "is_ray_of" ["size", "thing"] (spIsRayOf K)) (C3 : Cal P w K mg base 3 "is_ruled_by" ["modulus", "ray"] (spRuledBy K)) :
    FnOk P w K mg base CX0 5 f fd ["size", "modulus", "ray"] (spIsRuled K) := by
  refine F.ok scIsRuled (fun vs H Q E h => ?_) (fun cdv A outer s H vs Q E hr h => ?_)
  · obtain ⟨m, a, xs, rfl, _⟩ := h
    rfl
  · obtain ⟨m, a, xs, rfl, hm, hS, l3, l5, hR, hb, q⟩ := h
    refine ⟨_, pss_cons (ps_expr (pe_cal C1 (hr.mono (by decide)) (by rfl) (pa_cons (pv 0) (pa_cons (pv 1) pa_nil))))
      (pss_cons (ps_expr (pe_calD C0 (hr.mono (by decide)) (by rfl) (pa_cons (pe_cal C2 hr (by rfl) (pa_cons (pv 0) (pa_cons (pv 2) pa_nil))) (pa_cons pe_str pa_nil))))
      (pss_one (ps_ret (pe_cal C3 (hr.mono (by decide)) (by rfl) (pa_cons (pv 1) (pa_cons (pv 2) pa_nil)))))), ?_⟩
    refine ⟨_, rfl, _, rfl, _, m, rfl, l3, l5, hm, fun H1 e1 => ?_⟩
    refine ⟨_, rfl, _, rfl, a, xs, rfl, ex_t e1 hS, by omega, hR, fun H2 e2 => ⟨_, rfl, ?_⟩⟩
    exact ⟨_, rfl, _, rfl, m, a, xs, rfl, rule_pos (mod_rule l3 l5 hm), ex_t (e1.trans e2) hS, by omega, hb, fun H3 e3 => q H3 ((e1.trans e2).trans e3)⟩
def spIsMarked (K : PySem.W.Frag) : Sp := fun vs H Q _ => ∃ (m : Int) (a : Addr) (xs : List Int), vs = [.int xs.length, .int m, .ref a] ∧ m ∈ moduliOf xs.length ∧ SqT K H a (xs.map V.int) ∧ 3 ≤ (xs.length : Int) ∧ (xs.length : Int) ≤ 5 ∧ IsRay xs ∧ (∀ x ∈ xs, x.natAbs < 2 ^ 63) ∧ isfor m xs = true ∧ ∀ H', Ex H H' → Q (.bl (marks xs.length m xs)) H'
theorem scIsMarked : FnScope ["size", "modulus", "ray"] ["size", "modulus", "ray"] (defScope sIsMarked) := ⟨rfl, rfl, rfl, by decide +kernel, rfl, by decide +kernel, by decide +kernel⟩
theorem ok_isMarked (F : Fun K "is_marked" "is_marked" sIsMarked f fd) (C0 : WantC P w K mg base) (C1 : Cal P w K mg base 3 "want_rule" ["size", "modulus"] spWantRule) (C2 : Cal P w K mg base 4 "is_ray_of" ["size", "thing"] (spIsRayOf K)) (C3 : Cal P w K mg base 3 "is_ruled_by" ["modulus", "ray"] (spRuledBy K))
    (C4 : Cal P w K mg base 2 "is_marked_by" ["size", "modulus", "ray"] (spMarkedBy K)) : FnOk P w K mg base CX0 5 f fd ["size", "modulus", "ray"] (spIsMarked K) := by
  refine F.ok scIsMarked (fun vs H Q E h => ?_) (fun cdv A outer s H vs Q E hr h => ?_)
  · obtain ⟨m, a, xs, rfl, _⟩ := h
    rfl
  · obtain ⟨m, a, xs, rfl, hm, hS, l3, l5, hR, hb, hf, q⟩ := h
    refine ⟨_, pss_cons (ps_expr (pe_cal C1 (hr.mono (by decide)) (by rfl) (pa_cons (pv 0) (pa_cons (pv 1) pa_nil))))
      (pss_cons (ps_expr (pe_calD C0 (hr.mono (by decide)) (by rfl) (pa_cons (pe_and (pe_cal C2 hr (by rfl) (pa_cons (pv 0) (pa_cons (pv 2) pa_nil))) (pe_one (pe_cal C3 (hr.mono (by decide)) (by rfl) (pa_cons (pv 1) (pa_cons (pv 2) pa_nil))))) (pa_cons pe_str pa_nil))))
      (pss_one (ps_ret (pe_cal C4 (hr.mono (by decide)) (by rfl) (pa_cons (pv 0) (pa_cons (pv 1) (pa_cons (pv 2) pa_nil))))))), ?_⟩
    refine ⟨_, rfl, _, rfl, _, m, rfl, l3, l5, hm, fun H1 e1 => ?_⟩
    refine ⟨_, rfl, _, rfl, a, xs, rfl, ex_t e1 hS, by omega, hR, fun H2 e2 => ⟨true, rfl, iteT ?_⟩⟩
    refine ⟨_, rfl, _, rfl, m, a, xs, rfl, rule_pos (mod_rule l3 l5 hm), ex_t (e1.trans e2) hS, by omega, hb, fun H3 e3 => ⟨_, congrArg (fun b => [V.bl b, _, _]) hf, ?_⟩⟩
    exact ⟨_, rfl, _, rfl, _, rfl, m, a, xs, rfl, mod_rule l3 l5 hm, ex_t ((e1.trans e2).trans e3) hS, by omega, fun H4 e4 => q H4 (((e1.trans e2).trans e3).trans e4)⟩
end
end Rm

/-! ## Rm7 -/
namespace Rm
open PySem PySem.Spec PyProof.Rows L2
open Evl (Ex Ex.refl Ex.trans Ex.new Ex.mut ex_l ex_t sq_of st_of sz_of sz_lt fresh_back)
/-! ### the feed -/
def feedV (c : Addr) (spot rest k : Int) : List V := [.ref c, .int spot, .int rest, .int k]
structure FeedAt (H : Hp) (f c : Addr) (spot rest k : Int) (cells : List Int) : Prop where
  at_ : H f = some (.lst (feedV c spot rest k))
  cells_ : H c = some (.lst (cells.map V.int))
  ne : c ≠ f
/-- it stands at f, its cells at c, at most n draws were made -/
def Feed (H : Hp) (f c : Addr) (n : Nat) : Prop := ∃ (spot rest k : Int) (cells : List Int), FeedAt H f c spot rest k cells ∧ 0 ≤ spot ∧ 0 ≤ k ∧ k ≤ n ∧ cells.length ≤ 1000
/-- all but the feed stands as it stood -/
def Kp (f : Addr) (H H' : Hp) : Prop := ∀ b o, H b = some o → b ≠ f → H' b = some o
theorem Kp.refl (f : Addr) (H : Hp) : Kp f H H := fun _ _ h _ => h
theorem Kp.trans {f : Addr} {H H1 H2 : Hp} (a : Kp f H H1) (b : Kp f H1 H2) : Kp f H H2 := fun x o h hx => b x o (a x o h hx) hx
theorem Kp.ex {f : Addr} {H H1 : Hp} (e : Ex H H1) : Kp f H H1 := fun x o h _ => e x o h
theorem Kp.upd {f : Addr} {H H1 : Hp} {o : HO} (e : Kp f H H1) : Kp f H (L2.upd H1 f o) := fun x u h hx => by
  rw [upd_ne hx]
  exact e x u h hx
theorem FeedAt.ex {H H1 : Hp} {f c : Addr} {spot rest k : Int} {cells : List Int} (h : FeedAt H f c spot rest k cells) (e : Ex H H1) : FeedAt H1 f c spot rest k cells := ⟨e _ _ h.at_, e _ _ h.cells_, h.ne⟩
theorem FeedAt.set {H : Hp} {f c : Addr} {spot rest k : Int} {cells : List Int} (h : FeedAt H f c spot rest k cells) (spot2 rest2 k2 : Int) : FeedAt (upd H f (.lst (feedV c spot2 rest2 k2))) f c spot2 rest2 k2 cells :=
  ⟨upd_same, by rw [upd_ne h.ne]; exact h.cells_, h.ne⟩
theorem Feed.ex {H H1 : Hp} {f c : Addr} {n : Nat} (h : Feed H f c n) (e : Ex H H1) : Feed H1 f c n := by
  obtain ⟨spot, rest, k, cells, hf, r⟩ := h
  exact ⟨spot, rest, k, cells, hf.ex e, r⟩
theorem Feed.le {H : Hp} {f c : Addr} {n m : Nat} (h : Feed H f c n) (e : n ≤ m) : Feed H f c m := by
  obtain ⟨spot, rest, k, cells, hf, a, b, d, g⟩ := h
  exact ⟨spot, rest, k, cells, hf, a, b, by omega, g⟩
theorem Feed.lst {H : Hp} {f c : Addr} {n : Nat} (h : Feed H f c n) : ∃ xs, H f = some (.lst xs) := by
  obtain ⟨spot, rest, k, cells, hf, r⟩ := h
  exact ⟨_, hf.at_⟩
theorem Feed.ne {H : Hp} {f c p : Addr} {n : Nat} (h : Feed H f c n) (hp : H p = none) : p ≠ f := by
  obtain ⟨xs, hf⟩ := h.lst
  exact (ne_of_none hf hp).symm
theorem Feed.nec {H : Hp} {f c p : Addr} {n : Nat} (h : Feed H f c n) (hp : H p = none) : p ≠ c := by
  obtain ⟨spot, rest, k, cells, hf, r⟩ := h
  exact (ne_of_none hf.cells_ hp).symm
theorem Feed.mut {H : Hp} {f c D : Addr} {n : Nat} {o : HO} (h : Feed H f c n) (n1 : D ≠ f) (n2 : D ≠ c) : Feed (upd H D o) f c n := by
  obtain ⟨spot, rest, k, cells, hf, r⟩ := h
  exact ⟨spot, rest, k, cells, ⟨by rw [upd_ne n1.symm]; exact hf.at_, by rw [upd_ne n2.symm]; exact hf.cells_, hf.ne⟩, r⟩
theorem Kp.mut {f D : Addr} {H H1 : Hp} {o : HO} (e : Kp f H H1) (hD : H D = none) : Kp f H (L2.upd H1 D o) := fun x u h hx => by
  rw [upd_ne (ne_of_none h hD)]
  exact e x u h hx
theorem kp_t {K : PySem.W.Frag} {H H1 : Hp} {f c a : Addr} {n : Nat} {xs : List V} (hf : Feed H f c n) (e : Kp f H H1) (h : SqT K H a xs) : SqT K H1 a xs := by
  obtain ⟨ys, hf⟩ := hf.lst
  rcases h with (h | ⟨o, h⟩) | h
  · exact .inl (.inl (e _ _ h (ne_of h hf (by intro z; cases z))))
  · exact .inl (.inr ⟨o, e _ _ h (ne_of h hf (by intro z; cases z))⟩)
  · exact .inr h
theorem kp_ts {K : PySem.W.Frag} {H H1 : Hp} {f c : Addr} {n : Nat} {ps : List Addr} {nss : List (List Int)} (hf : Feed H f c n) (e : Kp f H H1) (h : Tups K H ps nss) : Tups K H1 ps nss := Paired.mapP h fun _ _ q => kp_t hf e q
section
variable {P : Program} {w : World} {K : PySem.W.Frag} {mg : Str → Option Value} {base : Heap} {f : Addr} {fd : FuncData}
/-! ### _law_source -/
def spSource (K : PySem.W.Frag) : Sp := fun vs H Q _ => ∃ (a : Addr) (ns : List Int), vs = [.ref a] ∧ SqL K H a (ns.map V.int) ∧ ns.length ≤ 63 ∧ ∀ H' f c, Feed H' f c 0 → Q (.ref f) H'
theorem cut63 (ns : List Int) (h : ns.length ≤ 63) : cutV (ns.map V.int) none (some 63) = ns.map V.int := by
  unfold cutV
  rw [HT.sIx_none, show HT.sIx (ns.map V.int).length (ns.map V.int).length (some 63) = min 63 (ns.map V.int).length from HT.sIx_nat _ _ 63, List.drop_zero, Nat.sub_zero]
  exact List.take_of_length_le (by rw [List.length_map]; omega)
theorem scSource : FnScope ["_law_script"] ["_law_script"] (defScope sSource) := ⟨rfl, rfl, rfl, by decide +kernel, rfl, by decide +kernel, by decide +kernel⟩
theorem ok_source (F : Fun K "_law_source" "_law_source" sSource f fd) : FnOk P w K mg base CX0 1 f fd ["_law_script"] (spSource K) := by
  refine F.ok scSource (fun vs H Q E h => ?_) (fun cdv A outer s H vs Q E hr h => ?_)
  · obtain ⟨a, ns, rfl, _⟩ := h
    rfl
  · obtain ⟨a, ns, rfl, hS, hl, q⟩ := h
    refine ⟨_, pss_one (ps_ret (pe_lst (pa_cons (pe_slice sl_list (pv 0) po_none (po_some pe_int)) (pa_cons pe_int (pa_cons pe_int (pa_cons pe_int pa_nil)))))), ?_⟩
    refine ⟨_, rfl, 63, rfl, a, _, rfl, hS, fun c hc => ⟨by show 4 ≤ sizeLine; decide, fun p hp => ?_⟩⟩
    rw [cut63 ns hl] at hp ⊢
    have ne : c ≠ p := fun e => by
      rw [e, upd_same] at hp
      cases hp
    refine q _ p c ⟨0, 0, 0, ns, ⟨upd_same, by rw [upd_ne ne, upd_same], ne⟩, by omega, by omega, by omega, by omega⟩
/-! ### _law_draw -/
def spDraw : Sp := fun vs H Q _ => ∃ (f c : Addr) (size : Int) (n : Nat), vs = [.ref f, .int size] ∧ Feed H f c n ∧ n ≤ 1000 ∧ 0 < size ∧ size < 1000000000 ∧ ∀ H' v, Kp f H H' → Feed H' f c (n + 1) → 0 ≤ v → v < size → Q (.int v) H'
theorem scDraw : FnScope ["_law_feed", "_law_size", "_law_found", "_law_spot", "_law_cell", "_law_mixed"] ["_law_feed", "_law_size"] (defScope sDraw) := ⟨rfl, rfl, rfl, by decide +kernel, rfl, by decide +kernel, by decide +kernel⟩
theorem sq_bound {k : Int} (h0 : 0 ≤ k) (h1 : k ≤ 1001) : 0 ≤ 17167 * k * k ∧ 17167 * k * k ≤ 17167 * 1001 * 1001 := by
  refine ⟨Int.mul_nonneg (by omega) h0, Int.mul_le_mul (by omega) h1 h0 (by omega)⟩
theorem ok_draw (F : Fun K "_law_draw" "_law_draw" sDraw f fd) (mint : mg "int" = none) (mlen : mg "len" = none) : FnOk P w K mg base CX0 1 f fd ["_law_feed", "_law_size"] spDraw := by
  refine F.ok scDraw (fun vs H Q E h => ?_) (fun cdv A outer s H vs Q E hr h => ?_)
  · obtain ⟨f, c, size, n, rfl, _⟩ := h
    rfl
  · obtain ⟨fa, c, size, n, rfl, ⟨spot, rest, k, cells, hF, s0, k0, kn, cl⟩, n1000, z0, z1, q⟩ := h
    refine ⟨_, pss_cons (ps_asg (pe_op op_add (pe_ix ix_list (pv 0) pe_int (fun _ _ => rfl)) pe_int) (pg_sub (pv 0) pe_int set_list))
      (pss_cons (ps_if (pt_cmpR op_gt (pe_ix ix_list (pv 0) pe_int (fun _ _ => rfl)) pe_int (nomark _))
        (pss_cons (ps_set (i := 2) scDraw.nd rfl (.inl rfl) (pe_op op_mod (pe_callTy call_int1 (by rfl) mint (by decide +kernel) (pa_cons (pe_ix ix_list (pv 0) pe_int (fun _ _ => rfl)) pa_nil)) (pv 1)))
        (pss_cons (ps_asg (pe_op op_fdiv (pe_ix ix_list (pv 0) pe_int (fun _ _ => rfl)) (pv 1)) (pg_sub (pv 0) pe_int set_list))
        (pss_one (ps_ret (pv 2))))) pss_nil)
      (pss_cons (ps_set (i := 3) scDraw.nd rfl (.inl rfl) (pe_ix ix_list (pv 0) pe_int (fun _ _ => rfl)))
      (pss_cons (ps_asg (pe_op op_add (pv 3) pe_int) (pg_sub (pv 0) pe_int set_list))
      (Evl.pss_cut (ps_set (i := 4) scDraw.nd rfl (.inl rfl) (pe_ifExp (pt_cmpR (op_neT hr.units) (pe_ix ix_list (pv 0) pe_int (fun _ _ => rfl)) (pe_lst pa_nil) (nomark _))
        (pe_ix ix_list (pe_ix ix_list (pv 0) pe_int (fun _ _ => rfl)) (pe_op op_mod (pe_callTy call_int1 (by rfl) mint (by decide +kernel) (pa_cons (pv 3) pa_nil)) (pe_callB call_len_seq (by rfl) mlen PySem.boot_len (pa_cons (pe_ix ix_list (pv 0) pe_int (fun _ _ => rfl)) pa_nil))) (fun _ _ => rfl)) pe_int))
      (Evl.pss_cut (ps_if (PW.pt (pw_and (pt_cmpR op_ge (pv 4) (pe_op op_pow pe_int pe_int) (nomark _)) (pw_and1 (pt_cmpR op_lt (pv 3) (pe_callB call_len_seq (by rfl) mlen PySem.boot_len (pa_cons (pe_ix ix_list (pv 0) pe_int (fun _ _ => rfl)) pa_nil)) (nomark _)))))
        (pss_cons (ps_asg (pe_op op_fdiv (pv 4) (pv 1)) (pg_sub (pv 0) pe_int set_list))
        (pss_one (ps_ret (pe_op op_mod (pe_callTy call_int1 (by rfl) mint (by decide +kernel) (pa_cons (pv 4) pa_nil)) (pv 1))))) pss_nil)
      (pss_cons (ps_set (i := 5) scDraw.nd rfl (.inl rfl) (pe_op op_mod (pe_callTy call_int1 (by rfl) mint (by decide +kernel) (pa_cons (pe_op op_pow (pe_op op_add (pe_op op_add (pe_op op_mod (pe_callTy call_int1 (by rfl) mint (by decide +kernel) (pa_cons (pv 4) pa_nil)) pe_int) (pe_op op_mul pe_int (pe_ix ix_list (pv 0) pe_int (fun _ _ => rfl)))) pe_int) pe_int) pa_nil)) pe_int))
      (pss_cons (ps_set (i := 5) scDraw.nd rfl (.inl rfl) (pe_op op_mod (pe_callTy call_int1 (by rfl) mint (by decide +kernel) (pa_cons (pe_op op_pow (pe_op op_add (pe_op op_add (pv 5) (pe_op op_mul (pe_op op_mul pe_int (pe_ix ix_list (pv 0) pe_int (fun _ _ => rfl))) (pe_ix ix_list (pv 0) pe_int (fun _ _ => rfl)))) pe_int) pe_int) pa_nil)) pe_int))
      (pss_one (ps_ret (pe_op op_mod (pe_callTy call_int1 (by rfl) mint (by decide +kernel) (pa_cons (pe_op op_fdiv (pv 5) pe_int) pa_nil)) (pv 1))))))))))), ?_⟩
    -- feed[3] = feed[3] + 1
    refine ⟨.ref fa, rfl, fa, _, 3, .int k, rfl, rfl, sq_of hF.at_, rfl, k, 1, rfl, rfl, .ref fa, rfl, fa, _, 3, 3, rfl, rfl, hF.at_, rfl, ?_⟩
    have hF1 := hF.set spot rest (k + 1)
    have e1 : Kp fa H (upd H fa (.lst (feedV c spot rest (k + 1)))) := (Kp.refl fa H).upd
    show _
    generalize hH1 : upd H fa (.lst (feedV c spot rest (k + 1))) = H1 at hF1 e1
    have hH1' : upd H fa (.lst ((feedV c spot rest k).set 3 (.int (k + 1)))) = H1 := hH1
    rw [hH1']
    -- if feed[2] > 0
    refine ⟨.ref fa, rfl, fa, _, 2, .int rest, rfl, rfl, sq_of hF1.at_, rfl, rest, 0, rfl, rfl, _, rfl, ?_⟩
    by_cases c1 : 0 < rest
    · rw [decide_eq_true c1]
      refine iteT ⟨.ref fa, rfl, fa, _, 2, .int rest, rfl, rfl, sq_of hF1.at_, rfl, .inl ⟨rest, rfl, .int size, rfl, rest, size, rfl, rfl, z0, ?_⟩⟩
      refine ⟨.ref fa, rfl, fa, _, 2, .int rest, rfl, rfl, sq_of hF1.at_, rfl, .int size, rfl, rest, size, rfl, rfl, ⟨z0, by omega⟩, .ref fa, rfl, fa, _, 2, 2, rfl, rfl, hF1.at_, rfl, ?_⟩
      refine ⟨.int (rest % size), rfl, q _ _ e1.upd ⟨spot, rest / size, k + 1, cells, hF1.set spot (rest / size) (k + 1), s0, by omega, by omega, cl⟩ (Int.emod_nonneg _ (by omega)) (Int.emod_lt_of_pos _ z0)⟩
    rw [decide_eq_false c1]
    refine iteF ?_
    -- spot = feed[1]; feed[1] = spot + 1
    refine ⟨.ref fa, rfl, fa, _, 1, .int spot, rfl, rfl, sq_of hF1.at_, rfl, .int spot, rfl, spot, 1, rfl, rfl, .ref fa, rfl, fa, _, 1, 1, rfl, rfl, hF1.at_, rfl, ?_⟩
    have hF2 := hF1.set (spot + 1) rest (k + 1)
    have e2 : Kp fa H (upd H1 fa (.lst (feedV c (spot + 1) rest (k + 1)))) := e1.upd
    generalize hH2 : upd H1 fa (.lst (feedV c (spot + 1) rest (k + 1))) = H2 at hF2 e2
    have hH2' : upd H1 fa (.lst ((feedV c spot rest (k + 1)).set 1 (.int (spot + 1)))) = H2 := hH2
    rw [hH2']
    -- cell
    refine ⟨fun σ' H' => ∃ cell : Int, σ' = [some (.ref fa), some (.int size), none, some (.int spot), some (.int cell), none] ∧ Ex H2 H', ?_, ?_⟩
    · refine ⟨.ref fa, rfl, fa, _, 0, .ref c, rfl, rfl, sq_of hF2.at_, rfl, Nat.zero_le _, fun z hz => ?_⟩
      have ez : Ex H2 (upd H2 z (.lst [])) := Ex.new hz
      have nz : c ≠ z := ne_of_none hF2.cells_ hz
      refine ⟨c, z, cells, [], rfl, rfl, .inr ⟨sq_of (ez _ _ hF2.cells_), sq_of upd_same⟩, _, rfl, ?_⟩
      by_cases c2 : cells = []
      · rw [decide_eq_true c2]
        exact iteF ⟨215, rfl, ez⟩
      · rw [decide_eq_false c2]
        have lp : 0 < cells.length := List.length_pos_iff.mpr c2
        have i0 : 0 ≤ spot % (cells.length : Int) := Int.emod_nonneg _ (by omega)
        have i1 : spot % (cells.length : Int) < cells.length := Int.emod_lt_of_pos _ (by omega)
        have hF3 := hF2.ex ez
        refine iteT ⟨.ref fa, rfl, fa, _, 0, .ref c, rfl, rfl, sq_of hF3.at_, rfl, .int spot, rfl, .inl ⟨spot, rfl, .ref fa, rfl, fa, _, 0, .ref c, rfl, rfl, sq_of hF3.at_, rfl, c, _, rfl, .inl (sq_of hF3.cells_), spot, ((cells.map V.int).length : Int), rfl, rfl, ?_, ?_⟩⟩
        · show (0 : Int) < ((cells.map V.int).length : Int)
          rw [List.length_map]
          omega
        · rw [List.length_map]
          refine ⟨c, _, spot % (cells.length : Int), .int (cells[(spot % (cells.length : Int)).toNat]'(by omega)), rfl, rfl, sq_of hF3.cells_, ?_, _, rfl, ez⟩
          refine at_of (j := (spot % (cells.length : Int)).toNat) (by omega) ?_
          rw [List.getElem?_map, List.getElem?_eq_getElem (by omega)]
          rfl
    rintro σ3 H3 ⟨cell, rfl, e23⟩
    have hF3 := hF2.ex e23
    have e3 : Kp fa H H3 := e2.trans (Kp.ex e23)
    -- if cell >= 10 ** 18 and spot < len(cells)
    have rest1 : ∀ x : Int, 0 ≤ x % size ∧ x % size < size := fun x => ⟨Int.emod_nonneg _ (by omega), Int.emod_lt_of_pos _ z0⟩
    refine ⟨fun σ' H' => σ' = [some (.ref fa), some (.int size), none, some (.int spot), some (.int cell), none] ∧ H' = H3, ?_, ?_⟩
    · refine ⟨.int cell, rfl, 10, 18, rfl, rfl, ⟨by decide, by decide, by decide⟩, cell, _, rfl, rfl, _, rfl, ?_⟩
      by_cases c3 : (10 : Int) ^ (18 : Int).toNat ≤ cell
      · rw [decide_eq_true c3]
        refine iteT ⟨.int spot, rfl, .ref fa, rfl, fa, _, 0, .ref c, rfl, rfl, sq_of hF3.at_, rfl, c, _, rfl, .inl (sq_of hF3.cells_), spot, _, rfl, rfl, _, rfl, ?_⟩
        by_cases c4 : spot < ((cells.map V.int).length : Int)
        · rw [decide_eq_true c4]
          refine iteT ⟨.int cell, rfl, .int size, rfl, cell, size, rfl, rfl, ⟨z0, by omega⟩, .ref fa, rfl, fa, _, 2, 2, rfl, rfl, hF3.at_, rfl, ?_⟩
          refine ⟨.int cell, rfl, .inl ⟨cell, rfl, .int size, rfl, cell, size, rfl, rfl, z0, ?_⟩⟩
          exact q _ _ e3.upd ⟨spot + 1, cell / size, k + 1, cells, hF3.set (spot + 1) (cell / size) (k + 1), by omega, by omega, by omega, cl⟩ (rest1 cell).1 (rest1 cell).2
        · rw [decide_eq_false c4]
          exact iteF ⟨rfl, rfl⟩
      · rw [decide_eq_false c3]
        exact iteF (iteF ⟨rfl, rfl⟩)
    rintro σ4 H4 ⟨rfl, rfl⟩
    -- the mixing
    have sb := sq_bound (k := k + 1) (by omega) (by omega)
    have m1 := Int.emod_nonneg cell (by decide : (1999998471 : Int) ≠ 0)
    have m2 := Int.emod_lt_of_pos cell (by decide : (0 : Int) < 1999998471)
    refine ⟨.int cell, rfl, .inl ⟨cell, rfl, cell, 1999998471, rfl, rfl, (by show (0 : Int) < 1999998471; decide), .ref fa, rfl, fa, _, 3, .int (k + 1), rfl, rfl, sq_of hF3.at_, rfl, 29207, k + 1, rfl, rfl, .inl ⟨by decide, by decide⟩, _, _, rfl, rfl, _, 351, rfl, rfl, _, 3, rfl, rfl, ⟨by decide, by decide, ?_⟩, .inl ⟨_, rfl, _, 2147482507, rfl, rfl, (by show (0 : Int) < 2147482507; decide), ?_⟩⟩⟩
    · omega
    generalize hm : (cell % 1999998471 + 29207 * (k + 1) + 351) ^ (3 : Int).toNat = big
    have m3 := Int.emod_nonneg big (by decide : (2147482507 : Int) ≠ 0)
    have m4 := Int.emod_lt_of_pos big (by decide : (0 : Int) < 2147482507)
    refine ⟨.int (big % 2147482507), rfl, .ref fa, rfl, fa, _, 3, .int (k + 1), rfl, rfl, sq_of hF3.at_, rfl, 17167, k + 1, rfl, rfl, .inl ⟨by decide, by decide⟩, .ref fa, rfl, fa, _, 3, .int (k + 1), rfl, rfl, sq_of hF3.at_, rfl, _, k + 1, rfl, rfl, .inl ⟨by omega, by omega⟩, _, _, rfl, rfl, _, 291, rfl, rfl, _, 5, rfl, rfl, ⟨by decide, by decide, ?_⟩, .inl ⟨_, rfl, _, 2147482373, rfl, rfl, (by show (0 : Int) < 2147482373; decide), ?_⟩⟩
    · omega
    generalize hm2 : (big % 2147482507 + 17167 * (k + 1) * (k + 1) + 291) ^ (5 : Int).toNat = big2
    refine ⟨_, rfl, _, 64, rfl, rfl, ⟨by decide, by decide⟩, .inl ⟨_, rfl, .int size, rfl, _, size, rfl, rfl, z0, ?_⟩⟩
    exact q _ _ e3 ⟨spot + 1, rest, k + 1, cells, hF3, by omega, by omega, by omega, cl⟩ (rest1 _).1 (rest1 _).2
end
end Rm

/-! ## Rm8 -/
namespace Rm
open PySem PySem.Spec PyProof.Rows L2
open Evl (Ex Ex.refl Ex.trans Ex.new Ex.mut ex_l ex_t sq_of st_of sz_of sz_lt fresh_back)
section
variable {P : Program} {w : World} {K : PySem.W.Frag} {mg : Str → Option Value} {base : Heap} {f : Addr} {fd : FuncData}
/-! ### _law_ray -/
def quoV (g s : Int) : V → V := fun x => match x with
  | .int n => .int (n / g * s)
  | _ => .non
theorem quoV_map (ns : List Int) : (ns.map V.int).map (quoV (cdiv ns : Int) (sgn (hd ns))) = (norm ns).map V.int := by
  unfold norm
  rw [List.map_map, List.map_map]
  rfl
def spRay (K : PySem.W.Frag) : Sp := fun vs H Q _ => ∃ (a : Addr) (ns : List Int), vs = [.ref a] ∧ SqL K H a (ns.map V.int) ∧ ns.length ≤ 1000 ∧ nz ns ≠ [] ∧ (∀ n ∈ ns, n.natAbs < 2 ^ 100) ∧ ∀ H' p, Ex H H' → SqT K H' p ((norm ns).map V.int) → Q (.ref p) H'
theorem scRay : FnScope ["_law_numbers", "_law_part", "_law_one", "_law_other", "_law_first"] ["_law_numbers"] (defScope sRay) := ⟨rfl, rfl, rfl, by decide +kernel, rfl, by decide +kernel, by decide +kernel⟩
theorem ok_ray (F : Fun K "_law_ray" "_law_ray" sRay f fd) (mabs : mg "abs" = none) (mint : mg "int" = none) (mtup : mg "tuple" = none) : FnOk P w K mg base CX0 1 f fd ["_law_numbers"] (spRay K) := by
  refine F.ok scRay (fun vs H Q E h => ?_) (fun cdv A outer s H vs Q E hr h => ?_)
  · obtain ⟨a, ns, rfl, _⟩ := h
    rfl
  · obtain ⟨a, ns, rfl, hS, hl, hz, hb, q⟩ := h
    refine ⟨_, pss_cons (ps_set (i := 1) scRay.nd rfl (.inr rfl) pe_int)
      (pss_cons (ps_for PassesOwn.never rfl (pi_list (pv 0)) (pg_name (i := 2) scRay.nd rfl (.inl rfl))
        (pss_cons (ps_set (i := 3) scRay.nd rfl (.inl rfl) (pe_callB call_abs (by rfl) mabs (by decide +kernel) (pa_cons (pv 2) pa_nil)))
        (pss_one (ps_while PassesOwn.never (pt_cmpR op_ne (pv 3) pe_int (nomark _))
          (pss_one (ps_asg (pe_tup (pa_cons (pv 3) (pa_cons (pe_op op_mod (pe_callTy call_int1 (by rfl) mint (by decide +kernel) (pa_cons (pv 1) pa_nil)) (pv 3)) pa_nil)))
            (pg_tup rfl (pgs_cons (pg_name (i := 1) scRay.nd rfl (.inr rfl)) (pgs_cons (pg_name (i := 3) scRay.nd rfl (.inl rfl)) pgs_nil)))))))))
      (pss_cons (ps_set (i := 4) scRay.nd rfl (.inr rfl) (pe_ix ix_list
        (pe_lc (own := [("_law_one", 2)]) (g := gName 2) rfl scRay.nd (pi_list (pv 0)) (blkOk_by (own := [("_law_one", 2)]) (N := ["_law_numbers", "_law_part", "_law_one", "_law_other", "_law_first"]) (sc := defScope sRay) (by decide +kernel))
          (fun _ _ _ _ _ => pg_name (i := 2) scRay.nd rfl (.inl rfl)) (fun _ _ _ _ _ => pts_one (pt_cmpR op_ne (pv 2) pe_int (nomark _))) (fun _ _ _ _ _ => pv 2)) pe_int (fun _ _ => rfl)))
      (pss_one (ps_ret (pe_callTy call_tuple_of (by rfl) mtup (by decide +kernel) (pa_cons
        (pe_lc (own := [("_law_one", 2)]) (g := gName 2) rfl scRay.nd (pi_list (pv 0)) (blkOk_by (own := [("_law_one", 2)]) (N := ["_law_numbers", "_law_part", "_law_one", "_law_other", "_law_first"]) (sc := defScope sRay) (by decide +kernel))
          (fun _ _ _ _ _ => pg_name (i := 2) scRay.nd rfl (.inl rfl)) (fun _ _ _ _ _ => pts_nil)
          (fun _ _ _ _ _ => pe_op op_mul (pe_op op_fdivW (pv 2) (pv 1)) (pe_ifExp (pt_cmpR op_gt (pv 4) pe_int (nomark _)) pe_int (pe_un un_neg pe_int)))) pa_nil)))))), ?_⟩
    -- the divisor
    refine ⟨_, rfl, a, rfl, ⟨_, hS⟩, for_list (K := K) (a := a) (xs := ns.map V.int) (fun i σ H' => Ex H H' ∧ ∃ y z, σ = [some (.ref a), some (.int (cdiv (ns.take i) : Nat)), y, z, none]) ⟨Ex.refl _, _, _, rfl⟩ (fun i σ H' _ h => ex_l h.1 hS) ?_ ?_⟩
    · rintro i x σ H1 hx ⟨e1, y, z, rfl⟩
      obtain ⟨n, hn, rfl⟩ := ints_at hx
      refine ⟨_, rfl, n, rfl, ?_⟩
      refine ⟨fun m σ H2 => ∃ u v : Int, σ = [some (.ref a), some (.int u), some (.int n), some (.int v), none] ∧ Ex H H2 ∧ m = v.toNat ∧ 0 ≤ u ∧ 0 ≤ v ∧ Nat.gcd u.natAbs v.natAbs = cdiv (ns.take (i + 1)),
        ⟨_, (cdiv (ns.take i) : Nat), (if n < 0 then -n else n), rfl, e1, rfl, by omega, by split <;> omega, ?_⟩, ?_⟩
      · rw [cdiv_take hn]
        have : (if n < 0 then -n else n).natAbs = n.natAbs := by split <;> omega
        rw [this]
        rfl
      · rintro m σ H2 ⟨u, v, rfl, e2, rfl, hu, hv, e⟩
        refine ⟨_, rfl, rfl, _, rfl, ?_⟩
        by_cases c : v = 0
        · subst c
          refine iteNS rfl ⟨e2, some (.int n), some (.int 0), ?_⟩
          have : ((cdiv (ns.take (i + 1)) : Nat) : Int) = u := by
            rw [← e]
            simp
            omega
          rw [this]
        · have cy : ¬ V.int v = V.int 0 := fun z => c (V.int.inj z)
          rw [decide_eq_false cy]
          refine iteT ⟨fun σ' H3 => σ' = [some (.ref a), some (.int v), some (.int n), some (.int (u % v)), none] ∧ Ex H H3, fun σ' H3 hN => ?_, ?_⟩
          · obtain ⟨rfl, e3⟩ := hN
            have hp : 0 < v := by omega
            have l1 := Int.emod_nonneg u c
            have l2 := Int.emod_lt_of_pos u hp
            refine ⟨_, ?_, v, u % v, rfl, e3, rfl, hv, l1, ?_⟩
            · omega
            · rw [Int.natAbs_emod_of_nonneg hu, ← e, Nat.gcd_comm u.natAbs, Nat.gcd_rec v.natAbs u.natAbs, Nat.gcd_comm]
          · refine ⟨_, rfl, _, rfl, .inl ⟨u, rfl, _, rfl, u, v, rfl, rfl, (by show (0 : Int) < v; omega), by show 2 ≤ sizeLine; decide, fun p hp => ?_⟩⟩
            exact ⟨p, _, rfl, st_of upd_same, rfl, _, _, rfl, _, _, rfl, rfl, rfl, e2.trans (Ex.new hp)⟩
    · rintro σ H1 ⟨e1, y, z, rfl⟩
      rw [List.length_map, List.take_length]
      -- the first that is not 0
      refine ⟨_, rfl, a, rfl, ⟨_, ex_l e1 hS⟩, lcL nzV (ex_l e1 hS) (by rw [List.length_map]; omega) ?_ ?_⟩
      · intro x H2 hx e2 R hR
        obtain ⟨n, hn, rfl⟩ := ints_mem hx
        refine ⟨rfl, _, rfl, rfl, _, rfl, ?_⟩
        by_cases z : n = 0
        · subst z
          exact iteNS rfl (hR H2 (Ex.refl _))
        · have cz : ¬ V.int n = V.int 0 := fun q => z (V.int.inj q)
          rw [decide_eq_false cz]
          have hR2 := hR H2 (Ex.refl _)
          rw [show nzV (.int n) = some (.int n) from if_neg z] at hR2
          exact iteT ⟨_, rfl, hR2⟩
      · intro D H2 hD e2 h2
        rw [nzV_map] at h2
        obtain ⟨fst, r, er⟩ : ∃ fst r, nz ns = fst :: r := by
          cases e : nz ns with
          | nil => exact absurd e hz
          | cons y r => exact ⟨y, r, rfl⟩
        have eh : hd ns = fst := by
          unfold hd
          rw [er]
          rfl
        rw [er] at h2
        have e12 := e1.trans e2
        refine ⟨D, _, 0, .int fst, rfl, rfl, sq_of h2, atI_nat (j := 0) rfl, ?_⟩
        have cp := cdiv_pos hz
        have cle : cdiv ns < 2 ^ 100 := by
          obtain ⟨n, n1, n2⟩ := nz_ex hz
          exact Nat.lt_of_le_of_lt (Nat.le_of_dvd (by omega) (cdiv_dvd n1)) (hb n n1)
        refine ⟨_, rfl, a, rfl, ⟨_, ex_l e12 hS⟩, lcLm (quoV (cdiv ns : Int) (sgn (hd ns))) (ex_l e12 hS) (by rw [List.length_map]; omega) ?_ ?_⟩
        · intro x H3 hx e3 R hR
          obtain ⟨n, hn, rfl⟩ := ints_mem hx
          have h3 := hR H3 (Ex.refl _)
          refine ⟨rfl, _, rfl, _, rfl, n, (cdiv ns : Nat), rfl, rfl, wide_div (b := 100) (by omega) (by omega) (by decide) (by decide), ?_⟩
          refine ⟨_, rfl, fst, 0, rfl, rfl, _, rfl, ?_⟩
          rw [eh] at h3
          by_cases c : 0 < fst
          · rw [decide_eq_true c]
            refine iteT ⟨_, 1, rfl, rfl, .inr ⟨by decide, by decide⟩, ?_⟩
            rw [show sgn fst = 1 from if_pos c] at h3
            exact h3
          · rw [decide_eq_false c]
            refine iteF ⟨1, rfl, _, -1, rfl, rfl, .inr ⟨by decide, by decide⟩, ?_⟩
            rw [show sgn fst = -1 from if_neg c] at h3
            exact h3
        · intro D2 H3 hD2 e3 h3
          rw [quoV_map] at h3
          exact ⟨D2, _, rfl, .inl ⟨sq_of h3, fun l hl => q _ l ((e12.trans e3).trans (Ex.new hl)) (st_of upd_same)⟩⟩
/-! ### _law_dot -/
theorem scLDot : FnScope ["_law_one", "_law_other", "_law_a", "_law_b"] ["_law_one", "_law_other"] (defScope sLDot) := ⟨rfl, rfl, rfl, by decide +kernel, rfl, by decide +kernel, by decide +kernel⟩
theorem ok_ldot (F : Fun K "_law_dot" "_law_dot" sLDot f fd) (msum : mg "sum" = none) (mzip : mg "zip" = none) : FnOk P w K mg base CX0 1 f fd ["_law_one", "_law_other"] (spDot K) := by
  refine F.ok scLDot (fun vs H Q E h => ?_) (fun cdv A outer s H vs Q E hr h => ?_)
  · obtain ⟨a, b, xs, ys, rfl, _⟩ := h
    rfl
  · obtain ⟨a, b, xs, ys, rfl, hA, hB, hl, hbd, q⟩ := h
    refine ⟨_, pss_one (ps_ret (pe_callB (cr_sum rfl) (by rfl) msum (by decide +kernel) (pa_cons
      (pe_lc (own := [("_law_a", 2), ("_law_b", 3)]) (g := gTup K 2 (gCons (gName 2) (gCons (gName 3) gNil))) rfl scLDot.nd (RZ.pi_zipA (by rfl) mzip (pa_cons (pv 0) (pa_cons (pv 1) pa_nil))) (blkOk_by (own := [("_law_a", 2), ("_law_b", 3)]) (N := ["_law_one", "_law_other", "_law_a", "_law_b"]) (sc := defScope sLDot) (by decide +kernel))
        (fun _ _ _ _ _ => pg_tup rfl (pgs_cons (pg_name (i := 2) scLDot.nd rfl (.inl rfl) (.inr rfl)) (pgs_cons (pg_name (i := 3) scLDot.nd rfl (.inl rfl) (.inr rfl)) pgs_nil)))
        (fun _ _ _ _ _ => pts_nil) (fun _ _ _ _ _ => pe_op op_mul (pv 2) (pv 3))) pa_nil))), ?_⟩
    refine ⟨_, rfl, _, rfl, a, b, xs.map V.int, ys.map V.int, rfl, .inr ⟨hA, hB, lcZm mulV _ rfl hA hB (by rw [List.length_map, List.length_map]; omega) ?_ ?_⟩⟩
    · intro i x y T H1 hx hy e1 hT R hR
      obtain ⟨x, hx', rfl⟩ := ints_at hx
      obtain ⟨y, hy', rfl⟩ := ints_at hy
      refine ⟨T, [.int x, .int y], rfl, st_of hT, rfl, .int x, [.int y], rfl, .int y, [], rfl, rfl, rfl, ?_⟩
      refine ⟨_, rfl, _, rfl, x, y, rfl, rfl, .inl ?_, hR H1 (Ex.refl _)⟩
      have := hbd x (List.mem_of_getElem? hx')
      omega
    · intro D H2 hD e2 h2
      rw [mulV_zip] at h2
      exact ⟨D, _, rfl, sq_of h2, q H2 e2⟩
end
end Rm

/-! ## Rm9 -/
namespace Rm
open PySem PySem.Spec PyProof.Rows L2
open Evl (Ex Ex.refl Ex.trans Ex.new Ex.mut ex_l ex_t sq_of st_of sz_of sz_lt fresh_back)
/-! ### displays of written tuples -/
def intsE : List Expr → Option (List Int)
  | [] => some []
  | .Constant (.int i) _ _ :: r => (intsE r).map (i :: ·)
  | _ => none
def tupsE : List Expr → Option (List (List Int))
  | [] => some []
  | .Tuple es _ _ :: r => (intsE es).bind fun ns => (tupsE r).map (ns :: ·)
  | _ => none
def tInts (ns : List Int) : TA := fun _ H Q => Q (ns.map V.int) H
def tTups (K : PySem.W.Frag) (nss : List (List Int)) : TA := fun _ H Q => ∀ H' ps, Ex H H' → Tups K H' ps nss → Q (ps.map V.ref) H'
section
variable {X : Cx}
theorem pa_imp {es : List Expr} {t u : TA} (h : PA X es t) (w : ∀ σ H Q, u σ H Q → t σ H Q) : PA X es u := ⟨fun pos pins s σ H Q I q => h.run pos pins s σ H Q I (w σ H Q q)⟩
theorem pa_intsC : ∀ {es : List Expr} {ns : List Int}, intsE es = some ns → PA X es (tInts ns)
  | [], ns, h => by
    cases h
    exact pa_nil
  | .Constant (.int i) j p :: r, ns, h => by
    unfold intsE at h
    cases e : intsE r with
    | none =>
      rw [e] at h
      cases h
    | some ms =>
      rw [e] at h
      cases h
      exact pa_imp (pa_cons pe_int (pa_intsC e)) fun _ _ _ q => q
theorem pa_tupsC : ∀ {es : List Expr} {nss : List (List Int)}, (∀ ns ∈ nss, ns.length ≤ 1000) → tupsE es = some nss → PA X es (tTups X.K nss)
  | [], ns, _, h => by
    cases h
    exact pa_imp pa_nil fun _ H Q q => q H [] (Ex.refl H) .nil
  | .Tuple es k p :: r, nss, hl, h => by
    unfold tupsE at h
    cases e : intsE es with
    | none =>
      rw [e] at h
      cases h
    | some ms =>
      cases e2 : tupsE r with
      | none =>
        rw [e, e2] at h
        cases h
      | some mss =>
        rw [e, e2] at h
        cases h
        refine pa_imp (pa_cons (pe_tup (pa_intsC e)) (pa_tupsC (fun ns hn => hl ns (List.mem_cons_of_mem _ hn)) e2)) fun σ H Q q => ?_
        refine ⟨Nat.le_of_lt (small1000 (by rw [List.length_map]; exact hl ms (List.mem_cons_self ..))), fun p hp H' ps e' t' => ?_⟩
        exact q H' (p :: ps) ((Ex.new hp).trans e') (.cons (ex_t e' (st_of upd_same)) t')
end
section
variable {P : Program} {w : World} {K : PySem.W.Frag} {mg : Str → Option Value} {base : Heap} {f : Addr} {fd : FuncData}
/-! ### _law_lists -/
def spLists (K : PySem.W.Frag) : Sp := fun vs H Q _ => ∃ size m : Int, vs = [.int size, .int m] ∧ ∀ H' l ps, Ex H H' → H' l = some (.lst (ps.map V.ref)) → Tups K H' ps (lawL size m) → Q (.ref l) H'
theorem tups_len {H : Hp} {ps : List Addr} {nss : List (List Int)} (h : Tups K H ps nss) : ps.length = nss.length := Paired.length h
theorem scLists : FnScope ["_law_size", "_law_modulus"] ["_law_size", "_law_modulus"] (defScope sLists) := ⟨rfl, rfl, rfl, by decide +kernel, rfl, by decide +kernel, by decide +kernel⟩
theorem ok_lists (F : Fun K "_law_lists" "_law_lists" sLists f fd) : FnOk P w K mg base CX0 1 f fd ["_law_size", "_law_modulus"] (spLists K) := by
  refine F.ok scLists (fun vs H Q E h => ?_) (fun cdv A outer s H vs Q E hr h => ?_)
  · obtain ⟨size, m, rfl, _⟩ := h
    rfl
  · obtain ⟨size, m, rfl, q⟩ := h
    refine ⟨_, pss_cons (ps_if (PW.pt (pw_and (pt_cmpR op_eq (pv 0) pe_int (nomark _)) (pw_and1 (pt_cmpR op_eq (pv 1) pe_int (nomark _))))) (pss_one (ps_ret (pe_lst (pa_tupsC (nss := [[0, 0, 1], [2, 2, 1], [0, 1, 1], [2, 1, 1], [1, 0, 1], [1, 2, 1], [1, 1, 2], [1, 3, 2]]) (by decide) (by rfl))))) pss_nil)
      (pss_cons (ps_if (pt_cmpR op_eq (pv 0) pe_int (nomark _)) (pss_one (ps_ret (pe_ifExp (pt_cmpR op_eq (pv 1) pe_int (nomark _)) (pe_lst (pa_tupsC (nss := [[1, 0, 0]]) (by decide) (by rfl))) (pe_lst (pa_tupsC (nss := [[0, 0, 1], [0, 1, 1], [1, 0, 1]]) (by decide) (by rfl)))))) pss_nil)
      (pss_one (ps_ret (pe_ifExp (pt_cmpR op_eq (pv 0) pe_int (nomark _)) (pe_lst (pa_tupsC (nss := [[1, 0, 0, 0], [1, 0, 1, 1]]) (by decide) (by rfl))) (pe_lst (pa_tupsC (nss := [[1, 0, 0, 0, 0], [1, 1, 1, 0, 0], [1, 0, 0, 1, 1]]) (by decide) (by rfl))))))), ?_⟩
    have fin : ∀ nss, lawL size m = nss → nss.length ≤ 1000 → ∀ H' ps, Ex H H' → Tups K H' ps nss → (ps.map V.ref).length ≤ sizeLine ∧ ∀ p, H' p = none → Q (.ref p) (upd H' p (.lst (ps.map V.ref))) := fun nss e hn H' ps e' t' => by
      refine ⟨Nat.le_of_lt (small1000 (by rw [List.length_map, tups_len t']; exact hn)), fun p hp => q _ p ps (e'.trans (Ex.new hp)) upd_same ?_⟩
      rw [e]
      exact t'.ex (Ex.new hp)
    refine ⟨_, rfl, rfl, _, rfl, ?_⟩
    by_cases c : size = 3
    · rw [decide_eq_true (congrArg V.int c)]
      refine iteT ⟨_, rfl, rfl, _, rfl, ?_⟩
      by_cases c2 : m = 4
      · rw [decide_eq_true (congrArg V.int c2)]
        exact iteT (fin _ (by unfold lawL; rw [if_pos ⟨c, c2⟩]) (by decide))
      · rw [decide_eq_false fun z => c2 (V.int.inj z)]
        refine iteF ⟨_, rfl, rfl, _, rfl, ?_⟩
        rw [decide_eq_true (congrArg V.int c)]
        refine iteT ⟨_, rfl, rfl, _, rfl, ?_⟩
        by_cases c3 : m = 2
        · rw [decide_eq_true (congrArg V.int c3)]
          exact iteT (fin _ (by unfold lawL; rw [if_neg (fun z => c2 z.2), if_pos c, if_pos c3]) (by decide))
        · rw [decide_eq_false fun z => c3 (V.int.inj z)]
          exact iteF (fin _ (by unfold lawL; rw [if_neg (fun z => c2 z.2), if_pos c, if_neg c3]) (by decide))
    · rw [decide_eq_false fun z => c (V.int.inj z)]
      refine iteF (iteF ⟨_, rfl, rfl, _, rfl, ?_⟩)
      rw [decide_eq_false fun z => c (V.int.inj z)]
      refine iteF ⟨_, rfl, rfl, _, rfl, ?_⟩
      by_cases c3 : size = 4
      · rw [decide_eq_true (congrArg V.int c3)]
        exact iteT (fin _ (by unfold lawL; rw [if_neg (fun z => c z.1), if_neg c, if_pos c3]) (by decide))
      · rw [decide_eq_false fun z => c3 (V.int.inj z)]
        exact iteF (fin _ (by unfold lawL; rw [if_neg (fun z => c z.1), if_neg c, if_neg c3]) (by decide))
/-! ### _law_is_for -/
theorem scIsFor : FnScope ["_law_modulus", "_law_ray_here", "_law_length"] ["_law_modulus", "_law_ray_here"] (defScope sIsFor) := ⟨rfl, rfl, rfl, by decide +kernel, rfl, by decide +kernel, by decide +kernel⟩
theorem ok_isFor (F : Fun K "_law_is_for" "_law_is_for" sIsFor f fd) (C : Cal P w K mg base 1 "_law_dot" ["_law_one", "_law_other"] (spDot K)) (mint : mg "int" = none) : FnOk P w K mg base CX0 2 f fd ["_law_modulus", "_law_ray_here"] (spRuledBy K) := by
  refine F.ok scIsFor (fun vs H Q E h => ?_) (fun cdv A outer s H vs Q E hr h => ?_)
  · obtain ⟨m, a, xs, rfl, _⟩ := h
    rfl
  · obtain ⟨m, a, xs, rfl, hm, hS, hl, hb, q⟩ := h
    refine ⟨_, pss_cons (ps_set (i := 2) scIsFor.nd rfl (.inl rfl) (pe_cal C hr (by rfl) (pa_cons (pv 1) (pa_cons (pv 1) pa_nil))))
      (pss_one (ps_ret (pe_ifExp (pt_cmpR op_eq (pv 0) pe_int (nomark _)) (pe_cmpR op_in_seq (pe_op op_mod (pe_callTy call_int1 (by rfl) mint (by decide +kernel) (pa_cons (pv 2) pa_nil)) pe_int) (pe_tup (pa_intsC (ns := fourthR) (by rfl))) (by rfl))
        (pe_cmpR op_ne (pe_op op_mod (pe_callTy call_int1 (by rfl) mint (by decide +kernel) (pa_cons (pv 2) pa_nil)) (pv 0)) pe_int (nomark _))))), ?_⟩
    refine ⟨_, rfl, _, rfl, a, a, xs, xs, rfl, hS, hS, hl, hb, fun H1 e1 => ?_⟩
    refine ⟨_, rfl, rfl, _, rfl, ?_⟩
    by_cases c : m = 4
    · rw [decide_eq_true (congrArg V.int c)]
      refine iteT ⟨_, rfl, .inl ⟨_, rfl, _, _, rfl, rfl, (by show (0 : Int) < 16; decide), by show 6 ≤ sizeLine; decide, fun p hp => ⟨p, _, rfl, .inr (st_of upd_same), rfl, flat_ints fourthR, ?_⟩⟩⟩
      have fin := q _ (e1.trans (Ex.new (o := .tup (fourthR.map V.int)) hp))
      unfold isfor at fin
      rw [if_pos c] at fin
      have e : (if false = true then !inV (.int (dot xs xs % 16)) (fourthR.map V.int) else inV (.int (dot xs xs % 16)) (fourthR.map V.int)) = decide (dot xs xs % 16 ∈ fourthR) := by
        rw [if_neg Bool.false_ne_true, inV_ints]
      exact qbl Q e fin
    · have fin := q H1 e1
      unfold isfor at fin
      rw [if_neg c] at fin
      rw [decide_eq_false fun z => c (V.int.inj z)]
      refine iteF ⟨_, rfl, .inl ⟨_, rfl, _, rfl, _, _, rfl, rfl, hm, rfl, ?_⟩⟩
      refine qbl Q ?_ fin
      by_cases z : dot xs xs % m = 0
      · rw [decide_eq_true (congrArg V.int z), decide_eq_false (fun n => n z)]
        rfl
      · rw [decide_eq_false (fun n => z (V.int.inj n)), decide_eq_true z]
        rfl
/-! ### _law_marks_it -/
def spMarksIt (K : PySem.W.Frag) : Sp := fun vs H Q _ => ∃ (m : Int) (a : Addr) (xs : List Int), vs = [.int m, .ref a] ∧ 0 < m ∧ SqT K H a (xs.map V.int) ∧ xs.length ≤ 1000 ∧ ∀ H', Ex H H' → Q (.bl (marks xs.length m xs)) H'
theorem scMarksIt : FnScope ["_law_modulus", "_law_ray_here", "_law_one", "_law_other", "_law_entry"] ["_law_modulus", "_law_ray_here"] (defScope sMarksIt) := ⟨rfl, rfl, rfl, by decide +kernel, rfl, by decide +kernel, by decide +kernel⟩
theorem ok_marksIt (F : Fun K "_law_marks_it" "_law_marks_it" sMarksIt f fd) (C : Cal P w K mg base 1 "_law_lists" ["_law_size", "_law_modulus"] (spLists K)) (mint : mg "int" = none) (mtup : mg "tuple" = none) (mlen : mg "len" = none) : FnOk P w K mg base CX0 2 f fd ["_law_modulus", "_law_ray_here"] (spMarksIt K) := by
  refine F.ok scMarksIt (fun vs H Q E h => ?_) (fun cdv A outer s H vs Q E hr h => ?_)
  · obtain ⟨m, a, xs, rfl, _⟩ := h
    rfl
  · obtain ⟨m, a, xs, rfl, hm, hS, hl, q⟩ := h
    refine ⟨_, pss_cons (ps_set (i := 2) scMarksIt.nd rfl (.inl rfl) (pe_callTy call_tuple_of (by rfl) mtup (by decide +kernel) (pa_cons
        (pe_lc (own := [("_law_entry", 4)]) (g := gName 4) rfl scMarksIt.nd (pi_tup (pv 1)) (blkOk_by (own := [("_law_entry", 4)]) (N := ["_law_modulus", "_law_ray_here", "_law_one", "_law_other", "_law_entry"]) (sc := defScope sMarksIt) (by decide +kernel))
          (fun _ _ _ _ _ => pg_name (i := 4) scMarksIt.nd rfl (.inl rfl)) (fun _ _ _ _ _ => pts_nil) (fun _ _ _ _ _ => pe_op op_mod (pe_callTy call_int1 (by rfl) mint (by decide +kernel) (pa_cons (pv 4) pa_nil)) (pv 0))) pa_nil)))
      (pss_cons (ps_set (i := 3) scMarksIt.nd rfl (.inl rfl) (pe_callTy call_tuple_of (by rfl) mtup (by decide +kernel) (pa_cons
        (pe_lc (own := [("_law_entry", 4)]) (g := gName 4) rfl scMarksIt.nd (pi_tup (pv 1)) (blkOk_by (own := [("_law_entry", 4)]) (N := ["_law_modulus", "_law_ray_here", "_law_one", "_law_other", "_law_entry"]) (sc := defScope sMarksIt) (by decide +kernel))
          (fun _ _ _ _ _ => pg_name (i := 4) scMarksIt.nd rfl (.inl rfl)) (fun _ _ _ _ _ => pts_nil) (fun _ _ _ _ _ => pe_op op_mod (pe_callTy call_int1 (by rfl) mint (by decide +kernel) (pa_cons (pe_un un_neg (pv 4)) pa_nil)) (pv 0))) pa_nil)))
      (pss_one (ps_ret (pe_or (pe_cmpR (op_inT hr.units) (pv 2) (pe_cal C hr (by rfl) (pa_cons (pe_callB call_len_seq (by rfl) mlen PySem.boot_len (pa_cons (pv 1) pa_nil)) (pa_cons (pv 0) pa_nil))) (by rfl))
        (pe_one (pe_cmpR (op_inT hr.units) (pv 3) (pe_cal C hr (by rfl) (pa_cons (pe_callB call_len_seq (by rfl) mlen PySem.boot_len (pa_cons (pv 1) pa_nil)) (pa_cons (pv 0) pa_nil))) (by rfl))))))), ?_⟩
    refine ⟨_, rfl, a, rfl, ⟨_, hS⟩, lcTm (modV m) hS (by rw [List.length_map]; omega) ?_ ?_⟩
    · intro x H1 hx e1 R hR
      obtain ⟨n, hn, rfl⟩ := ints_mem hx
      exact ⟨rfl, _, rfl, .inl ⟨_, rfl, _, rfl, _, _, rfl, rfl, hm, hR H1 (Ex.refl _)⟩⟩
    · intro D H1 hD e1 h1
      rw [modV_map] at h1
      refine ⟨D, _, rfl, .inl ⟨sq_of h1, fun p hp => ?_⟩⟩
      have e2 : Ex H (upd H1 p (.tup ((restp m xs).map V.int))) := e1.trans (Ex.new hp)
      have s2 : SqT K (upd H1 p (.tup ((restp m xs).map V.int))) p ((restp m xs).map V.int) := st_of upd_same
      generalize upd H1 p (.tup ((restp m xs).map V.int)) = H2 at e2 s2
      refine ⟨_, rfl, a, rfl, ⟨_, ex_t e2 hS⟩, lcTm (negV m) (ex_t e2 hS) (by rw [List.length_map]; omega) ?_ ?_⟩
      · intro x H3 hx e3 R hR
        obtain ⟨n, hn, rfl⟩ := ints_mem hx
        exact ⟨rfl, _, rfl, _, rfl, .inl ⟨_, rfl, _, rfl, _, _, rfl, rfl, hm, hR H3 (Ex.refl _)⟩⟩
      · intro D2 H3 hD2 e3 h3
        rw [negV_map] at h3
        refine ⟨D2, _, rfl, .inl ⟨sq_of h3, fun p2 hp2 => ?_⟩⟩
        have e4 : Ex H2 (upd H3 p2 (.tup ((restn m xs).map V.int))) := e3.trans (Ex.new hp2)
        have s4 : SqT K (upd H3 p2 (.tup ((restn m xs).map V.int))) p2 ((restn m xs).map V.int) := st_of upd_same
        generalize upd H3 p2 (.tup ((restn m xs).map V.int)) = H4 at e4 s4
        refine ⟨_, rfl, _, rfl, a, _, rfl, .inr (ex_t (e2.trans e4) hS), _, rfl, _, m, rfl, fun H5 l ps e5 hl5 t5 => ?_⟩
        rw [List.length_map] at t5
        refine ⟨p, l, ps, _, _, rfl, rfl, ex_t (e4.trans e5) s2, .inl (sq_of hl5), t5, _, rfl, ?_⟩
        by_cases c : restp m xs ∈ lawL xs.length m
        · rw [decide_eq_true c]
          refine iteT ?_
          refine qbl Q ?_ (q H5 ((e2.trans e4).trans e5))
          unfold marks
          rw [decide_eq_true c]
          rfl
        · rw [decide_eq_false c]
          refine iteF ⟨_, rfl, _, rfl, a, _, rfl, .inr (ex_t ((e2.trans e4).trans e5) hS), _, rfl, _, m, rfl, fun H6 l6 ps6 e6 hl6 t6 => ?_⟩
          rw [List.length_map] at t6
          refine ⟨p2, l6, ps6, _, _, rfl, rfl, ex_t (e5.trans e6) s4, .inl (sq_of hl6), t6, ?_⟩
          refine qbl Q ?_ (q H6 (((e2.trans e4).trans e5).trans e6))
          unfold marks
          rw [decide_eq_false c]
          rfl
/-! ### _law_cross -/
def spCross (K : PySem.W.Frag) : Sp := fun vs H Q _ => ∃ (a b : Addr) (xs ys : List Int), vs = [.ref a, .ref b] ∧ SqT K H a (xs.map V.int) ∧ SqT K H b (ys.map V.int) ∧ xs.length = 3 ∧ ys.length = 3 ∧ nz (cross xs ys) ≠ [] ∧ (∀ x ∈ xs, x.natAbs ≤ 1000000) ∧ (∀ y ∈ ys, y.natAbs ≤ 2 ^ 62) ∧ ∀ H' p, Ex H H' → SqT K H' p ((crossR xs ys).map V.int) → Q (.ref p) H'
theorem scCross : FnScope ["_law_one", "_law_other", "_law_a", "_law_b", "_law_c", "_law_d", "_law_e", "_law_f"] ["_law_one", "_law_other"] (defScope sCross) := ⟨rfl, rfl, rfl, by decide +kernel, rfl, by decide +kernel, by decide +kernel⟩
theorem ok_cross (F : Fun K "_law_cross" "_law_cross" sCross f fd) (C : Cal P w K mg base 1 "_law_ray" ["_law_numbers"] (spRay K)) : FnOk P w K mg base CX0 2 f fd ["_law_one", "_law_other"] (spCross K) := by
  refine F.ok scCross (fun vs H Q E h => ?_) (fun cdv A outer s H vs Q E hr h => ?_)
  · obtain ⟨a, b, xs, ys, rfl, _⟩ := h
    rfl
  · obtain ⟨a, b, xs, ys, rfl, hA, hB, lx, ly, hz, bx, bY, q⟩ := h
    obtain ⟨x1, x2, x3, rfl⟩ := list3 lx
    obtain ⟨y1, y2, y3, rfl⟩ := list3 ly
    have b1 := bx x1 (by simp)
    have b2 := bx x2 (by simp)
    have b3 := bx x3 (by simp)
    refine ⟨_, pss_cons (ps_asg (pv 0) (pg_tup rfl (pgs_cons (pg_name (i := 2) scCross.nd rfl (.inl rfl)) (pgs_cons (pg_name (i := 3) scCross.nd rfl (.inl rfl)) (pgs_cons (pg_name (i := 4) scCross.nd rfl (.inl rfl)) pgs_nil)))))
      (pss_cons (ps_asg (pv 1) (pg_tup rfl (pgs_cons (pg_name (i := 5) scCross.nd rfl (.inl rfl)) (pgs_cons (pg_name (i := 6) scCross.nd rfl (.inl rfl)) (pgs_cons (pg_name (i := 7) scCross.nd rfl (.inl rfl)) pgs_nil)))))
      (pss_one (ps_ret (pe_cal C hr (by rfl) (pa_cons (pe_lst (pa_cons (pe_op op_sub (pe_op op_mul (pv 3) (pv 7)) (pe_op op_mul (pv 4) (pv 6))) (pa_cons (pe_op op_sub (pe_op op_mul (pv 4) (pv 5)) (pe_op op_mul (pv 2) (pv 7))) (pa_cons (pe_op op_sub (pe_op op_mul (pv 2) (pv 6)) (pe_op op_mul (pv 3) (pv 5))) pa_nil)))) pa_nil))))), ?_⟩
    refine ⟨_, rfl, a, _, rfl, hA, rfl, _, _, rfl, _, _, rfl, _, _, rfl, rfl, ?_⟩
    refine ⟨_, rfl, b, _, rfl, hB, rfl, _, _, rfl, _, _, rfl, _, _, rfl, rfl, ?_⟩
    have c1 : CMul x1 y2 := .inl ⟨by omega, by omega⟩
    refine ⟨_, rfl, _, rfl, x2, y3, rfl, rfl, .inl ⟨by omega, by omega⟩, _, rfl, _, rfl, x3, y2, rfl, rfl, .inl ⟨by omega, by omega⟩, _, _, rfl, rfl,
      _, rfl, _, rfl, x3, y1, rfl, rfl, .inl ⟨by omega, by omega⟩, _, rfl, _, rfl, x1, y3, rfl, rfl, .inl ⟨by omega, by omega⟩, _, _, rfl, rfl,
      _, rfl, _, rfl, x1, y2, rfl, rfl, .inl ⟨by omega, by omega⟩, _, rfl, _, rfl, x2, y1, rfl, rfl, .inl ⟨by omega, by omega⟩, _, _, rfl, rfl, by show 3 ≤ sizeLine; decide, fun l hl => ?_⟩
    refine ⟨l, cross [x1, x2, x3] [y1, y2, y3], rfl, sq_of upd_same, by show 3 ≤ 1000; decide, hz, fun n hn => ?_, fun H1 p e1 h1 => q H1 p ((Ex.new hl).trans e1) h1⟩
    have := cross_le bx bY rfl rfl n hn
    refine Nat.lt_of_le_of_lt this (by decide)
end
end Rm

/-! ## RmA -/
namespace Rm
open PySem PySem.Spec PyProof.Rows L2
open Evl (Ex Ex.refl Ex.trans Ex.new Ex.mut ex_l ex_t sq_of st_of sz_of sz_lt fresh_back)
/-! ### comprehensions that make tuples of ints -/
theorem tups_snoc {K : PySem.W.Frag} {H : Hp} : ∀ {ps : List Addr} {nss : List (List Int)} {p : Addr} {ns : List Int}, Tups K H ps nss → SqT K H p (ns.map V.int) → Tups K H (ps ++ [p]) (nss ++ [ns])
  | _, _, _, _, .nil, h => .cons h .nil
  | _, _, _, _, .cons a t, h => .cons a (tups_snoc t h)
theorem tups_at {K : PySem.W.Frag} {H : Hp} : ∀ {ps : List Addr} {nss : List (List Int)} {i : Nat} {p : Addr} {ns : List Int}, Tups K H ps nss → ps[i]? = some p → nss[i]? = some ns → SqT K H p (ns.map V.int)
  | _, _, 0, _, _, .cons a _, h1, h2 => by
    cases h1
    cases h2
    exact a
  | _, _, i + 1, _, _, .cons _ t, h1, h2 => tups_at (i := i) t (by simpa using h1) (by simpa using h2)
  | _, _, _, _, _, .nil, h1, _ => by simp at h1
theorem sqt_upd {K : PySem.W.Frag} {H : Hp} {D a : Addr} {l : List V} {o : HO} {xs : List V} (d : H D = some (.lst l)) (h : SqT K H a xs) : SqT K (upd H D o) a xs := by
  rcases h with (h | ⟨o', h⟩) | h
  · exact .inl (.inl (by rw [upd_ne (ne_of h d (by intro z; cases z))]; exact h))
  · exact .inl (.inr ⟨o', by rw [upd_ne (ne_of h d (by intro z; cases z))]; exact h⟩)
  · exact .inr h
theorem lcJt {K : PySem.W.Frag} {J : It} {g : TG} {te : TE} {vs : List Nat} {σ : L2.St} {H0 : Hp} {Q : Addr → Hp → Prop} (nss : List (List Int)) (Y : Nat → V → Hp → Prop) (hz : nss.length ≤ 40000)
    (hgo : ∀ i H, Ex H0 H → i < nss.length → J.go i H) (hstop : ∀ H, Ex H0 H → J.stop nss.length H) (hy : ∀ i H x H', Ex H0 H → i < nss.length → J.yld i H x H' → Ex H H' ∧ Y i x H')
    (turn : ∀ i x H1 ns, nss[i]? = some ns → Ex H0 H1 → Y i x H1 → ∀ R : VK, (∀ H2 p, Ex H1 H2 → SqT K H2 p (ns.map V.int) → R (.ref p) H2) → g x (wipe σ vs) H1 fun σ2 H2 => wipe σ2 vs = wipe σ vs ∧ te σ2 H2 R)
    (k : ∀ D H2 ps, H0 D = none → Ex H0 H2 → H2 D = some (.lst (ps.map V.ref)) → Tups K H2 ps nss → Q D H2) :
    ∀ D, H0 D = none → ∃ W : Nat → Nat → Hp → Prop, (∃ m, W 0 m (upd H0 D (.lst []))) ∧ ∀ i m H, W i m H →
      (J.stop i H ∧ Q D H) ∨ (J.go i H ∧ ∃ Nx : Hp → Prop, (∀ H', Nx H' → ∃ m', m' < m ∧ W (i + 1) m' H') ∧ ∀ x H', J.yld i H x H' → g x (wipe σ vs) H' fun σ2 H2 => wipe σ2 vs = wipe σ vs ∧ tYes σ2 H2 fun b H3 =>
        if b = true then te σ2 H3 fun y H4 => ∃ acc, H4 D = some (.lst acc) ∧ acc.length < sizeLine ∧ Nx (upd H4 D (.lst (acc ++ [y]))) else Nx H3) := by
  intro D hD
  let Pv : Nat → Hp → Prop := fun i H => Ex H0 H ∧ ∃ ps, H D = some (.lst (ps.map V.ref)) ∧ Tups K H ps (nss.take i)
  refine ⟨fun i m H => m = nss.length - i ∧ i ≤ nss.length ∧ Pv i H, ⟨nss.length, by simp, Nat.zero_le _, Ex.new hD, [], upd_same, .nil⟩, ?_⟩
  rintro i m H ⟨rfl, hi, pe, ps, pd, pt⟩
  by_cases hlt : i < nss.length
  · refine .inr ⟨hgo i H pe hlt, Pv (i + 1), fun H' p' => ⟨nss.length - (i + 1), by omega, rfl, hlt, p'⟩, fun x H' y => ?_⟩
    obtain ⟨e1, hY⟩ := hy i H x H' pe hlt y
    refine turn i x H' nss[i] (List.getElem?_eq_getElem hlt) (pe.trans e1) hY (fun y H4 => ∃ acc, H4 D = some (.lst acc) ∧ acc.length < sizeLine ∧ Pv (i + 1) (upd H4 D (.lst (acc ++ [y])))) fun H2 p e2 hp => ?_
    have d2 : H2 D = some (.lst (ps.map V.ref)) := e2 _ _ (e1 _ _ pd)
    have lp : ps.length ≤ i := by
      have := Paired.length pt
      rw [List.length_take] at this
      omega
    refine ⟨_, d2, by rw [List.length_map]; exact sz_lt (by omega), Ex.mut ((pe.trans e1).trans e2) hD, ps ++ [p], ?_, ?_⟩
    · rw [upd_same, List.map_append]
      rfl
    · rw [List.take_add_one, List.getElem?_eq_getElem hlt]
      exact tups_snoc (Paired.mapP (pt.ex (e1.trans e2)) fun _ _ q => sqt_upd d2 q) (sqt_upd d2 hp)
  · have e : i = nss.length := by omega
    subst e
    rw [List.take_length] at pt
    exact .inl ⟨hstop H pe, k D H ps hD pe pd pt⟩
/-- over a tuple, over a list -/
theorem lcTt {K : PySem.W.Frag} {a : Addr} {xs : List V} {g : TG} {te : TE} {vs : List Nat} {σ : L2.St} {H0 : Hp} {Q : Addr → Hp → Prop} (nss : List (List Int)) (hl : xs.length = nss.length) (hx : SqT K H0 a xs) (hz : nss.length ≤ 40000)
    (turn : ∀ (i : Nat) (x : V) (H1 : Hp) (ns : List Int), nss[i]? = some ns → xs[i]? = some x → Ex H0 H1 → ∀ R : VK, (∀ H2 p, Ex H1 H2 → SqT K H2 p (ns.map V.int) → R (.ref p) H2) → g x (wipe σ vs) H1 fun σ2 H2 => wipe σ2 vs = wipe σ vs ∧ te σ2 H2 R)
    (k : ∀ D H2 ps, H0 D = none → Ex H0 H2 → H2 D = some (.lst (ps.map V.ref)) → Tups K H2 ps nss → Q D H2) :
    ∀ D, H0 D = none → ∃ W : Nat → Nat → Hp → Prop, (∃ m, W 0 m (upd H0 D (.lst []))) ∧ ∀ i m H, W i m H →
      ((Itt K a).stop i H ∧ Q D H) ∨ ((Itt K a).go i H ∧ ∃ Nx : Hp → Prop, (∀ H', Nx H' → ∃ m', m' < m ∧ W (i + 1) m' H') ∧ ∀ x H', (Itt K a).yld i H x H' → g x (wipe σ vs) H' fun σ2 H2 => wipe σ2 vs = wipe σ vs ∧ tYes σ2 H2 fun b H3 =>
        if b = true then te σ2 H3 fun y H4 => ∃ acc, H4 D = some (.lst acc) ∧ acc.length < sizeLine ∧ Nx (upd H4 D (.lst (acc ++ [y]))) else Nx H3) :=
  lcJt nss (fun i x _ => xs[i]? = some x) hz (fun i H e hi => ⟨xs, xs[i]'(by omega), ex_t e hx, List.getElem?_eq_getElem _⟩) (fun H e => ⟨xs, ex_t e hx, by omega⟩)
    (fun i H x H' e hi y => by
      obtain ⟨rfl, y⟩ := y
      exact ⟨Ex.refl _, y xs (ex_t e hx)⟩)
    (fun i x H1 ns hn e hY R q => turn i x H1 ns hn hY e R q) k
theorem lcLt {K : PySem.W.Frag} {a : Addr} {xs : List V} {g : TG} {te : TE} {vs : List Nat} {σ : L2.St} {H0 : Hp} {Q : Addr → Hp → Prop} (nss : List (List Int)) (hl : xs.length = nss.length) (hx : SqL K H0 a xs) (hz : nss.length ≤ 40000)
    (turn : ∀ (i : Nat) (x : V) (H1 : Hp) (ns : List Int), nss[i]? = some ns → xs[i]? = some x → Ex H0 H1 → ∀ R : VK, (∀ H2 p, Ex H1 H2 → SqT K H2 p (ns.map V.int) → R (.ref p) H2) → g x (wipe σ vs) H1 fun σ2 H2 => wipe σ2 vs = wipe σ vs ∧ te σ2 H2 R)
    (k : ∀ D H2 ps, H0 D = none → Ex H0 H2 → H2 D = some (.lst (ps.map V.ref)) → Tups K H2 ps nss → Q D H2) :
    ∀ D, H0 D = none → ∃ W : Nat → Nat → Hp → Prop, (∃ m, W 0 m (upd H0 D (.lst []))) ∧ ∀ i m H, W i m H →
      ((Itl K a).stop i H ∧ Q D H) ∨ ((Itl K a).go i H ∧ ∃ Nx : Hp → Prop, (∀ H', Nx H' → ∃ m', m' < m ∧ W (i + 1) m' H') ∧ ∀ x H', (Itl K a).yld i H x H' → g x (wipe σ vs) H' fun σ2 H2 => wipe σ2 vs = wipe σ vs ∧ tYes σ2 H2 fun b H3 =>
        if b = true then te σ2 H3 fun y H4 => ∃ acc, H4 D = some (.lst acc) ∧ acc.length < sizeLine ∧ Nx (upd H4 D (.lst (acc ++ [y]))) else Nx H3) :=
  lcJt nss (fun i x _ => xs[i]? = some x) hz (fun i H e hi => ⟨xs, xs[i]'(by omega), ex_l e hx, List.getElem?_eq_getElem _⟩) (fun H e => ⟨xs, ex_l e hx, by omega⟩)
    (fun i H x H' e hi y => by
      obtain ⟨rfl, y⟩ := y
      exact ⟨Ex.refl _, y xs (ex_l e hx)⟩)
    (fun i x H1 ns hn e hY R q => turn i x H1 ns hn hY e R q) k
section
variable {P : Program} {w : World} {K : PySem.W.Frag} {mg : Str → Option Value} {base : Heap} {f : Addr} {fd : FuncData}
/-! ### _law_some -/
def spSome (K : PySem.W.Frag) : Sp := fun vs H Q _ => ∃ (f c : Addr) (size n : Nat), vs = [.ref f, .int size] ∧ Feed H f c n ∧ n ≤ 900 ∧ (size = 3 ∨ size = 4) ∧
  ∀ H' p xs, Kp f H H' → Feed H' f c (n + 1 + size) → SqT K H' p (xs.map V.int) → IsRay xs → xs.length = size → (∀ x ∈ xs, x.natAbs ≤ 1000000) → Q (.ref p) H'
def mosts : List Int := [2, 3, 6, 40, 1000000]
theorem mosts_at {v : Int} (h0 : 0 ≤ v) (h5 : v < 5) : ∃ m, atI (mosts.map V.int) v = some (.int m) ∧ 2 ≤ m ∧ m ≤ 1000000 := by
  have : v = 0 ∨ v = 1 ∨ v = 2 ∨ v = 3 ∨ v = 4 := by omega
  rcases this with rfl | rfl | rfl | rfl | rfl
  · exact ⟨2, rfl, by decide, by decide⟩
  · exact ⟨3, rfl, by decide, by decide⟩
  · exact ⟨6, rfl, by decide, by decide⟩
  · exact ⟨40, rfl, by decide, by decide⟩
  · exact ⟨1000000, rfl, by decide, by decide⟩
theorem nz_one (r : List Int) : nz (1 :: r) ≠ [] := nz_of ⟨1, List.mem_cons_self .., by decide⟩
theorem scSome : FnScope ["_law_feed", "_law_size", "_law_most", "_law_row", "_law_k", "_law_one"] ["_law_feed", "_law_size"] (defScope sSome) := ⟨rfl, rfl, rfl, by decide +kernel, rfl, by decide +kernel, by decide +kernel⟩
theorem ok_some (F : Fun K "_law_some" "_law_some" sSome f fd) (C1 : Cal P w K mg base 1 "_law_draw" ["_law_feed", "_law_size"] spDraw) (C2 : Cal P w K mg base 1 "_law_ray" ["_law_numbers"] (spRay K)) (mrange : mg "range" = none) : FnOk P w K mg base CX0 2 f fd ["_law_feed", "_law_size"] (spSome K) := by
  refine F.ok scSome (fun vs H Q E h => ?_) (fun cdv A outer s H vs Q E hr h => ?_)
  · obtain ⟨f, c, size, n, rfl, _⟩ := h
    rfl
  · obtain ⟨fa, c, size, n, rfl, hF, hn, hs, q⟩ := h
    refine ⟨_, Evl.pss_cut (ps_set (i := 2) scSome.nd rfl (.inr rfl) (pe_ix ix_list (pe_lst (pa_cons pe_int (pa_cons pe_int (pa_cons pe_int (pa_cons pe_int (pa_cons (pe_op op_pow pe_int pe_int) pa_nil)))))) (pe_cal C1 hr (by rfl) (pa_cons (pv 0) (pa_cons pe_int pa_nil))) (fun _ _ => rfl)))
      (pss_cons (ps_setLc (i := 3) (own := [("_law_k", 4)]) (g := gName 4) (by rfl) scSome.nd rfl rfl (sw_true rfl rfl rfl (by decide +kernel)) (pi_range1 (by rfl) mrange (pa_cons (pv 1) pa_nil)) (blkOk_by (own := [("_law_k", 4)]) (N := ["_law_feed", "_law_size", "_law_most", "_law_row", "_law_k", "_law_one"]) (sc := defScope sSome) (by decide +kernel))
        (fun _ _ _ _ _ => pg_name (i := 4) scSome.nd rfl (.inl rfl)) (fun _ _ _ _ _ => pts_nil) (fun _ _ _ _ _ => pe_op op_sub (pe_cal C1 hr (by rfl) (pa_cons (pv 0) (pa_cons (pe_op op_add (pe_op op_mul pe_int (pv 2)) pe_int) pa_nil))) (pv 2)))
      (Evl.pss_cut (ps_if (pt_cmpR (op_eqT hr.units)
          (pe_lc (own := [("_law_one", 5)]) (g := gName 5) rfl scSome.nd (pi_list (pv 3)) (blkOk_by (own := [("_law_one", 5)]) (N := ["_law_feed", "_law_size", "_law_most", "_law_row", "_law_k", "_law_one"]) (sc := defScope sSome) (by decide +kernel))
            (fun _ _ _ _ _ => pg_name (i := 5) scSome.nd rfl (.inl rfl)) (fun _ _ _ _ _ => pts_one (pt_cmpR op_ne (pv 5) pe_int (nomark _))) (fun _ _ _ _ _ => pv 5)) (pe_lst pa_nil) (nomark _))
          (pss_one (ps_set (i := 3) scSome.nd rfl (.inl rfl) (pe_op op_cat (pe_lst (pa_cons pe_int pa_nil)) (pe_slice sl_list (pv 3) (po_some pe_int) po_none)))) pss_nil)
      (pss_one (ps_ret (pe_cal C2 hr (by rfl) (pa_cons (pv 3) pa_nil)))))), ?_⟩
    -- most
    refine ⟨fun σ' H' => ∃ m : Int, σ' = [some (.ref fa), some (.int size), some (.int m), none, none, none] ∧ 2 ≤ m ∧ m ≤ 1000000 ∧ Kp fa H H' ∧ Feed H' fa c (n + 1), ?_, ?_⟩
    · refine ⟨10, 6, rfl, rfl, ⟨by decide, by decide, by decide⟩, by show 5 ≤ sizeLine; decide, fun p hp => ?_⟩
      have ep : Ex H (upd H p (.lst (mosts.map V.int))) := Ex.new hp
      have np := hF.ne hp
      refine ⟨_, rfl, fa, c, 5, n, rfl, hF.ex ep, by omega, by decide, by decide, fun H1 v k1 f1 v0 v5 => ?_⟩
      obtain ⟨m, em, m2, m6⟩ := mosts_at v0 v5
      exact ⟨p, mosts.map V.int, v, .int m, rfl, rfl, sq_of (k1 _ _ upd_same np), em, m, rfl, m2, m6, (Kp.ex ep).trans k1, f1⟩
    rintro σ1 H1 ⟨m, rfl, m2, m6, k1, f1⟩
    -- row
    refine ⟨_, rfl, size, rfl, by omega, by omega, fun D hD => ?_⟩
    have nD := f1.ne hD
    have nDc := f1.nec hD
    refine lc_range (lo := 0) (n := (size : Int).toNat) (fun i H' => Kp fa H1 H' ∧ Feed H' fa c (n + 1 + i) ∧ ∃ acc : List Int, H' D = some (.lst (acc.map V.int)) ∧ acc.length = i ∧ ∀ x ∈ acc, x.natAbs ≤ 1000000) ⟨(Kp.refl _ _).mut hD, f1.ex (Ex.new hD), [], upd_same, rfl, by simp⟩ ?_ ?_
    · rintro i H2 hi ⟨k2, f2, acc, a1, a2, a3⟩
      refine ⟨rfl, _, rfl, _, rfl, 2, m, rfl, rfl, .inl ⟨by decide, by decide⟩, _, 1, rfl, rfl, fa, c, 2 * m + 1, n + 1 + i, rfl, f2, by omega, by omega, by omega, fun H3 v k3 f3 v0 v1 => ?_⟩
      have d3 := k3 _ _ a1 nD
      refine ⟨_, rfl, v, m, rfl, rfl, _, d3, by rw [List.length_map]; exact sz_lt (by omega), (k2.trans k3).mut hD, f3.mut nD nDc, acc ++ [v - m], ?_, by rw [List.length_append, a2]; rfl, fun x hx => ?_⟩
      · rw [upd_same, List.map_append]
        rfl
      · rcases List.mem_append.mp hx with hx | hx
        · exact a3 x hx
        · simp only [List.mem_cons, List.not_mem_nil, or_false] at hx
          omega
    rintro H2 ⟨k2, f2, row, r1, r2, r3⟩
    have sz : (size : Int).toNat = size := by omega
    rw [sz] at f2 r2
    -- not all 0
    refine ⟨fun σ' H' => ∃ (l : Addr) (ns : List Int) (v : Option V), σ' = [some (.ref fa), some (.int size), some (.int m), some (.ref l), v, none] ∧ Ex H2 H' ∧ SqL K H' l (ns.map V.int) ∧ ns.length = size ∧ nz ns ≠ [] ∧ ∀ x ∈ ns, x.natAbs ≤ 1000000, ?_, ?_⟩
    · refine ⟨_, rfl, D, rfl, ⟨_, sq_of r1⟩, lcL nzV (sq_of r1) (by rw [List.length_map]; omega) ?_ ?_⟩
      · intro x H3 hx e3 R hR
        obtain ⟨z, hz, rfl⟩ := ints_mem hx
        refine ⟨rfl, _, rfl, rfl, _, rfl, ?_⟩
        by_cases c0 : z = 0
        · subst c0
          exact iteNS rfl (hR H3 (Ex.refl _))
        · have cz : ¬ V.int z = V.int 0 := fun q => c0 (V.int.inj q)
          rw [decide_eq_false cz]
          have hR2 := hR H3 (Ex.refl _)
          rw [show nzV (.int z) = some (.int z) from if_neg c0] at hR2
          exact iteT ⟨_, rfl, hR2⟩
      · intro D2 H3 hD2 e3 h3
        rw [nzV_map] at h3
        refine ⟨Nat.zero_le _, fun z hz => ?_⟩
        have ez : Ex H3 (upd H3 z (.lst [])) := Ex.new hz
        refine ⟨D2, z, nz row, [], rfl, rfl, .inr ⟨sq_of (ez _ _ h3), sq_of upd_same⟩, _, rfl, ?_⟩
        have e4 := e3.trans ez
        generalize upd H3 z (.lst []) = H4 at e4
        by_cases c0 : nz row = []
        · rw [decide_eq_true c0]
          refine iteT ⟨by show 1 ≤ sizeLine; decide, fun p hp => ?_⟩
          have e5 := e4.trans (Ex.new (o := .lst [V.int 1]) hp)
          refine ⟨_, rfl, 1, rfl, D, _, rfl, sq_of (e5 _ _ r1), fun p2 hp2 => ?_⟩
          have ne : p ≠ p2 := fun e => by
            subst e
            rw [upd_same] at hp2
            cases hp2
          refine ⟨p, p2, [.int 1], _, rfl, rfl, by rw [upd_ne ne, upd_same], upd_same, ?_, fun l hl => ?_⟩
          · rw [cutV1, List.length_drop, List.length_map]
            exact sz_of (by show 1 + (row.length - 1) ≤ 100000; omega)
          · refine ⟨l, 1 :: row.drop 1, none, rfl, (e5.trans (Ex.new hp2)).trans (Ex.new hl), sq_of ?_, ?_, nz_one _, fun x hx => ?_⟩
            · rw [upd_same, cutV1, List.map_cons, List.map_drop]
              rfl
            · rw [List.length_cons, List.length_drop]
              omega
            · rcases List.mem_cons.mp hx with rfl | hx
              · decide
              · exact r3 x (List.mem_of_mem_drop hx)
        · rw [decide_eq_false c0]
          exact iteF ⟨D, row, none, rfl, e4, sq_of (e4 _ _ r1), r2, c0, r3⟩
    rintro σ3 H3 ⟨l, ns, v, rfl, e3, hl, n1, n2, n3⟩
    refine ⟨_, rfl, l, ns, rfl, hl, by omega, n2, fun x hx => Nat.lt_of_le_of_lt (n3 x hx) (by decide), fun H4 p e4 h4 => ?_⟩
    exact q H4 p (norm ns) (((k1.trans k2).trans (Kp.ex e3)).trans (Kp.ex e4)) ((f2.ex e3).ex e4) h4 (norm_ray n2) ((norm_len ns).trans n1) (norm_le n3 n2)
end
end Rm

/-! ## RmB -/
namespace Rm
open PySem PySem.Spec PyProof.Rows L2
open Evl (Ex Ex.refl Ex.trans Ex.new Ex.mut ex_l ex_t sq_of st_of sz_of sz_lt fresh_back)
theorem cut_take (xs : List Int) (k : Nat) : cutV (xs.map V.int) none (some (k : Int)) = (xs.take k).map V.int := by
  unfold cutV
  rw [HT.sIx_none, HT.sIx_nat, List.drop_zero, Nat.sub_zero, List.map_take, List.length_map]
  by_cases h : k ≤ xs.length
  · rw [Nat.min_eq_left h]
  · rw [Nat.min_eq_right (by omega), List.take_of_length_le (by rw [List.length_map]; exact Nat.le_refl _), List.take_of_length_le (by rw [List.length_map]; omega)]
theorem cut_drop (xs : List Int) (k : Nat) : cutV (xs.map V.int) (some (k : Int)) none = (xs.drop k).map V.int := by
  unfold cutV
  rw [HT.sIx_none, HT.sIx_nat, List.map_drop, List.length_map]
  by_cases h : k ≤ xs.length
  · rw [Nat.min_eq_left h]
    exact List.take_of_length_le (by rw [List.length_drop, List.length_map]; exact Nat.le_refl _)
  · rw [Nat.min_eq_right (by omega), Nat.sub_self, List.take_zero, List.drop_of_length_le (by rw [List.length_map]; omega)]
section
variable {P : Program} {w : World} {K : PySem.W.Frag} {mg : Str → Option Value} {base : Heap} {f : Addr} {fd : FuncData}
/-! ### _law_frame -/
def spFrame (K : PySem.W.Frag) : Sp := fun vs H Q _ => ∃ (f c : Addr) (size n : Nat), vs = [.ref f, .int size] ∧ Feed H f c n ∧ n ≤ 800 ∧ (size = 3 ∨ size = 4 ∨ size = 5) ∧
  ∀ H' l ps FF, Kp f H H' → Feed H' f c (n + 8) → H' l = some (.lst (ps.map V.ref)) → l ≠ f → l ≠ c → Tups K H' ps FF → FrameOk size FF → Q (.ref l) H'
abbrev nFrame : List Str := ["_law_feed", "_law_size", "_law_one", "_law_other", "_law_late", "_law_a", "_law_b", "_law_c", "_law_d", "_law_rows", "_law_k", "_law_axis", "_law_row", "_law_j"]
theorem scFrame : FnScope nFrame ["_law_feed", "_law_size"] (defScope sFrame) := ⟨rfl, rfl, rfl, by decide +kernel, rfl, by decide +kernel, by decide +kernel⟩
theorem ok_frame (F : Fun K "_law_frame" "_law_frame" sFrame f fd) (C0 : Cal P w K mg base 1 "_law_draw" ["_law_feed", "_law_size"] spDraw) (C1 : Cal P w K mg base 2 "_law_some" ["_law_feed", "_law_size"] (spSome K)) (C2 : Cal P w K mg base 1 "_law_ray" ["_law_numbers"] (spRay K))
    (C3 : Cal P w K mg base 2 "_law_cross" ["_law_one", "_law_other"] (spCross K)) (mrange : mg "range" = none) (mtup : mg "tuple" = none) : FnOk P w K mg base CX0 3 f fd ["_law_feed", "_law_size"] (spFrame K) := by
  refine F.ok scFrame (fun vs H Q E h => ?_) (fun cdv A outer s H vs Q E hr h => ?_)
  · obtain ⟨f, c, size, n, rfl, _⟩ := h
    rfl
  · obtain ⟨fa, c, size, n, rfl, hF, hn, hs, q⟩ := h
    have hr1 : Room 1 _ := hr.mono (by decide)
    refine ⟨_, pss_cons (ps_if (pt_cmpR op_eq (pv 1) pe_int (nomark _))
        (pss_cons (ps_set (i := 2) scFrame.nd rfl (.inl rfl) (pe_cal C1 hr (by rfl) (pa_cons (pv 0) (pa_cons pe_int pa_nil))))
        (pss_cons (ps_set (i := 3) scFrame.nd rfl (.inl rfl) (pe_cal C1 hr (by rfl) (pa_cons (pv 0) (pa_cons pe_int pa_nil))))
        (Evl.pss_cut (ps_if (pt_cmpR (op_eqT hr.units) (pv 2) (pv 3) (nomark _)) (pss_one (ps_set (i := 3) scFrame.nd rfl (.inl rfl)
            (pe_ifExp (pt_cmpR (op_neT hr.units) (pv 2) (pe_tup (pa_intsC (ns := [1, 0, 2]) (by rfl))) (nomark _))
              (pe_cal C2 hr1 (by rfl) (pa_cons (pe_lst (pa_cons (pe_op op_add (pe_ix ix_tup (pv 2) pe_int (fun _ _ => rfl)) pe_int) (pa_cons (pe_ix ix_tup (pv 2) pe_int (fun _ _ => rfl)) (pa_cons (pe_op op_add (pe_ix ix_tup (pv 2) pe_int (fun _ _ => rfl)) pe_int) pa_nil)))) pa_nil))
              (pe_tup (pa_intsC (ns := [0, 1, 0]) (by rfl)))))) pss_nil)
        (pss_cons (ps_set (i := 4) scFrame.nd rfl (.inl rfl) (pe_cal C3 hr (by rfl) (pa_cons (pv 2) (pa_cons (pv 3) pa_nil))))
        (pss_one (ps_ret (pe_lst (pa_cons (pv 2) (pa_cons (pv 4) (pa_cons (pe_cal C3 hr (by rfl) (pa_cons (pv 2) (pa_cons (pv 4) pa_nil))) pa_nil)))))))))) pss_nil)
      (pss_cons (ps_asg (pe_cal C1 hr (by rfl) (pa_cons (pv 0) (pa_cons pe_int pa_nil))) (pg_tup rfl (pgs_cons (pg_name (i := 5) scFrame.nd rfl (.inl rfl)) (pgs_cons (pg_name (i := 6) scFrame.nd rfl (.inl rfl)) (pgs_cons (pg_name (i := 7) scFrame.nd rfl (.inl rfl)) (pgs_cons (pg_name (i := 8) scFrame.nd rfl (.inl rfl)) pgs_nil))))))
      (pss_cons (ps_setLc (i := 9) (own := [("_law_row", 12)]) (g := gName 12) (by rfl) scFrame.nd rfl rfl (sw_true rfl rfl rfl (by decide +kernel))
        (pi_tup (pe_tup (pa_cons (pe_lst (pa_cons (pv 5) (pa_cons (pv 6) (pa_cons (pv 7) (pa_cons (pv 8) pa_nil)))))
          (pa_cons (pe_lst (pa_cons (pe_un un_neg (pv 6)) (pa_cons (pv 5) (pa_cons (pe_un un_neg (pv 8)) (pa_cons (pv 7) pa_nil)))))
          (pa_cons (pe_lst (pa_cons (pe_un un_neg (pv 7)) (pa_cons (pv 8) (pa_cons (pv 5) (pa_cons (pe_un un_neg (pv 6)) pa_nil)))))
          (pa_cons (pe_lst (pa_cons (pe_un un_neg (pv 8)) (pa_cons (pe_un un_neg (pv 7)) (pa_cons (pv 6) (pa_cons (pv 5) pa_nil))))) pa_nil))))))
        (blkOk_by (own := [("_law_row", 12)]) (N := nFrame) (sc := defScope sFrame) (by decide +kernel))
        (fun _ _ _ _ _ => pg_name (i := 12) scFrame.nd rfl (.inl rfl)) (fun _ _ _ _ _ => pts_nil) (fun _ _ _ _ _ => pe_cal C2 hr1 (by rfl) (pa_cons (pv 12) pa_nil)))
      (pss_cons (ps_if (pt_cmpR op_eq (pv 1) pe_int (nomark _)) (pss_one (ps_ret (pv 9))) pss_nil)
      (pss_cons (ps_set (i := 10) scFrame.nd rfl (.inr rfl) (pe_cal C0 hr1 (by rfl) (pa_cons (pv 0) (pa_cons pe_int pa_nil))))
      (pss_cons (ps_set (i := 11) scFrame.nd rfl (.inl rfl) (pe_callTy call_tuple_of (by rfl) mtup (by decide +kernel) (pa_cons
        (pe_lc (own := [("_law_j", 13)]) (g := gName 13) rfl scFrame.nd (pi_range1 (by rfl) mrange (pa_cons pe_int pa_nil)) (blkOk_by (own := [("_law_j", 13)]) (N := nFrame) (sc := defScope sFrame) (by decide +kernel))
          (fun _ _ _ _ _ => pg_name (i := 13) scFrame.nd rfl (.inl rfl)) (fun _ _ _ _ _ => pts_nil) (fun _ _ _ _ _ => pe_ifExp (pt_cmpR op_eq (pv 13) (pv 10) (nomark _)) pe_int pe_int)) pa_nil)))
      (pss_one (ps_ret (pe_op op_cat (pe_lst (pa_cons (pv 11) pa_nil))
        (pe_lc (own := [("_law_row", 12)]) (g := gName 12) rfl scFrame.nd (pi_list (pv 9)) (blkOk_by (own := [("_law_row", 12)]) (N := nFrame) (sc := defScope sFrame) (by decide +kernel))
          (fun _ _ _ _ _ => pg_name (i := 12) scFrame.nd rfl (.inl rfl)) (fun _ _ _ _ _ => pts_nil)
          (fun _ _ _ _ _ => pe_op (show OpR _ (binaryOp .Add) (rCatX K) from op_catX) (pe_op (show OpR _ (binaryOp .Add) (rCatX K) from op_catX) (pe_slice (show SlR _ (rSlX K) from sl_tupX) (pv 12) po_none (po_some (pv 10))) (pe_tup (pa_cons pe_int pa_nil))) (pe_slice (show SlR _ (rSlX K) from sl_tupX) (pv 12) (po_some (pv 10)) po_none))))))))))), ?_⟩
    refine ⟨_, rfl, rfl, _, rfl, ?_⟩
    by_cases s3 : size = 3
    · subst s3
      rw [decide_eq_true (show V.int ((3 : Nat) : Int) = V.int 3 from rfl)]
      refine iteT ?_
      -- one, other
      refine ⟨_, rfl, fa, c, 3, n, rfl, hF, by omega, .inl rfl, fun H1 p1 xs k1 f1 t1 r1 l1 b1 => ?_⟩
      refine ⟨_, rfl, fa, c, 3, n + 1 + 3, rfl, f1, by omega, .inl rfl, fun H2 p2 ys k2 f2 t2 r2 l2 b2 => ?_⟩
      have t12 := kp_t f1 k2 t1
      refine ⟨fun σ' H' => ∃ (b : Addr) (zs : List Int), σ' = [some (.ref fa), some (.int (3 : Nat)), some (.ref p1), some (.ref b), none, none, none, none, none, none, none, none, none, none] ∧ Ex H2 H' ∧ SqT K H' b (zs.map V.int) ∧ IsRay zs ∧ zs.length = 3 ∧ xs ≠ zs ∧ ∀ z ∈ zs, z.natAbs ≤ 1000002, ?_, ?_⟩
      · refine ⟨_, rfl, _, rfl, p1, p2, xs, ys, rfl, rfl, .inl ⟨t12, t2⟩, _, rfl, ?_⟩
        by_cases e : xs = ys
        · rw [decide_eq_true e]
          refine iteT ⟨_, rfl, by show 3 ≤ sizeLine; decide, fun p hp => ⟨p1, p, xs, [1, 0, 2], rfl, rfl, .inl ⟨ex_t (Ex.new hp) t12, st_of upd_same⟩, _, rfl, ?_⟩⟩
          have e3 : Ex H2 (upd H2 p (.tup (([1, 0, 2] : List Int).map V.int))) := Ex.new hp
          generalize upd H2 p (.tup (([1, 0, 2] : List Int).map V.int)) = H3 at e3
          obtain ⟨a0, a1, a2, ex⟩ := list3 l1
          subst ex
          obtain ⟨g1, g2, g3, g4⟩ := swap3_spec r1 b1
          by_cases e2 : [a0, a1, a2] = [1, 0, 2]
          · rw [decide_eq_true e2]
            refine iteF ⟨by show 3 ≤ sizeLine; decide, fun p' hp' => ⟨p', [0, 1, 0], rfl, e3.trans (Ex.new hp'), st_of upd_same, ?_⟩⟩
            have : swap3 [a0, a1, a2] = [0, 1, 0] := if_pos e2
            rw [this] at g1 g2 g3 g4
            exact ⟨g1, g2, g3, g4⟩
          · rw [decide_eq_false e2]
            have : swap3 [a0, a1, a2] = norm [a0 + 1, a1, a2 + 2] := if_neg e2
            rw [this] at g1 g2 g3 g4
            have t3 := ex_t e3 t12
            refine iteT ⟨_, rfl, p1, _, 0, _, rfl, rfl, t3, atI_nat (j := 0) rfl, a0, 1, rfl, rfl, _, rfl, p1, _, 1, _, rfl, rfl, t3, atI_nat (j := 1) rfl, _, rfl, p1, _, 2, _, rfl, rfl, t3, atI_nat (j := 2) rfl, a2, 2, rfl, rfl, by show 3 ≤ sizeLine; decide, fun l hl => ?_⟩
            refine ⟨l, [a0 + 1, a1, a2 + 2], rfl, sq_of upd_same, by show 3 ≤ 1000; decide, swap3_nz r1, fun x hx => ?_, fun H4 p4 e4 h4 => ⟨p4, _, rfl, (e3.trans (Ex.new hl)).trans e4, h4, g1, g2, g3, g4⟩⟩
            have i0 := b1 a0 (by simp)
            have i1 := b1 a1 (by simp)
            have i2 := b1 a2 (by simp)
            simp only [List.mem_cons, List.not_mem_nil, or_false] at hx
            have : x.natAbs ≤ 1000002 := by rcases hx with rfl | rfl | rfl <;> omega
            exact Nat.lt_of_le_of_lt this (by decide)
        · rw [decide_eq_false e]
          exact iteF ⟨p2, ys, rfl, Ex.refl _, t2, r2, l2, e, fun z hz => Nat.le_trans (b2 z hz) (by decide)⟩
      rintro σ3 H3 ⟨b, zs, rfl, e3, tz, rz, lz, ne, bz⟩
      obtain ⟨ra, la, ba, oa, _⟩ := crossR_spec r1 rz l1 lz ne b1 bz
      have t13 := ex_t e3 t12
      refine ⟨_, rfl, _, rfl, p1, b, xs, zs, rfl, t13, tz, l1, lz, cross_nz r1 rz l1 lz ne, b1, fun y hy => Nat.le_trans (bz y hy) (by decide), fun H4 p4 e4 t4 => ?_⟩
      have t14 := ex_t e4 t13
      refine ⟨_, rfl, _, rfl, _, rfl, _, rfl, p1, p4, xs, crossR xs zs, rfl, t14, t4, l1, la, cross_nz r1 ra l1 la (ray_ne_of_orth r1 oa), b1, fun y hy => Nat.le_trans (ba y hy) (by decide), fun H5 p5 e5 t5 => ⟨by show 3 ≤ sizeLine; decide, fun l hl => ?_⟩⟩
      have e6 : Ex H5 (upd H5 l (.lst [V.ref p1, .ref p4, .ref p5])) := Ex.new hl
      have f5 : Feed H5 fa c (n + 8) := ((f2.ex (e3.trans e4)).ex e5).le (by omega)
      refine q _ l [p1, p4, p5] _ (((k1.trans k2).trans (Kp.ex ((e3.trans e4).trans e5))).trans (Kp.ex e6)) (f5.ex e6) upd_same (f5.ne hl) (f5.nec hl) ?_ (frame3 r1 rz l1 lz ne b1 bz)
      exact .cons (ex_t (e5.trans e6) t14) (.cons (ex_t (e5.trans e6) t4) (.cons (ex_t e6 t5) .nil))
    -- size 4 and 5
    rw [decide_eq_false (fun z => s3 (by have := V.int.inj z; omega))]
    refine iteF ?_
    refine ⟨_, rfl, fa, c, 4, n, rfl, hF, by omega, .inr rfl, fun H1 p1 xs k1 f1 t1 r1 l1 b1 => ?_⟩
    obtain ⟨a0, b0, c0, d0, ex⟩ := list4 l1
    subst ex
    refine ⟨p1, _, rfl, t1, rfl, _, _, rfl, _, _, rfl, _, _, rfl, _, _, rfl, rfl, ?_⟩
    -- the four rows
    refine ⟨_, rfl, _, rfl, _, rfl, _, rfl, by show 4 ≤ sizeLine; decide, fun y1 hy1 => ?_⟩
    have ey1 := Ex.new (o := .lst [V.int a0, .int b0, .int c0, .int d0]) hy1
    have sy1 : SqL K (upd H1 y1 (.lst [V.int a0, .int b0, .int c0, .int d0])) y1 (([a0, b0, c0, d0] : List Int).map V.int) := sq_of upd_same
    generalize upd H1 y1 (.lst [V.int a0, .int b0, .int c0, .int d0]) = G1 at ey1 sy1
    refine ⟨_, rfl, b0, rfl, _, rfl, _, rfl, d0, rfl, _, rfl, by show 4 ≤ sizeLine; decide, fun y2 hy2 => ?_⟩
    have ey2 := Ex.new (o := .lst [V.int (-b0), .int a0, .int (-d0), .int c0]) hy2
    have sy2 : SqL K (upd G1 y2 (.lst [V.int (-b0), .int a0, .int (-d0), .int c0])) y2 (([-b0, a0, -d0, c0] : List Int).map V.int) := sq_of upd_same
    generalize upd G1 y2 (.lst [V.int (-b0), .int a0, .int (-d0), .int c0]) = G2 at ey2 sy2
    refine ⟨_, rfl, c0, rfl, _, rfl, _, rfl, _, rfl, b0, rfl, by show 4 ≤ sizeLine; decide, fun y3 hy3 => ?_⟩
    have ey3 := Ex.new (o := .lst [V.int (-c0), .int d0, .int a0, .int (-b0)]) hy3
    have sy3 : SqL K (upd G2 y3 (.lst [V.int (-c0), .int d0, .int a0, .int (-b0)])) y3 (([-c0, d0, a0, -b0] : List Int).map V.int) := sq_of upd_same
    generalize upd G2 y3 (.lst [V.int (-c0), .int d0, .int a0, .int (-b0)]) = G3 at ey3 sy3
    refine ⟨_, rfl, d0, rfl, _, rfl, c0, rfl, _, rfl, _, rfl, by show 4 ≤ sizeLine; decide, fun y4 hy4 => ?_⟩
    have ey4 := Ex.new (o := .lst [V.int (-d0), .int (-c0), .int b0, .int a0]) hy4
    have sy4 : SqL K (upd G3 y4 (.lst [V.int (-d0), .int (-c0), .int b0, .int a0])) y4 (([-d0, -c0, b0, a0] : List Int).map V.int) := sq_of upd_same
    generalize upd G3 y4 (.lst [V.int (-d0), .int (-c0), .int b0, .int a0]) = G4 at ey4 sy4
    refine ⟨by show 4 ≤ sizeLine; decide, fun y5 hy5 => ?_⟩
    have ey5 := Ex.new (o := .tup [V.ref y1, .ref y2, .ref y3, .ref y4]) hy5
    have sy5 : SqT K (upd G4 y5 (.tup [V.ref y1, .ref y2, .ref y3, .ref y4])) y5 [V.ref y1, .ref y2, .ref y3, .ref y4] := st_of upd_same
    generalize upd G4 y5 (.tup [V.ref y1, .ref y2, .ref y3, .ref y4]) = G5 at ey5 sy5
    have e15 : Ex H1 G5 := (((ey1.trans ey2).trans ey3).trans ey4).trans ey5
    have hL : ∀ (i : Nat) (x : V), [V.ref y1, .ref y2, .ref y3, .ref y4][i]? = some x → ∃ l r, x = .ref l ∧ (rows4 a0 b0 c0 d0)[i]? = some r ∧ SqL K G5 l (r.map V.int) := fun i x hx => by
      match i, hx with
      | 0, hx => exact ⟨y1, _, (Option.some.inj hx).symm, rfl, ex_l (((ey2.trans ey3).trans ey4).trans ey5) sy1⟩
      | 1, hx => exact ⟨y2, _, (Option.some.inj hx).symm, rfl, ex_l ((ey3.trans ey4).trans ey5) sy2⟩
      | 2, hx => exact ⟨y3, _, (Option.some.inj hx).symm, rfl, ex_l (ey4.trans ey5) sy3⟩
      | 3, hx => exact ⟨y4, _, (Option.some.inj hx).symm, rfl, ex_l ey5 sy4⟩
      | i + 4, hx => exact absurd hx (by simp)
    have znz := rows4_nz (nz_ex (ray_nz r1))
    have zle := rows4_le (B := 1000000) b1
    refine ⟨y5, rfl, ⟨_, sy5⟩, lcTt (frameR a0 b0 c0 d0) rfl sy5 (by show 4 ≤ 40000; decide) ?_ ?_⟩
    · intro i x G6 ns hns hx e6 R hR
      obtain ⟨l, r, rfl, hrw, hl⟩ := hL i x hx
      have hm := List.mem_of_getElem? hrw
      have en : norm r = ns := by
        unfold frameR at hns
        rw [List.getElem?_map, hrw] at hns
        exact Option.some.inj hns
      subst en
      exact ⟨rfl, _, rfl, l, r, rfl, ex_l e6 hl, by rw [rows4_len r hm]; decide, znz r hm, fun z hz => Nat.lt_of_le_of_lt (zle r hm z hz) (by decide), fun G7 p7 e7 h7 => hR G7 p7 e7 h7⟩
    intro D H2 ps hD e2 hd2 tp2
    have f2 : Feed H2 fa c (n + 1 + 4) := f1.ex (e15.trans e2)
    have nD : D ≠ fa := (f1.ex e15).ne hD
    have nDc : D ≠ c := (f1.ex e15).nec hD
    have k2 : Kp fa H H2 := k1.trans (Kp.ex (e15.trans e2))
    refine ⟨_, rfl, rfl, _, rfl, ?_⟩
    by_cases s4 : size = 4
    · subst s4
      rw [decide_eq_true (show V.int ((4 : Nat) : Int) = V.int 4 from rfl)]
      exact iteT ⟨_, rfl, q H2 D ps _ k2 (f2.le (by omega)) hd2 nD nDc tp2 (frame4 r1 b1)⟩
    have s5 : size = 5 := by omega
    subst s5
    rw [decide_eq_false (fun z => absurd (V.int.inj z) (by decide))]
    refine iteF ?_
    -- k
    refine ⟨_, rfl, fa, c, 5, n + 1 + 4, rfl, f2, by omega, by decide, by decide, fun H3 v k3 f3 v0 v5 => ?_⟩
    obtain ⟨k, rfl⟩ : ∃ k : Nat, v = (k : Int) := ⟨v.toNat, by omega⟩
    have hk : k < 5 := by omega
    have hd3 := k3 _ _ hd2 nD
    have tp3 := kp_ts f2 k3 tp2
    -- the axis
    refine ⟨5, rfl, by decide, by decide, lcRm (fun j => .int (if j = k then 1 else 0)) (by show 5 ≤ 40000; decide) ?_ ?_⟩
    · intro i G1 hi e1 R hR
      have h1 := hR G1 (Ex.refl _)
      refine ⟨rfl, _, rfl, _, rfl, rfl, _, rfl, ?_⟩
      by_cases e : i = k
      · rw [decide_eq_true (congrArg V.int (by omega : (0 : Int) + (i : Int) = (k : Int)))]
        rw [if_pos e] at h1
        exact iteT h1
      · rw [decide_eq_false (fun z => e (by have := V.int.inj z; omega))]
        rw [if_neg e] at h1
        exact iteF h1
    intro D2 H4 hD2 e4 h4
    have ea : (List.range (5 : Int).toNat).map (fun j => V.int (if j = k then 1 else 0)) = (axis5 k).map V.int := by
      unfold axis5
      rw [List.map_map]
      rfl
    rw [ea] at h4
    refine ⟨D2, _, rfl, .inl ⟨sq_of h4, fun pa hpa => ?_⟩⟩
    have e5 : Ex H3 (upd H4 pa (.tup ((axis5 k).map V.int))) := e4.trans (Ex.new hpa)
    have sa : SqT K (upd H4 pa (.tup ((axis5 k).map V.int))) pa ((axis5 k).map V.int) := st_of upd_same
    generalize upd H4 pa (.tup ((axis5 k).map V.int)) = H5 at e5 sa
    -- [axis] + the rows
    refine ⟨_, rfl, by show 1 ≤ sizeLine; decide, fun la hla => ?_⟩
    have e6 : Ex H5 (upd H5 la (.lst [V.ref pa])) := Ex.new hla
    have sl : (upd H5 la (.lst [V.ref pa])) la = some (.lst [V.ref pa]) := upd_same
    generalize upd H5 la (.lst [V.ref pa]) = H6 at e6 sl
    have e36 := e5.trans e6
    refine ⟨_, rfl, D, rfl, ⟨_, sq_of (e36 _ _ hd3)⟩, lcLt ((frameR a0 b0 c0 d0).map (ins k)) (by rw [List.length_map, List.length_map, tups_len tp3]) (sq_of (e36 _ _ hd3)) (by show 4 ≤ 40000; decide) ?_ ?_⟩
    · intro i x G1 ns hns hx e1 R hR
      rw [List.getElem?_map] at hx hns
      obtain ⟨r, hr', hns'⟩ : ∃ r, (frameR a0 b0 c0 d0)[i]? = some r ∧ ins k r = ns := by
        cases e : (frameR a0 b0 c0 d0)[i]? with
        | none =>
          rw [e] at hns
          cases hns
        | some r =>
          rw [e] at hns
          exact ⟨r, rfl, Option.some.inj hns⟩
      subst hns'
      obtain ⟨p, hp', rfl⟩ : ∃ p, ps[i]? = some p ∧ x = .ref p := by
        cases e : ps[i]? with
        | none =>
          rw [e] at hx
          cases hx
        | some p =>
          rw [e] at hx
          exact ⟨p, rfl, (Option.some.inj hx).symm⟩
      have tr : SqT K G1 p (r.map V.int) := ex_t (e36.trans e1) (tups_at tp3 hp' hr')
      have lr : r.length = 4 := ((frameR_spec r1 b1).1 r (List.mem_of_getElem? hr')).2.1
      refine ⟨rfl, _, rfl, _, rfl, k, rfl, p, _, rfl, tr, fun G2 p2 g2 h2 => ?_⟩
      rw [cut_take] at h2
      refine ⟨by show 1 ≤ sizeLine; decide, fun z hz => ?_⟩
      have gz : Ex G2 (upd G2 z (.tup [V.int 0])) := Ex.new hz
      refine ⟨p2, z, _, _, rfl, rfl, ex_t gz h2, st_of upd_same, ?_, fun G3 p3 g3 h3 => ?_⟩
      · rw [List.length_map, List.length_take, lr]
        exact sz_of (by show min k 4 + 1 ≤ 100000; omega)
      · have tr3 := ex_t ((g2.trans gz).trans g3) tr
        refine ⟨_, rfl, _, rfl, k, rfl, p, _, rfl, tr3, fun G4 p4 g4 h4 => ?_⟩
        rw [cut_drop] at h4
        refine ⟨p3, p4, _, _, rfl, rfl, ex_t g4 h3, h4, ?_, fun G5 p5 g5 h5 => ?_⟩
        · rw [List.length_append, List.length_map, List.length_map, List.length_take, List.length_drop, lr]
          exact sz_of (by show min k 4 + 1 + (4 - k) ≤ 100000; omega)
        · refine hR G5 p5 ((((g2.trans gz).trans g3).trans g4).trans g5) ?_
          have e : (r.take k).map V.int ++ [V.int 0] ++ (r.drop k).map V.int = (ins k r).map V.int := by
            unfold ins
            rw [List.map_append, List.map_cons, List.append_assoc]
            rfl
          rw [← e]
          exact h5
    intro D3 H7 ps7 hD3 e7 h7 tp7
    have nl : la ≠ D3 := fun z => by
      subst z
      rw [sl] at hD3
      cases hD3
    refine ⟨la, D3, _, _, rfl, rfl, e7 _ _ sl, h7, ?_, fun l hl => ?_⟩
    · rw [List.length_map, tups_len tp7]
      exact sz_of (by show 1 + 4 ≤ 100000; decide)
    have e8 : Ex H7 (upd H7 l (.lst ([V.ref pa] ++ ps7.map V.ref))) := Ex.new hl
    have f7 : Feed H7 fa c (n + 8) := (f3.ex (e36.trans e7)).le (by omega)
    refine q _ l (pa :: ps7) _ (((k2.trans k3).trans (Kp.ex (e36.trans e7))).trans (Kp.ex e8)) (f7.ex e8) upd_same (f7.ne hl) (f7.nec hl) ?_ (frame5 r1 b1 hk)
    exact .cons (ex_t ((e6.trans e7).trans e8) sa) (tp7.ex e8)
end
end Rm

/-! ## RmD -/
namespace Rm
open PySem PySem.Spec PyProof.Rows L2
open Evl (Ex Ex.refl Ex.trans Ex.new Ex.mut ex_l ex_t sq_of st_of sz_of sz_lt fresh_back)
theorem lex_asym : ∀ {a b : List Int}, lexLt a b = true → lexLt b a = false
  | [], [], h => by cases h
  | [], _ :: _, _ => rfl
  | _ :: _, [], h => by cases h
  | x :: a, y :: b, h => by
    have h : (if x = y then lexLt a b else decide (x < y)) = true := h
    show (if y = x then lexLt b a else decide (y < x)) = false
    by_cases e : x = y
    · rw [if_pos e] at h
      rw [if_pos e.symm]
      exact lex_asym h
    · rw [if_neg e] at h
      have := of_decide_eq_true h
      rw [if_neg (fun z => e z.symm)]
      exact decide_eq_false (by omega)
theorem lex_same : ∀ {a b : List Int}, a.length = b.length → lexLt a b = false → lexLt b a = false → a = b
  | [], [], _, _, _ => rfl
  | x :: a, y :: b, hl, h1, h2 => by
    have h1 : (if x = y then lexLt a b else decide (x < y)) = false := h1
    have h2 : (if y = x then lexLt b a else decide (y < x)) = false := h2
    by_cases e : x = y
    · rw [if_pos e] at h1
      rw [if_pos e.symm] at h2
      rw [e, lex_same (by simpa using hl) h1 h2]
    · rw [if_neg e] at h1
      rw [if_neg (fun z => e z.symm)] at h2
      have := of_decide_eq_false h1
      have := of_decide_eq_false h2
      omega
theorem lesser_min {a b : List Int} (hl : a.length = b.length) : lesser a b = if lexLt b a = true then b else a := by
  unfold lesser
  cases h : lexLt a b with
  | true => rw [lex_asym h, if_pos rfl, if_neg Bool.false_ne_true]
  | false =>
    cases h2 : lexLt b a with
    | true => rw [if_neg Bool.false_ne_true, if_pos rfl]
    | false => rw [if_neg Bool.false_ne_true, if_neg Bool.false_ne_true, lex_same hl h h2]
theorem mod_three {size m : Int} (h : m ∈ moduliOf size) : m ∈ moduliOf 3 := by
  unfold moduliOf at h
  rw [show moduliOf 3 = [2, 3, 4] from rfl]
  split at h
  · exact h
  · simp only [List.mem_cons, List.not_mem_nil, or_false] at h
    rw [h]
    decide
def sgnV (s m : Int) : V → V := fun x => match x with
  | .int e => .int (s * e % m)
  | _ => .non
theorem sgnV_one (m : Int) (xs : List Int) : (xs.map V.int).map (sgnV 1 m) = (restp m xs).map V.int := by
  unfold restp
  rw [List.map_map, List.map_map]
  refine List.map_congr_left fun x _ => ?_
  show V.int (1 * x % m) = V.int (x % m)
  rw [Int.one_mul]
theorem sgnV_neg (m : Int) (xs : List Int) : (xs.map V.int).map (sgnV (-1) m) = (restn m xs).map V.int := by
  unfold restn
  rw [List.map_map, List.map_map]
  refine List.map_congr_left fun x _ => ?_
  show V.int (-1 * x % m) = V.int (-x % m)
  rw [Int.neg_mul, Int.one_mul]
def rTupOf (K : PySem.W.Frag) : List V → Hp → VK → Prop := fun xs H Q => ∃ p ys, xs = [.ref p] ∧ ((SqL K H p ys ∧ ∀ l, H l = none → Q (.ref l) (upd H l (.tup ys))) ∨ (SqT K H p ys ∧ Q (.ref p) H))
section
variable {P : Program} {w : World} {K : PySem.W.Frag} {mg : Str → Option Value} {base : Heap} {f : Addr} {fd : FuncData}
/-! ### _law_ray_right -/
def spRayRight (K : PySem.W.Frag) : Sp := fun vs H Q _ => ∃ (a l : Addr) (xs : List Int), vs = [.ref a, .ref l] ∧ SqT K H a (xs.map V.int) ∧ SqL K H l ((moduliOf xs.length).map V.int) ∧ 3 ≤ (xs.length : Int) ∧ (xs.length : Int) ≤ 5 ∧ RayOk xs.length xs ∧ ∀ H', Ex H H' → Q (.bl true) H'
abbrev nRR : List Str := ["_law_ray_here", "_law_moduli", "_law_modulus", "_law_due", "_law_rests", "_law_sign", "_law_entry"]
def scSigns : Scope := { kind := .function, names := [(".0", .local), ("_law_sign", .cell), ("tuple", .globalImplicit), ("_law_modulus", .cell), ("_law_ray_here", .cell)], isGenerator := false, isCoroutine := false }
theorem scRayRight : FnScope nRR ["_law_ray_here", "_law_moduli"] (defScope sRayRight) := ⟨rfl, rfl, rfl, by decide +kernel, rfl, by decide +kernel, by decide +kernel⟩
theorem ok_rayRight (F : Fun K "_law_ray_right" "_law_ray_right" sRayRight f fd) (C1 : Cal P w K mg base 2 "_law_is_for" ["_law_modulus", "_law_ray_here"] (spRuledBy K)) (C2 : Cal P w K mg base 5 "is_ruled" ["size", "modulus", "ray"] (spIsRuled K)) (C3 : Cal P w K mg base 4 "rest_of" ["modulus", "ray"] (spRestOf K))
    (C4 : Cal P w K mg base 5 "is_marked" ["size", "modulus", "ray"] (spIsMarked K)) (C5 : Cal P w K mg base 2 "_law_marks_it" ["_law_modulus", "_law_ray_here"] (spMarksIt K)) (mrepr : mg "repr" = none) (mlen : mg "len" = none) (mint : mg "int" = none) (mtup : mg "tuple" = none) (mmin : mg "min" = none) :
    FnOk P w K mg base CX0 6 f fd ["_law_ray_here", "_law_moduli"] (spRayRight K) := by
  refine F.ok scRayRight (fun vs H Q E h => ?_) (fun cdv A outer s H vs Q E hr h => ?_)
  · obtain ⟨a, l, xs, rfl, _⟩ := h
    rfl
  · obtain ⟨a, l, xs, rfl, hS, hL, l3, l5, ok, q⟩ := h
    refine ⟨_, pss_cons (ps_for PassesOwn.never rfl (pi_list (pv 1)) (pg_name (i := 2) scRayRight.nd rfl (.inr rfl))
        (pss_cons (ps_set (i := 3) scRayRight.nd rfl (.inl rfl) (pe_cal C1 (hr.mono (by decide)) (by rfl) (pa_cons (pv 2) (pa_cons (pv 0) pa_nil))))
        (pss_cons (ps_if (pt_cmpR op_ne (pe_callB call_repr_bl (by rfl) mrepr (by decide +kernel) (pa_cons (pe_cal C2 hr (by rfl) (pa_cons (pe_callB call_len_seq (by rfl) mlen PySem.boot_len (pa_cons (pv 0) pa_nil)) (pa_cons (pv 2) (pa_cons (pv 0) pa_nil)))) pa_nil))
            (pe_callB call_repr_bl (by rfl) mrepr (by decide +kernel) (pa_cons (pv 3) pa_nil)) (nomark _)) (pss_one (ps_ret pe_bl)) pss_nil)
        (pss_cons (ps_setLc (i := 4) (own := [("_law_sign", 5)]) (g := gName 5) (by rfl) scRayRight.nd rfl rfl (sw_true rfl rfl rfl (by decide +kernel)) (pi_tup (pe_tup (pa_cons pe_int (pa_cons (pe_un un_neg pe_int) pa_nil)))) (blkOk_by (own := [("_law_sign", 5)]) (N := nRR) (sc := defScope sRayRight) (by decide +kernel))
            (fun _ _ _ _ _ => pg_name (i := 5) scRayRight.nd rfl (.inr rfl)) (fun _ _ _ _ _ => pts_nil)
            (fun _ _ _ _ _ => pe_callTy (show CallR _ (.type "tuple") (rTupOf K) from call_tuple_of) (by rfl) mtup (by decide +kernel) (pa_cons
              (pe_lc (own := [("_law_entry", 6)]) (g := gName 6) rfl scRayRight.nd (show PI _ _ _ (iTup K (tVar 0)) from pi_tup (pv 0)) (blkOk_by (own := [("_law_entry", 6)]) (N := nRR) (sc := scSigns) (by decide +kernel))
                (fun _ _ _ _ _ => pg_name (i := 6) scRayRight.nd rfl (.inl rfl)) (fun _ _ _ _ _ => pts_nil)
                (fun _ _ _ _ _ => pe_op op_mod (pe_callTy call_int1 (by rfl) mint (by decide +kernel) (pa_cons (pe_op op_mul (pv 5) (pv 6)) pa_nil)) (pv 2))) pa_nil)))
        (pss_cons (ps_if (pt_cmpR (op_neT hr.units) (pe_cal C3 (hr.mono (by decide)) (by rfl) (pa_cons (pv 2) (pa_cons (pv 0) pa_nil))) (pe_callB (cr_minT rfl hr.units) (by rfl) mmin (by decide +kernel) (pa_cons (pv 4) pa_nil)) (nomark _)) (pss_one (ps_ret pe_bl)) pss_nil)
        (pss_one (ps_if (pt_val (pv 3)) (pss_one (ps_if (pt_cmpR op_ne (pe_callB call_repr_bl (by rfl) mrepr (by decide +kernel) (pa_cons (pe_cal C4 hr (by rfl) (pa_cons (pe_callB call_len_seq (by rfl) mlen PySem.boot_len (pa_cons (pv 0) pa_nil)) (pa_cons (pv 2) (pa_cons (pv 0) pa_nil)))) pa_nil))
            (pe_callB call_repr_bl (by rfl) mrepr (by decide +kernel) (pa_cons (pe_cal C5 (hr.mono (by decide)) (by rfl) (pa_cons (pv 2) (pa_cons (pv 0) pa_nil))) pa_nil)) (nomark _)) (pss_one (ps_ret pe_bl)) pss_nil)) pss_nil)))))))
      (pss_one (ps_ret pe_bl)), ?_⟩
    refine ⟨_, rfl, l, rfl, ⟨_, hL⟩, for_list (K := K) (a := l) (xs := (moduliOf xs.length).map V.int) (fun i σ H' => Ex H H' ∧ ∃ y2 y3 y4, σ = [some (.ref a), some (.ref l), y2, y3, y4, none, none]) ⟨Ex.refl _, _, _, _, rfl⟩ (fun i σ H' _ h => ex_l h.1 hL) ?_ ?_⟩
    · rintro i x σ H1 hx ⟨e1, y2, y3, y4, rfl⟩
      obtain ⟨m, hm', rfl⟩ := ints_at hx
      have hm := List.mem_of_getElem? hm'
      have hR := mod_rule l3 l5 hm
      have m0 := rule_pos hR
      have t1 := ex_t e1 hS
      -- due
      refine ⟨_, rfl, _, rfl, m, a, xs, rfl, m0, t1, by omega, ok.bd, fun H2 e2 => ?_⟩
      have t2 := ex_t e2 t1
      -- is_ruled
      refine ⟨_, rfl, a, _, rfl, .inr t2, _, rfl, _, rfl, m, a, xs, by rw [List.length_map]; rfl, hm, t2, l3, l5, ok.ray, ok.bd, fun H3 e3 => ⟨_, rfl, _, rfl, _, rfl, rfl, _, rfl, iteNS rfl ?_⟩⟩
      have t3 := ex_t e3 t2
      -- rests
      refine ⟨1, rfl, by show 2 ≤ sizeLine; decide, fun tp htp => ?_⟩
      have e4 : Ex H3 (upd H3 tp (.tup [V.int 1, .int (-1)])) := Ex.new htp
      have s4 : SqT K (upd H3 tp (.tup [V.int 1, .int (-1)])) tp [V.int 1, .int (-1)] := st_of upd_same
      generalize upd H3 tp (.tup [V.int 1, .int (-1)]) = H4 at e4 s4
      have t4 := ex_t e4 t3
      refine ⟨tp, rfl, ⟨_, s4⟩, lcTt [restp m xs, restn m xs] rfl s4 (by show 2 ≤ 40000; decide) ?_ ?_⟩
      · intro j x H5 ns hns hx5 e5 R hRr
        have t5 := ex_t e5 t4
        obtain ⟨s, hs, rfl, en⟩ : ∃ s : Int, (s = 1 ∨ s = -1) ∧ x = .int s ∧ (xs.map V.int).map (sgnV s m) = ns.map V.int := by
          match j, hns, hx5 with
          | 0, hns, hx5 =>
            have e0 : restp m xs = ns := Option.some.inj hns
            exact ⟨1, .inl rfl, (Option.some.inj hx5).symm, by rw [← e0]; exact sgnV_one m xs⟩
          | 1, hns, hx5 =>
            have e0 : restn m xs = ns := Option.some.inj hns
            exact ⟨-1, .inr rfl, (Option.some.inj hx5).symm, by rw [← e0]; exact sgnV_neg m xs⟩
          | j + 2, hns, hx5 => exact absurd hx5 (by simp)
        refine ⟨rfl, _, rfl, a, rfl, ⟨_, t5⟩, lcTm (sgnV s m) t5 (by rw [List.length_map]; omega) ?_ ?_⟩
        · intro x H6 hx6 e6 R6 hR6
          obtain ⟨n, hn, rfl⟩ := ints_mem hx6
          exact ⟨rfl, _, rfl, _, rfl, s, n, rfl, rfl, .inl (by omega), .inl ⟨_, rfl, _, rfl, _, _, rfl, rfl, m0, hR6 H6 (Ex.refl _)⟩⟩
        · intro D6 H6 hD6 e6 h6
          rw [en] at h6
          exact ⟨D6, _, rfl, .inl ⟨sq_of h6, fun p hp => hRr _ p (e6.trans (Ex.new hp)) (st_of upd_same)⟩⟩
      intro D H5 ps hD e5 h5 tp5
      have t5 := ex_t e5 t4
      -- rest_of, min
      refine ⟨_, rfl, _, rfl, m, a, xs, rfl, mod_three hm, t5, l3, l5, ok.ray, fun H6 p6 e6 t6 => ?_⟩
      match ps, tp5 with
      | [pa, pb], .cons ta (.cons tb .nil) =>
        have hlen : (restp m xs).length = (restn m xs).length := by
          unfold restp restn
          rw [List.length_map, List.length_map]
        refine ⟨_, rfl, D, pa, pb, restp m xs, restn m xs, rfl, sq_of (e6 _ _ h5), ex_t e6 ta, ex_t e6 tb, hlen, fun r hr' => ?_⟩
        refine ⟨p6, r, _, _, rfl, rfl, .inl ⟨t6, hr'⟩, _, rfl, iteNS (lesser_min hlen) ?_⟩
        have e16 := ((((e2.trans e3).trans e4).trans e5).trans e6)
        -- if due
        refine ⟨_, rfl, isfor m xs, rfl, ?_⟩
        cases hf : isfor m xs with
        | false => exact iteF ⟨e1.trans e16, _, _, _, rfl⟩
        | true =>
          have t7 := ex_t e6 t5
          refine iteT ⟨_, rfl, a, _, rfl, .inr t7, _, rfl, _, rfl, m, a, xs, by rw [List.length_map]; rfl, hm, t7, l3, l5, ok.ray, ok.bd, hf, fun H8 e8 => ⟨_, rfl, ?_⟩⟩
          refine ⟨_, rfl, _, rfl, m, a, xs, rfl, m0, ex_t e8 t7, by omega, fun H9 e9 => ⟨_, rfl, rfl, _, rfl, iteNS rfl ?_⟩⟩
          exact ⟨((e1.trans e16).trans e8).trans e9, _, _, _, rfl⟩
    · rintro σ H1 ⟨e1, y2, y3, y4, rfl⟩
      exact q H1 e1
end
end Rm

/-! ## RmE -/
namespace Rm
open PySem PySem.Spec PyProof.Rows L2
open Evl (Ex Ex.refl Ex.trans Ex.new Ex.mut ex_l ex_t sq_of st_of sz_of sz_lt fresh_back)
theorem somePs_asc : somePs.Pairwise (· < ·) := by decide
def unV (xs : List Int) : V → Option V := fun x => match x with
  | .int m => if isfor m xs = true then none else some (.int m)
  | _ => none
theorem unV_map (xs : List Int) : ∀ ms : List Int, (ms.map V.int).filterMap (unV xs) = (ms.filter fun m => !isfor m xs).map V.int
  | [] => rfl
  | m :: ms => by
    have ih := unV_map xs ms
    rw [List.map_cons, List.filter_cons]
    cases h : isfor m xs with
    | true =>
      have e : unV xs (V.int m) = none := if_pos h
      rw [List.filterMap_cons_none e, if_neg (by decide)]
      exact ih
    | false =>
      have e : unV xs (V.int m) = some (V.int m) := if_neg (by rw [h]; decide)
      rw [List.filterMap_cons_some e, if_pos (by decide), List.map_cons, ih]
theorem for_pos {size m : Int} {ps : List Int} (h : m ∈ moduliFor size ps) : 0 < m := by
  unfold moduliFor at h
  rcases List.mem_append.mp h with h | h
  · split at h
    · simp only [List.mem_cons, List.not_mem_nil, or_false] at h; omega
    · cases h
  · rcases List.mem_append.mp h with h | h
    · split at h
      · simp only [List.mem_cons, List.not_mem_nil, or_false] at h; omega
      · cases h
    · split at h
      · simp only [List.mem_cons, List.not_mem_nil, or_false] at h; omega
      · cases h
theorem moduliFor_len (size : Int) (ps : List Int) : (moduliFor size ps).length ≤ 3 := by
  unfold moduliFor
  rw [List.length_append, List.length_append]
  split <;> split <;> split <;> decide
section
variable {P : Program} {w : World} {K : PySem.W.Frag} {mg : Str → Option Value} {base : Heap} {f : Addr} {fd : FuncData}
/-! ### _law_class_right -/
def spClsRight (K : PySem.W.Frag) : Sp := fun vs H Q _ => ∃ (f c a : Addr) (xs : List Int) (n : Nat), vs = [.ref f, .ref a] ∧ Feed H f c n ∧ n ≤ 900 ∧ SqT K H a (xs.map V.int) ∧ 3 ≤ (xs.length : Int) ∧ (xs.length : Int) ≤ 5 ∧ RayOk xs.length xs ∧ ∀ H', Kp f H H' → Feed H' f c (n + 7) → Q (.bl true) H'
abbrev nCR : List Str := ["_law_feed", "_law_ray_here", "_law_p", "_law_primes", "_law_left", "_law_lap", "_law_modulus"]
theorem scClsRight : FnScope nCR ["_law_feed", "_law_ray_here"] (defScope sClsRight) := ⟨rfl, rfl, rfl, by decide +kernel, rfl, by decide +kernel, by decide +kernel⟩
theorem ok_clsRight (F : Fun K "_law_class_right" "_law_class_right" sClsRight f fd) (C0 : Cal P w K mg base 1 "_law_draw" ["_law_feed", "_law_size"] spDraw) (C1 : Cal P w K mg base 1 "_law_dot" ["_law_one", "_law_other"] (spDot K)) (C2 : Cal P w K mg base 5 "is_in_class" ["size", "primes", "ray"] (spInCls K))
    (C3 : Cal P w K mg base 5 "rules_for" ["size", "primes"] (spRulesFor K)) (C4 : Cal P w K mg base 2 "_law_is_for" ["_law_modulus", "_law_ray_here"] (spRuledBy K)) (mrepr : mg "repr" = none) (mlen : mg "len" = none) (mint : mg "int" = none) (mtup : mg "tuple" = none) (mrange : mg "range" = none) :
    FnOk P w K mg base CX0 6 f fd ["_law_feed", "_law_ray_here"] (spClsRight K) := by
  refine F.ok scClsRight (fun vs H Q E h => ?_) (fun cdv A outer s H vs Q E hr h => ?_)
  · obtain ⟨f, c, a, xs, n, rfl, _⟩ := h
    rfl
  · obtain ⟨fa, c, a, xs, n, rfl, hF, hn, hS, l3, l5, ok, q⟩ := h
    have hr1 : Room 1 _ := hr.mono (by decide)
    refine ⟨_, pss_cons (ps_set (i := 3) scClsRight.nd rfl (.inl rfl) (pe_callTy call_tuple_of (by rfl) mtup (by decide +kernel) (pa_cons
        (pe_lc (own := [("_law_p", 2)]) (g := gName 2) rfl scClsRight.nd (pi_tup (pe_tup (pa_intsC (ns := somePs) (by rfl)))) (blkOk_by (own := [("_law_p", 2)]) (N := nCR) (sc := defScope sClsRight) (by decide +kernel))
          (fun _ _ _ _ _ => pg_name (i := 2) scClsRight.nd rfl (.inl rfl)) (fun _ _ _ _ _ => pts_one (pt_cmpR op_eq (pe_cal C0 hr1 (by rfl) (pa_cons (pv 0) (pa_cons pe_int pa_nil))) pe_int (nomark _))) (fun _ _ _ _ _ => pv 2)) pa_nil)))
      (pss_cons (ps_set (i := 4) scClsRight.nd rfl (.inl rfl) (pe_cal C1 hr1 (by rfl) (pa_cons (pv 1) (pa_cons (pv 1) pa_nil))))
      (pss_cons (ps_for PassesOwn.never rfl (pi_tup (pv 3)) (pg_name (i := 2) scClsRight.nd rfl (.inl rfl))
        (pss_one (ps_for PassesOwn.never rfl (pi_range1 (by rfl) mrange (pa_cons pe_int pa_nil)) (pg_name (i := 5) scClsRight.nd rfl (.inl rfl))
          (pss_one (ps_set (i := 4) scClsRight.nd rfl (.inl rfl) (pe_ifExp (pt_cmpR op_eq (pe_op op_mod (pe_callTy call_int1 (by rfl) mint (by decide +kernel) (pa_cons (pv 4) pa_nil)) (pv 2)) pe_int (nomark _)) (pe_op op_fdiv (pv 4) (pv 2)) (pv 4)))))))
      (pss_cons (ps_if (pt_cmpR op_ne (pe_callB call_repr_bl (by rfl) mrepr (by decide +kernel) (pa_cons (pe_cal C2 hr (by rfl) (pa_cons (pe_callB call_len_seq (by rfl) mlen PySem.boot_len (pa_cons (pv 1) pa_nil)) (pa_cons (pv 3) (pa_cons (pv 1) pa_nil)))) pa_nil))
          (pe_callB call_repr_bl (by rfl) mrepr (by decide +kernel) (pa_cons (pe_cmpR op_eq (pv 4) pe_int (nomark _)) pa_nil)) (nomark _)) (pss_one (ps_ret pe_bl)) pss_nil)
      (pss_cons (ps_if (pt_cmpR op_eq (pv 4) pe_int (nomark _)) (pss_one (ps_ret (pe_cmpR (op_eqT hr.units)
          (pe_lc (own := [("_law_modulus", 6)]) (g := gName 6) rfl scClsRight.nd (pi_tup (pe_cal C3 hr (by rfl) (pa_cons (pe_callB call_len_seq (by rfl) mlen PySem.boot_len (pa_cons (pv 1) pa_nil)) (pa_cons (pv 3) pa_nil)))) (blkOk_by (own := [("_law_modulus", 6)]) (N := nCR) (sc := defScope sClsRight) (by decide +kernel))
            (fun _ _ _ _ _ => pg_name (i := 6) scClsRight.nd rfl (.inl rfl)) (fun _ _ _ _ _ => pts_one (pt_not (pt_val (pe_cal C4 (hr.mono (by decide)) (by rfl) (pa_cons (pv 6) (pa_cons (pv 1) pa_nil)))))) (fun _ _ _ _ _ => pv 6)) (pe_lst pa_nil) (nomark _)))) pss_nil)
      (pss_one (ps_ret pe_bl)))))), ?_⟩
    -- the primes
    refine ⟨by show 7 ≤ sizeLine; decide, fun tp htp => ?_⟩
    have e0 : Ex H (upd H tp (.tup (somePs.map V.int))) := Ex.new htp
    have s0 : SqT K (upd H tp (.tup (somePs.map V.int))) tp (somePs.map V.int) := st_of upd_same
    generalize upd H tp (.tup (somePs.map V.int)) = H0 at e0 s0
    have f0 := hF.ex e0
    refine ⟨tp, rfl, ⟨_, s0⟩, fun D hD => ?_⟩
    have nD := f0.ne hD
    have nDc := f0.nec hD
    refine lc_tup (K := K) (a := tp) (xs := somePs.map V.int) (fun i H' => Kp fa H0 H' ∧ Feed H' fa c (n + i) ∧ ∃ ps : List Int, H' D = some (.lst (ps.map V.int)) ∧ ps.Sublist (somePs.take i)) ⟨(Kp.refl _ _).mut hD, f0.ex (Ex.new hD), [], upd_same, List.Sublist.slnil⟩ (fun i H' _ h => kp_t f0 h.1 s0) ?_ ?_
    · rintro i x H1 hx ⟨k1, f1, ps, p1, p2⟩
      obtain ⟨p, hp, rfl⟩ := ints_at hx
      have hi : i < 7 := (List.getElem?_eq_some_iff.mp hp).1
      have et : somePs.take (i + 1) = somePs.take i ++ [p] := by
        rw [List.take_add_one, hp]
        rfl
      refine ⟨rfl, _, rfl, fa, c, 2, n + i, rfl, f1, by omega, by decide, by decide, fun H2 v k2 f2 v0 v2 => ⟨rfl, _, rfl, ?_⟩⟩
      have d2 := k2 _ _ p1 nD
      have lp : ps.length ≤ 7 := Nat.le_trans p2.length_le (by rw [List.length_take]; exact Nat.le_trans (Nat.min_le_left _ _) (by omega))
      by_cases z : v = 0
      · rw [decide_eq_true (congrArg V.int z)]
        refine iteT ⟨_, rfl, _, d2, by rw [List.length_map]; exact sz_lt (by omega), (k1.trans k2).mut hD, f2.mut nD nDc, ps ++ [p], ?_, ?_⟩
        · rw [upd_same, List.map_append]
          rfl
        · rw [et]
          exact p2.append (List.Sublist.refl _)
      · rw [decide_eq_false fun y => z (V.int.inj y)]
        refine iteF ⟨k1.trans k2, f2, ps, d2, ?_⟩
        rw [et]
        exact p2.trans (List.sublist_append_left _ _)
    rintro H1 ⟨k1, f1, ps, p1, p2⟩
    have psub : ps.Sublist somePs := p2
    have pmem : ∀ p ∈ ps, p ∈ somePs := fun p hp => psub.subset hp
    have pasc : ps.Pairwise (· < ·) := somePs_asc.sublist psub
    have plen : ps.length ≤ 1000 := Nat.le_trans psub.length_le (by decide)
    have f1 : Feed H1 fa c (n + 7) := f1
    have kk1 : Kp fa H H1 := (Kp.ex e0).trans k1
    have t1 := kp_t hF kk1 hS
    refine ⟨D, _, rfl, .inl ⟨sq_of p1, fun pp hpp => ?_⟩⟩
    have e2 : Ex H1 (upd H1 pp (.tup (ps.map V.int))) := Ex.new hpp
    have s2 : SqT K (upd H1 pp (.tup (ps.map V.int))) pp (ps.map V.int) := st_of upd_same
    generalize upd H1 pp (.tup (ps.map V.int)) = H2 at e2 s2
    have t2 := ex_t e2 t1
    -- left
    refine ⟨_, rfl, _, rfl, a, a, xs, xs, rfl, t2, t2, by omega, ok.bd, fun H3 e3 => ?_⟩
    have s3 := ex_t e3 s2
    have t3 := ex_t e3 t2
    refine ⟨_, rfl, pp, rfl, ⟨_, s3⟩, for_tup (K := K) (a := pp) (xs := ps.map V.int) (fun i σ H' => H' = H3 ∧ ∃ y z, σ = [some (.ref fa), some (.ref a), y, some (.ref pp), some (.int (stripAll (ps.take i) (dot xs xs))), z, none]) ⟨rfl, _, _, rfl⟩ (fun i σ H' _ h => by rw [h.1]; exact s3) ?_ ?_⟩
    · rintro i x σ H' hx ⟨rfl, y, z, rfl⟩
      obtain ⟨p, hp, rfl⟩ := ints_at hx
      obtain ⟨p2', p1000⟩ := some_lt (pmem p (List.mem_of_getElem? hp))
      refine ⟨80, rfl, by decide, by decide, for_range (lo := 0) (n := (80 : Int).toNat) (fun j σ H2 => H2 = H' ∧ ∃ z, σ = [some (.ref fa), some (.ref a), some (.int p), some (.ref pp), some (.int (stripN p j (stripAll (ps.take i) (dot xs xs)))), z, none]) ⟨rfl, _, rfl⟩ ?_ ?_⟩
      · rintro j σ H2 hj ⟨rfl, z, rfl⟩
        refine ⟨_, rfl, .inl ⟨_, rfl, _, rfl, _, p, rfl, rfl, (by show (0 : Int) < p; omega), rfl, _, rfl, ?_⟩⟩
        by_cases cc : stripN p j (stripAll (ps.take i) (dot xs xs)) % p = 0
        · rw [decide_eq_true (congrArg V.int cc)]
          refine iteT ⟨_, rfl, _, rfl, _, p, rfl, rfl, ⟨by omega, by omega⟩, rfl, some (.int (0 + (j : Int))), ?_⟩
          have e : stripN p (j + 1) (stripAll (ps.take i) (dot xs xs)) = stripN p j (stripAll (ps.take i) (dot xs xs)) / p := if_pos cc
          rw [e]
          rfl
        · rw [decide_eq_false fun y => cc (V.int.inj y)]
          refine iteF ⟨_, rfl, rfl, some (.int (0 + (j : Int))), ?_⟩
          have e : stripN p (j + 1) (stripAll (ps.take i) (dot xs xs)) = stripN p j (stripAll (ps.take i) (dot xs xs)) := if_neg cc
          rw [e]
          rfl
      · rintro σ H2 ⟨rfl, z, rfl⟩
        refine ⟨rfl, some (.int p), z, ?_⟩
        rw [stripAll_take hp]
        rfl
    rintro σ H' ⟨rfl, y, z, rfl⟩
    rw [List.length_map, List.take_length]
    have edec : decide (V.int (stripAll ps (dot xs xs)) = V.int 1) = decide (stripAll ps (dot xs xs) = 1) := by
      by_cases z : stripAll ps (dot xs xs) = 1
      · rw [z, decide_eq_true rfl, decide_eq_true rfl]
      · rw [decide_eq_false z, decide_eq_false fun q => z (V.int.inj q)]
    -- is_in_class
    refine ⟨_, rfl, a, _, rfl, .inr t3, _, rfl, _, rfl, pp, a, ps, xs, by rw [List.length_map]; rfl, s3, plen, pmem, pasc, t3, l3, l5, ok.ray, ok.bd, ok.fit, fun H4 e4 => ⟨_, rfl, _, rfl, rfl, _, rfl, rfl, _, rfl, iteNS (congrArg (fun b : Bool => V.str (if b = true then "True" else "False")) edec.symm) ?_⟩⟩
    have k4 : Kp fa H H4 := kk1.trans (Kp.ex ((e2.trans e3).trans e4))
    have f4 : Feed H4 fa c (n + 7) := f1.ex ((e2.trans e3).trans e4)
    have t4 := ex_t e4 t3
    have s4 := ex_t e4 s3
    refine ⟨_, rfl, rfl, _, rfl, ?_⟩
    rw [edec]
    by_cases one : stripAll ps (dot xs xs) = 1
    · rw [decide_eq_true one]
      refine iteT ⟨_, rfl, a, _, rfl, .inr t4, _, rfl, _, pp, ps, by rw [List.length_map]; rfl, l3, l5, s4, plen, pmem, pasc, fun H5 tq e5 t5 => ?_⟩
      have t6 := ex_t e5 t4
      refine ⟨tq, rfl, ⟨_, t5⟩, lcT (unV xs) t5 (by rw [List.length_map]; have := moduliFor_len xs.length ps; omega) ?_ ?_⟩
      · intro x H6 hx e6 R hR
        obtain ⟨m, hm, rfl⟩ := ints_mem hx
        refine ⟨rfl, _, rfl, _, rfl, m, a, xs, rfl, for_pos hm, ex_t e6 t6, by omega, ok.bd, fun H7 e7 => ⟨_, rfl, ?_⟩⟩
        have h7 := hR H7 e7
        cases hf : isfor m xs with
        | true =>
          rw [show unV xs (V.int m) = none from if_pos hf] at h7
          exact iteF h7
        | false =>
          rw [show unV xs (V.int m) = some (V.int m) from if_neg (by rw [hf]; decide)] at h7
          exact iteT ⟨_, rfl, h7⟩
      · intro D2 H6 hD2 e6 h6
        rw [unV_map, filter_none ok pmem one] at h6
        refine ⟨Nat.zero_le _, fun z hz => ?_⟩
        have ez : Ex H6 (upd H6 z (.lst [])) := Ex.new hz
        exact ⟨D2, z, [], [], rfl, rfl, .inr ⟨sq_of (ez _ _ h6), sq_of upd_same⟩, q _ (k4.trans (Kp.ex ((e5.trans e6).trans ez))) (f4.ex ((e5.trans e6).trans ez))⟩
    · rw [decide_eq_false one]
      exact iteF (q H4 k4 f4)
end
end Rm

/-! ## RmG -/
namespace Rm
open PySem PySem.Spec PyProof.Rows L2
open Evl (Ex Ex.refl Ex.trans Ex.new Ex.mut ex_l ex_t sq_of st_of sz_of sz_lt fresh_back)
/-! ### those of a list of tuples that a test takes -/
theorem tups_filter {K : PySem.W.Frag} {H : Hp} (b : List Int → Bool) : ∀ {ps : List Addr} {nss : List (List Int)}, Tups K H ps nss → ∃ qs, (ps.zip nss).filterMap (fun z => if b z.2 = true then some (V.ref z.1) else none) = qs.map V.ref ∧ Tups K H qs (nss.filter b)
  | _, _, .nil => ⟨[], rfl, .nil⟩
  | p :: ps, ns :: nss, .cons h t => by
    obtain ⟨qs, e, u⟩ := tups_filter b t
    rw [List.zip_cons_cons, List.filter_cons]
    cases hb : b ns with
    | true =>
      refine ⟨p :: qs, ?_, ?_⟩
      · rw [List.filterMap_cons_some (by show (if b ns = true then some (V.ref p) else none) = some (V.ref p); rw [hb]; rfl), e]
        rfl
      · rw [if_pos rfl]
        exact .cons h u
    | false =>
      refine ⟨qs, ?_, ?_⟩
      · rw [List.filterMap_cons_none (by show (if b ns = true then some (V.ref p) else none) = none; rw [hb]; rfl), e]
      · rw [if_neg Bool.false_ne_true]
        exact u
theorem lcLf {K : PySem.W.Frag} {a : Addr} {ps : List Addr} {nss : List (List Int)} {g : TG} {tt : TT} {te : TE} {vs : List Nat} {σ : L2.St} {H0 : Hp} {Q : Addr → Hp → Prop} (b : List Int → Bool) (hx : SqL K H0 a (ps.map V.ref)) (ht : Tups K H0 ps nss) (hz : ps.length ≤ 40000)
    (turn : ∀ (p : Addr) (ns : List Int) (H1 : Hp), ns ∈ nss → Ex H0 H1 → SqT K H1 p (ns.map V.int) → ∀ R : Option V → Hp → Prop, (∀ H2, Ex H1 H2 → R (if b ns = true then some (.ref p) else none) H2) → g (.ref p) (wipe σ vs) H1 fun σ2 H2 => wipe σ2 vs = wipe σ vs ∧ tt σ2 H2 fun b H3 => if b = true then te σ2 H3 fun y H4 => R (some y) H4 else R none H3)
    (k : ∀ D H2 qs, H0 D = none → Ex H0 H2 → H2 D = some (.lst (qs.map V.ref)) → Tups K H2 qs (nss.filter b) → Q D H2) :
    ∀ D, H0 D = none → ∃ W : Nat → Nat → Hp → Prop, (∃ m, W 0 m (upd H0 D (.lst []))) ∧ ∀ i m H, W i m H →
      ((Itl K a).stop i H ∧ Q D H) ∨ ((Itl K a).go i H ∧ ∃ Nx : Hp → Prop, (∀ H', Nx H' → ∃ m', m' < m ∧ W (i + 1) m' H') ∧ ∀ x H', (Itl K a).yld i H x H' → g x (wipe σ vs) H' fun σ2 H2 => wipe σ2 vs = wipe σ vs ∧ tt σ2 H2 fun b H3 =>
        if b = true then te σ2 H3 fun y H4 => ∃ acc, H4 D = some (.lst acc) ∧ acc.length < sizeLine ∧ Nx (upd H4 D (.lst (acc ++ [y]))) else Nx H3) := by
  have hl := Paired.length ht
  have hzl : (ps.zip nss).length = ps.length := by rw [List.length_zip, hl, Nat.min_self]
  refine lcJ ps.length (fun i => (ps.zip nss)[i]?.bind fun z => if b z.2 = true then some (V.ref z.1) else none) (fun i x _ => (ps.map V.ref)[i]? = some x) hz (fun i H e hi => ⟨ps.map V.ref, (ps.map V.ref)[i]'(by rw [List.length_map]; exact hi), ex_l e hx, List.getElem?_eq_getElem _⟩) (fun H e => ⟨ps.map V.ref, ex_l e hx, by rw [List.length_map]; exact Nat.le_refl _⟩)
    (fun i H x H' e hi y => by
      obtain ⟨rfl, y⟩ := y
      exact ⟨Ex.refl _, y _ (ex_l e hx)⟩)
    (fun i x H1 hi e hY R q => ?_) (fun D H2 hD e h2 => ?_)
  · have h1 : ps[i]? = some (ps[i]'hi) := List.getElem?_eq_getElem hi
    have h2 : nss[i]? = some (nss[i]'(by omega)) := List.getElem?_eq_getElem (by omega)
    rw [List.getElem?_map, h1] at hY
    have ex : x = .ref ps[i] := (Option.some.inj hY).symm
    subst ex
    refine turn ps[i] (nss[i]'(by omega)) H1 (List.mem_of_getElem? h2) e (ex_t e (tups_at ht h1 h2)) R fun H2 e2 => ?_
    have := q H2 e2
    rw [(List.getElem?_zip_eq_some (z := (ps[i]'hi, nss[i]'(by omega)))).mpr ⟨h1, h2⟩, Option.bind_some] at this
    exact this
  · rw [← hzl, range_get] at h2
    obtain ⟨qs, eq, tq⟩ := tups_filter b (ht.ex e)
    rw [eq] at h2
    exact k D H2 qs hD e h2 tq
section
variable {P : Program} {w : World} {K : PySem.W.Frag} {mg : Str → Option Value} {base : Heap} {f : Addr} {fd : FuncData}
/-! ### the law -/
def spLaw (K : PySem.W.Frag) : Sp := fun vs H Q _ => ∃ (a : Addr) (ns : List Int), vs = [.ref a] ∧ SqL K H a (ns.map V.int) ∧ ns.length ≤ 63 ∧ ∀ H', Q (.bl true) H'
theorem sizes_at {v : Int} (h0 : 0 ≤ v) (h4 : v < 4) : ∃ s : Nat, atI (([0, 0, 1, 2] : List Int).map V.int) v = some (.int s) ∧ s ≤ 2 := by
  have : v = 0 ∨ v = 1 ∨ v = 2 ∨ v = 3 := by omega
  rcases this with rfl | rfl | rfl | rfl
  · exact ⟨0, rfl, by decide⟩
  · exact ⟨0, rfl, by decide⟩
  · exact ⟨1, rfl, by decide⟩
  · exact ⟨2, rfl, by decide⟩
abbrev nLaw : List Str := ["_law_script", "_law_feed", "_law_lap", "_law_size", "_law_frame_here", "_law_moduli", "_law_modulus", "_law_ruled", "_law_marked", "_law_ray_here"]
theorem scLaw : FnScope nLaw ["_law_script"] (defScope sLaw) := ⟨rfl, rfl, rfl, by decide +kernel, rfl, by decide +kernel, by decide +kernel⟩
theorem ok_law (F : Fun K "law" "law" sLaw f fd) (C0 : Cal P w K mg base 1 "_law_source" ["_law_script"] (spSource K)) (C1 : Cal P w K mg base 1 "_law_draw" ["_law_feed", "_law_size"] spDraw) (C2 : Cal P w K mg base 3 "_law_frame" ["_law_feed", "_law_size"] (spFrame K))
    (C3 : Cal P w K mg base 6 "_law_ray_right" ["_law_ray_here", "_law_moduli"] (spRayRight K)) (C4 : Cal P w K mg base 6 "_law_class_right" ["_law_feed", "_law_ray_here"] (spClsRight K)) (C5 : Cal P w K mg base 2 "_law_is_for" ["_law_modulus", "_law_ray_here"] (spRuledBy K))
    (C6 : Cal P w K mg base 5 "is_marked" ["size", "modulus", "ray"] (spIsMarked K)) (mrange : mg "range" = none) (mlen : mg "len" = none) : FnOk P w K mg base CX0 7 f fd ["_law_script"] (spLaw K) := by
  refine F.ok scLaw (fun vs H Q E h => ?_) (fun cdv A outer s H vs Q E hr h => ?_)
  · obtain ⟨a, ns, rfl, _⟩ := h
    rfl
  · obtain ⟨a, ns, rfl, hS, hl, q⟩ := h
    have hr1 : Room 1 _ := hr.mono (by decide)
    refine ⟨_, pss_cons (ps_set (i := 1) scLaw.nd rfl (.inr rfl) (pe_cal C0 hr1 (by rfl) (pa_cons (pv 0) pa_nil)))
      (pss_cons (ps_for PassesOwn.never rfl (pi_range1 (by rfl) mrange (pa_cons pe_int pa_nil)) (pg_name (i := 2) scLaw.nd rfl (.inl rfl))
        (pss_cons (ps_set (i := 3) scLaw.nd rfl (.inr rfl) (pe_op op_add pe_int (pe_ix ix_list (pe_lst (pa_intsC (ns := [0, 0, 1, 2]) (by rfl))) (pe_cal C1 hr1 (by rfl) (pa_cons (pv 1) (pa_cons pe_int pa_nil))) (fun _ _ => rfl))))
        (pss_cons (ps_asg (pe_tup (pa_cons (pe_cal C2 (hr.mono (by decide)) (by rfl) (pa_cons (pv 1) (pa_cons (pv 3) pa_nil))) (pa_cons (pe_ifExp (pt_cmpR op_eq (pv 3) pe_int (nomark _)) (pe_lst (pa_intsC (ns := [2, 3, 4]) (by rfl))) (pe_lst (pa_intsC (ns := [2]) (by rfl)))) pa_nil)))
          (pg_tup rfl (pgs_cons (pg_name (i := 4) scLaw.nd rfl (.inl rfl)) (pgs_cons (pg_name (i := 5) scLaw.nd rfl (.inr rfl)) pgs_nil))))
        (pss_cons (ps_if (pt_cmpR (op_neT hr.units)
            (pe_lc (own := [("_law_ray_here", 9)]) (g := gName 9) rfl scLaw.nd (pi_list (pv 4)) (blkOk_by (own := [("_law_ray_here", 9)]) (N := nLaw) (sc := defScope sLaw) (by decide +kernel))
              (fun _ _ _ _ _ => pg_name (i := 9) scLaw.nd rfl (.inl rfl))
              (fun _ _ _ _ _ => pts_one (PW.pt (pw_or (pt_not (pt_val (pe_cal C3 hr (by rfl) (pa_cons (pv 9) (pa_cons (pv 5) pa_nil))))) (pw_or1 (pt_not (pt_val (pe_cal C4 hr (by rfl) (pa_cons (pv 1) (pa_cons (pv 9) pa_nil)))))))))
              (fun _ _ _ _ _ => pv 9)) (pe_lst pa_nil) (nomark _)) (pss_one (ps_ret pe_bl)) pss_nil)
        (pss_one (ps_for PassesOwn.never rfl (pi_list (pv 5)) (pg_name (i := 6) scLaw.nd rfl (.inr rfl))
          (pss_cons (ps_setLc (i := 7) (own := [("_law_ray_here", 9)]) (g := gName 9) (by rfl) scLaw.nd rfl rfl (sw_true rfl rfl rfl (by decide +kernel)) (pi_list (pv 4)) (blkOk_by (own := [("_law_ray_here", 9)]) (N := nLaw) (sc := defScope sLaw) (by decide +kernel))
              (fun _ _ _ _ _ => pg_name (i := 9) scLaw.nd rfl (.inl rfl)) (fun _ _ _ _ _ => pts_one (pt_val (pe_cal C5 (hr.mono (by decide)) (by rfl) (pa_cons (pv 6) (pa_cons (pv 9) pa_nil))))) (fun _ _ _ _ _ => pv 9))
          (pss_cons (ps_setLc (i := 8) (own := [("_law_ray_here", 9)]) (g := gName 9) (by rfl) scLaw.nd rfl rfl (sw_true rfl rfl rfl (by decide +kernel)) (pi_list (pv 7)) (blkOk_by (own := [("_law_ray_here", 9)]) (N := nLaw) (sc := defScope sLaw) (by decide +kernel))
              (fun _ _ _ _ _ => pg_name (i := 9) scLaw.nd rfl (.inl rfl)) (fun _ _ _ _ _ => pts_one (pt_val (pe_cal C6 (hr.mono (by decide)) (by rfl) (pa_cons (pv 3) (pa_cons (pv 6) (pa_cons (pv 9) pa_nil)))))) (fun _ _ _ _ _ => pv 9))
          (pss_one (ps_if (PW.pt (pw_or (pt_cmpR op_gt (pe_callB call_len_seq (by rfl) mlen PySem.boot_len (pa_cons (pv 8) pa_nil)) pe_int (nomark _))
              (pw_or1 (PW.pt (pw_and (pt_cmpR op_eq (pe_callB call_len_seq (by rfl) mlen PySem.boot_len (pa_cons (pv 7) pa_nil)) (pv 3) (nomark _)) (pw_and1 (pt_cmpR op_ne (pe_callB call_len_seq (by rfl) mlen PySem.boot_len (pa_cons (pv 8) pa_nil)) pe_int (nomark _)))))))) (pss_one (ps_ret pe_bl)) pss_nil))))))))))
      (pss_one (ps_ret pe_bl))), ?_⟩
    refine ⟨_, rfl, a, ns, rfl, hS, hl, fun H0 fa c f0 => ?_⟩
    refine ⟨6, rfl, by decide, by decide, for_range (lo := 0) (n := (6 : Int).toNat) (fun i σ H' => Feed H' fa c (50 * i) ∧ ∃ y2 y3 y4 y5 y6 y7 y8, σ = [some (.ref a), some (.ref fa), y2, y3, y4, y5, y6, y7, y8, none]) ⟨f0, _, _, _, _, _, _, _, rfl⟩ ?_ ?_⟩
    · rintro lap σ H1 hlap ⟨f1, y2, y3, y4, y5, y6, y7, y8, rfl⟩
      have hlap : lap < 6 := hlap
      -- size
      refine ⟨by show 4 ≤ sizeLine; decide, fun z hz => ?_⟩
      have ez : Ex H1 (upd H1 z (.lst (([0, 0, 1, 2] : List Int).map V.int))) := Ex.new hz
      have nz := f1.ne hz
      refine ⟨_, rfl, fa, c, 4, 50 * lap, rfl, f1.ex ez, by omega, by decide, by decide, fun H2 v k2 f2 v0 v4 => ?_⟩
      obtain ⟨s, es, s2⟩ := sizes_at v0 v4
      refine ⟨z, _, v, .int s, rfl, rfl, sq_of (k2 _ _ upd_same nz), es, 3, s, rfl, rfl, ?_⟩
      obtain ⟨size, hsz, hsize⟩ : ∃ size : Nat, (3 : Int) + (s : Int) = (size : Int) ∧ (size = 3 ∨ size = 4 ∨ size = 5) := ⟨3 + s, by omega, by omega⟩
      refine (congrArg (fun z : Int => gName 3 (V.int z) _ _ _) hsz).mpr ?_
      -- frame, moduli
      refine ⟨_, rfl, _, rfl, fa, c, size, 50 * lap + 1, rfl, f2, by omega, hsize, fun H3 l ps FF k3 f3 hl3 nl nlc tp3 fr => ?_⟩
      have mods : ∀ (R : VK), (∀ lm, H3 lm = none → R (.ref lm) (upd H3 lm (.lst ((moduliOf size).map V.int)))) → tIf (tTest (tOp rEq (tVar 3) (tC (.int 3)))) (tLst (tInts [2, 3, 4])) (tLst (tInts [2])) [some (.ref a), some (.ref fa), some (.int (0 + (lap : Int))), some (.int size), y4, y5, y6, y7, y8, none] H3 R := fun R hRm => by
        refine ⟨_, rfl, rfl, _, rfl, ?_⟩
        by_cases e : (size : Int) = 3
        · rw [decide_eq_true (congrArg V.int e)]
          refine iteT ⟨by show 3 ≤ sizeLine; decide, fun lm hlm => ?_⟩
          have := hRm lm hlm
          unfold moduliOf at this
          rw [if_pos e] at this
          exact this
        · rw [decide_eq_false fun y => e (V.int.inj y)]
          refine iteF ⟨by show 1 ≤ sizeLine; decide, fun lm hlm => ?_⟩
          have := hRm lm hlm
          unfold moduliOf at this
          rw [if_neg e] at this
          exact this
      refine mods _ fun lm hlm => ?_
      have e4 : Ex H3 (upd H3 lm (.lst ((moduliOf size).map V.int))) := Ex.new hlm
      have m4 : (upd H3 lm (.lst ((moduliOf size).map V.int))) lm = some (.lst ((moduliOf size).map V.int)) := upd_same
      have nlm := f3.ne hlm
      generalize upd H3 lm (.lst ((moduliOf size).map V.int)) = H4 at e4 m4
      refine ⟨by show 2 ≤ sizeLine; decide, fun tq htq => ?_⟩
      have e5 : Ex H4 (upd H4 tq (.tup [V.ref l, .ref lm])) := Ex.new htq
      refine ⟨tq, [V.ref l, .ref lm], rfl, st_of upd_same, rfl, .ref l, [.ref lm], rfl, .ref lm, [], rfl, rfl, ?_⟩
      generalize upd H4 tq (.tup [V.ref l, .ref lm]) = H5 at e5
      have f5 := (f3.ex e4).ex e5
      have hl5 := e5 _ _ (e4 _ _ hl3)
      have m5 := e5 _ _ m4
      have tp5 := tp3.ex (e4.trans e5)
      have lps : ps.length = size := (Paired.length tp5).trans fr.len
      have rl : ∀ r ∈ FF, 3 ≤ (r.length : Int) ∧ (r.length : Int) ≤ 5 ∧ r.length = size ∧ RayOk r.length r := fun r hr' => by
        have ok := fr.rays r hr'
        have e := ok.len
        refine ⟨by omega, by omega, e, ?_⟩
        rw [e]
        exact ok
      -- every ray is right
      refine ⟨_, rfl, l, rfl, ⟨_, sq_of hl5⟩, fun D hD => ?_⟩
      have nD := f5.ne hD
      have nDc := f5.nec hD
      refine lc_list (K := K) (a := l) (xs := ps.map V.ref) (fun i H' => Kp fa H5 H' ∧ Feed H' fa c (50 * lap + 1 + 8 + 7 * i) ∧ H' D = some (.lst [])) ⟨(Kp.refl _ _).mut hD, f5.ex (Ex.new hD), upd_same⟩ (fun i H' _ h => sq_of (h.1 _ _ hl5 nl)) ?_ ?_
      · rintro i x H6 hx ⟨k6, f6, d6⟩
        rw [List.getElem?_map] at hx
        obtain ⟨p, hp, rfl⟩ : ∃ p, ps[i]? = some p ∧ x = .ref p := by
          cases e : ps[i]? with
          | none =>
            rw [e] at hx
            cases hx
          | some p =>
            rw [e] at hx
            exact ⟨p, rfl, (Option.some.inj hx).symm⟩
        have hi : i < ps.length := (List.getElem?_eq_some_iff.mp hp).1
        have hiF : i < FF.length := by rw [fr.len, ← lps]; exact hi
        have hr' : FF[i]? = some FF[i] := List.getElem?_eq_getElem hiF
        obtain ⟨q3, q5, qs, qok⟩ := rl _ (List.mem_of_getElem? hr')
        have t6 := kp_t f5 k6 (tups_at tp5 hp hr')
        have m6 := k6 _ _ m5 nlm
        have hi5 : i < 5 := by omega
        refine ⟨rfl, _, rfl, _, rfl, p, lm, FF[i], rfl, t6, by rw [qs]; exact sq_of m6, q3, q5, qok, fun H7 e7 => ⟨true, rfl, iteF ?_⟩⟩
        refine ⟨_, rfl, _, rfl, fa, c, p, FF[i], 50 * lap + 1 + 8 + 7 * i, rfl, f6.ex e7, by omega, ex_t e7 t6, q3, q5, qok, fun H8 k8 f8 => ⟨true, rfl, iteF ?_⟩⟩
        exact ⟨(k6.trans (Kp.ex e7)).trans k8, f8, k8 _ _ (e7 _ _ d6) nD⟩
      rintro H6 ⟨k6, f6, d6⟩
      rw [List.length_map, lps] at f6
      refine ⟨Nat.zero_le _, fun z2 hz2 => ?_⟩
      have e7 : Ex H6 (upd H6 z2 (.lst [])) := Ex.new hz2
      refine ⟨D, z2, [], [], rfl, rfl, .inr ⟨sq_of (e7 _ _ d6), sq_of upd_same⟩, _, rfl, iteNS rfl ?_⟩
      generalize upd H6 z2 (.lst []) = H7 at e7
      have f7 := f6.ex e7
      have hl7 := e7 _ _ (k6 _ _ hl5 nl)
      have m7 := e7 _ _ (k6 _ _ m5 nlm)
      have tp7 := (kp_ts f5 k6 tp5).ex e7
      -- the marks
      refine ⟨_, rfl, lm, rfl, ⟨_, sq_of m7⟩, for_list (K := K) (a := lm) (xs := (moduliOf size).map V.int) (fun i σ H' => Ex H7 H' ∧ ∃ y6 y7 y8, σ = [some (.ref a), some (.ref fa), some (.int (0 + (lap : Int))), some (.int size), some (.ref l), some (.ref lm), y6, y7, y8, none]) ⟨Ex.refl _, _, _, _, rfl⟩ (fun i σ H' _ h => ex_l h.1 (sq_of m7)) ?_ ?_⟩
      · rintro i x σ H8 hx ⟨e8, y6, y7, y8, rfl⟩
        obtain ⟨m, hm', rfl⟩ := ints_at hx
        have hm := List.mem_of_getElem? hm'
        have m0 := rule_pos (isRule_of hsize hm)
        obtain ⟨mk1, mk2⟩ := frame_marks fr hm
        refine ⟨_, rfl, l, rfl, ⟨_, ex_l e8 (sq_of hl7)⟩, lcLf (isfor m) (ex_l e8 (sq_of hl7)) (tp7.ex e8) (by omega) ?_ ?_⟩
        · intro p r H9 hr' e9 t9 R hR
          obtain ⟨q3, q5, qs, qok⟩ := rl _ hr'
          refine ⟨rfl, _, rfl, _, rfl, m, p, r, rfl, m0, t9, by omega, qok.bd, fun H10 e10 => ⟨_, rfl, ?_⟩⟩
          have h10 := hR H10 e10
          cases hf : isfor m r with
          | true =>
            rw [hf, if_pos rfl] at h10
            exact iteT ⟨_, rfl, h10⟩
          | false =>
            rw [hf, if_neg Bool.false_ne_true] at h10
            exact iteF h10
        intro D2 H9 qs2 hD2 e9 h9 tq9
        have lq : qs2.length ≤ 5 := by
          rw [Paired.length tq9]
          have := List.length_filter_le (isfor m) FF
          have := fr.len
          omega
        refine ⟨_, rfl, D2, rfl, ⟨_, sq_of h9⟩, lcLf (marks size m) (sq_of h9) tq9 (by omega) ?_ ?_⟩
        · intro p r H10 hr' e10 t10 R hR
          obtain ⟨hr2, hf⟩ := List.mem_filter.mp hr'
          obtain ⟨q3, q5, qs, qok⟩ := rl _ hr2
          refine ⟨rfl, _, rfl, _, rfl, _, rfl, m, p, r, by rw [qs]; rfl, by rw [qs]; exact hm, t10, q3, q5, qok.ray, qok.bd, hf, fun H11 e11 => ⟨_, rfl, ?_⟩⟩
          have h11 := hR H11 e11
          rw [qs]
          cases hk : marks size m r with
          | true =>
            rw [hk, if_pos rfl] at h11
            exact iteT ⟨_, rfl, h11⟩
          | false =>
            rw [hk, if_neg Bool.false_ne_true] at h11
            exact iteF h11
        intro D3 H10 qs3 hD3 e10 h10 tq10
        have n3 : ((qs3.map V.ref).length : Int) = (((FF.filter (isfor m)).filter (marks size m)).length : Int) := by
          rw [List.length_map, Paired.length tq10]
        have n2 : ((qs2.map V.ref).length : Int) = ((FF.filter (isfor m)).length : Int) := by
          rw [List.length_map, Paired.length tq9]
        refine ⟨_, rfl, D3, _, rfl, .inl (sq_of h10), _, _, rfl, rfl, _, rfl, ?_⟩
        rw [decide_eq_false (by omega : ¬ (1 : Int) < ((qs3.map V.ref).length : Int))]
        refine iteF ⟨_, rfl, D2, _, rfl, .inl (sq_of (e10 _ _ h9)), _, rfl, rfl, _, rfl, ?_⟩
        have done : Ex H7 H10 ∧ ∃ y6 y7 y8, [some (V.ref a), some (.ref fa), some (.int (0 + (lap : Int))), some (.int size), some (.ref l), some (.ref lm), some (.int m), some (.ref D2), some (.ref D3), none] = [some (.ref a), some (.ref fa), some (.int (0 + (lap : Int))), some (.int size), some (.ref l), some (.ref lm), y6, y7, y8, none] := ⟨(e8.trans e9).trans e10, _, _, _, rfl⟩
        by_cases e : (FF.filter (isfor m)).length = size
        · rw [decide_eq_true (congrArg V.int (n2.trans (by rw [e])))]
          refine iteT ⟨_, rfl, D3, _, rfl, .inl (sq_of h10), rfl, _, rfl, iteNS (congrArg V.int (n3.trans (by rw [mk2 e]; rfl))) done⟩
        · rw [decide_eq_false fun y => e (by have := V.int.inj y; omega)]
          exact iteF (iteF done)
      · rintro σ H8 ⟨e8, y6, y7, y8, rfl⟩
        exact ⟨(f7.ex e8).le (by omega), _, _, _, _, _, _, _, rfl⟩
    · rintro σ H1 ⟨f1, y2, y3, y4, y5, y6, y7, y8, rfl⟩
      exact q H1
end
end Rm

/-! ## RmH -/
namespace Rm
open PySem PySem.Spec PyProof.Rows L2
open Evl (Ex)
/-! ### what the top has written -/
/-- a def of the top stands where its name says -/
structure FnF (K : PySem.W.Frag) (x : Str) (st : Stmt) : Prop where
  ex : ∃ f fd, PySem.W.nsIn K mainGlobals x = some (some (.ref f)) ∧ Fun K x x st f fd
theorem fnF_mk {K : PySem.W.Frag} {x : Str} {st : Stmt} {f : Addr} {oc : Value} {od an : Option Addr} {osl : Array (Option Value)} {kV doc pm cdv ct : Value} (a : PySem.W.nsIn K mainGlobals x = some (some (.ref f)))
    (l : K.lookup f = some ⟨oc, od, .func (PySem.W.fnOf x x (defArgs st) (defBody st) (defScope st) .none kV doc pm an cdv ct), osl⟩) (c : PySem.W.codeIn K cdv x = true) (k : PySem.W.keepIn K (.ref f) = true) : FnF K x st := ⟨f, _, a, fun_mk l c k⟩
structure FnFW (K : PySem.W.Frag) : Prop where
  ex : ∃ f fd, PySem.W.nsIn K mainGlobals "want" = some (some (.ref f)) ∧ FnW K f fd
theorem fnFW_mk {K : PySem.W.Frag} {f T : Addr} {oc oc2 : Value} {od an od2 : Option Addr} {osl sl2 : Array (Option Value)} {kV doc pm cdv ct : Value} {tk : Tok} {n : Nat} (a : PySem.W.nsIn K mainGlobals "want" = some (some (.ref f)))
    (l : K.lookup f = some ⟨oc, od, .func (PySem.W.fnOf "want" "want" (defArgs sWant) (defBody sWant) (defScope sWant) (.ref T) kV doc pm an cdv ct), osl⟩) (c : PySem.W.codeIn K cdv "want" = true) (k : PySem.W.keepIn K (.ref f) = true)
    (t : K.lookup T = some ⟨oc2, od2, .seq #[.int (-1) tk] n, sl2⟩) : FnFW K :=
  ⟨f, _, a, ⟨oc, od, .ref T, kV, doc, pm, an, cdv, ct, osl, rfl, l, c, .inr ⟨by decide, T, _, [.int (-1) tk], n, rfl, t, rfl, .cons ⟨tk, rfl⟩ .nil⟩, .inl rfl⟩, k⟩
/-- a written tuple of ints -/
theorem sqt_k {K : PySem.W.Frag} {a : Addr} {od : Option Addr} {its : Array Value} {n : Nat} {sl : Array (Option Value)} {xs : List V} (l : K.lookup a = some ⟨.type "tuple", od, .seq its n, sl⟩) (hz : its.size ≤ 1000) (v : Vals xs its.toList) : ∀ H, SqT K H a xs :=
  fun _ => .inr ⟨_, its, n, l, rfl, rfl, Nat.le_of_lt (small1000 hz), v⟩
section
variable {P : Program} {w : World} {K : PySem.W.Frag} {mg : Str → Option Value} {base : Heap} {h : Heap}
theorem cal_mk {k : Nat} {x : Str} {st : Stmt} {ps : List Str} {sp : Sp} (X : K.In h) (G : h.Ns mainGlobals mg) (F : FnF K x st) (ok : ∀ f fd, Fun K x x st f fd → FnOk P w K mg base CX0 k f fd ps sp) (b : ∀ f fd, Fun K x x st f fd → Binds K fd ps []) : Cal P w K mg base k x ps sp := by
  obtain ⟨f, fd, a, F⟩ := F.ex
  exact ⟨f, fd, ok f fd F, PySem.W.mg_of X G a, F.kp, b f fd F⟩
theorem calW_mk (X : K.In h) (G : h.Ns mainGlobals mg) (F : FnFW K) : WantC P w K mg base := by
  obtain ⟨f, fd, a, F⟩ := F.ex
  obtain ⟨ds, v, b⟩ := FunD.binds1 F (ps := ["is_right", "name", "place"]) 2 0 (by decide) rfl fun T kV doc pm an cdv ct us its hu hi => match us, its, hu, hi with | [_, _], [_], _, _ => ⟨_, rfl, rfl⟩
  exact ⟨f, fd, ds, ok_want F, PySem.W.mg_of X G a, F.kp, v, b⟩

theorem all_mk (X : K.In h) (G : h.Ns mainGlobals mg) {fa : Addr} (hfa : mg "law" = some (.ref fa)) (F_divisor_of : FnF K "divisor_of" sGcd) (F_common_divisor : FnF K "common_divisor" sCdiv) (F_dot_by : FnF K "dot_by" sDot) (F_is_integer : FnF K "is_integer" sIsInt) (F_are_integers : FnF K "are_integers" sAreInts) (F_is_ray : FnF K "is_ray" sIsRay) (F_is_ray_of : FnF K "is_ray_of" sIsRayOf) (F_are_ascending : FnF K "are_ascending" sAsc) (F_is_class_size : FnF K "is_class_size" sClsSize) (F_is_prime : FnF K "is_prime" sIsPrime) (F_are_primes : FnF K "are_primes" sArePrimes) (F_length_by : FnF K "length_by" sLenBy) (F_is_within : FnF K "is_within" sWithin) (F_moduli_for : FnF K "moduli_for" sModFor) (F_want : FnFW K) (F_want_class : FnF K "want_class" sWantCls) (F_is_in_class : FnF K "is_in_class" sInCls) (F_rules_for : FnF K "rules_for" sRulesFor) (F_moduli_by : FnF K "moduli_by" sModBy) (F_is_modulus : FnF K "is_modulus" sIsMod) (F_rests_by : FnF K "rests_by" sRestsBy) (F_rest_by : FnF K "rest_by" sRestBy) (F_is_ruled_by : FnF K "is_ruled_by" sRuledBy) (F_is_marked_by : FnF K "is_marked_by" sMarkedBy) (F_want_rule : FnF K "want_rule" sWantRule) (F_rest_of : FnF K "rest_of" sRestOf) (F_is_ruled : FnF K "is_ruled" sIsRuled) (F_is_marked : FnF K "is_marked" sIsMarked) (F__law_source : FnF K "_law_source" sSource) (F__law_draw : FnF K "_law_draw" sDraw) (F__law_ray : FnF K "_law_ray" sRay) (F__law_dot : FnF K "_law_dot" sLDot) (F__law_lists : FnF K "_law_lists" sLists) (F__law_is_for : FnF K "_law_is_for" sIsFor) (F__law_marks_it : FnF K "_law_marks_it" sMarksIt) (F__law_cross : FnF K "_law_cross" sCross) (F__law_some : FnF K "_law_some" sSome) (F__law_frame : FnF K "_law_frame" sFrame) (F__law_ray_right : FnF K "_law_ray_right" sRayRight) (F__law_class_right : FnF K "_law_class_right" sClsRight) (F_law : FnF K "law" sLaw) (z_abs : PySem.W.nsIn K mainGlobals "abs" = some none) (z_all : PySem.W.nsIn K mainGlobals "all" = some none) (z_bool : PySem.W.nsIn K mainGlobals "bool" = some none) (z_int : PySem.W.nsIn K mainGlobals "int" = some none) (z_isinstance : PySem.W.nsIn K mainGlobals "isinstance" = some none) (z_len : PySem.W.nsIn K mainGlobals "len" = some none) (z_min : PySem.W.nsIn K mainGlobals "min" = some none) (z_range : PySem.W.nsIn K mainGlobals "range" = some none) (z_repr : PySem.W.nsIn K mainGlobals "repr" = some none) (z_sum : PySem.W.nsIn K mainGlobals "sum" = some none) (z_tuple : PySem.W.nsIn K mainGlobals "tuple" = some none) (z_zip : PySem.W.nsIn K mainGlobals "zip" = some none) {t_LEAST_CLASS : Tok} (g_LEAST_CLASS : PySem.W.nsIn K mainGlobals "LEAST_CLASS" = some (some (.int 3 t_LEAST_CLASS))) {t_MOST_CLASS : Tok} (g_MOST_CLASS : PySem.W.nsIn K mainGlobals "MOST_CLASS" = some (some (.int 5 t_MOST_CLASS))) {t_TOP_PRIME : Tok} (g_TOP_PRIME : PySem.W.nsIn K mainGlobals "TOP_PRIME" = some (some (.int 1000000 t_TOP_PRIME))) {t_TOP_ROOT : Tok} (g_TOP_ROOT : PySem.W.nsIn K mainGlobals "TOP_ROOT" = some (some (.int 1000 t_TOP_ROOT))) (g_OPEN : GlT K mg "OPEN_RESTS" [1, 3]) (g_FOURTH : GlT K mg "FOURTH_RESTS" fourthR) {ra : Addr} {rs ls : List Addr} (R : Rules K mg ra rs ls) :
    ∃ fd : FuncData, (∀ (s : Shared) (v : Value), BindsTo s fd ⟨[v], []⟩ [("_law_script", v)]) ∧ ∀ base : Heap, K.In base → base.Ns mainGlobals mg → FnOk P w K mg base CX0 7 fa fd ["_law_script"] (spLaw K) := by
  obtain ⟨f, fd, aL, FL⟩ := F_law.ex
  have e := hfa.symm.trans (PySem.W.mg_of X G aL)
  cases e
  refine ⟨fd, fun s v => ?_, fun base _ _ => ?_⟩
  · obtain ⟨oc, od, kV, doc, pm, an, cdv, ct, osl, rfl, lk, hcd⟩ := FL.ex
    exact .of_eq rfl
  · have m_abs := PySem.W.mg_none_of X G z_abs
    have m_all := PySem.W.mg_none_of X G z_all
    have m_bool := PySem.W.mg_none_of X G z_bool
    have m_int := PySem.W.mg_none_of X G z_int
    have m_isinstance := PySem.W.mg_none_of X G z_isinstance
    have m_len := PySem.W.mg_none_of X G z_len
    have m_min := PySem.W.mg_none_of X G z_min
    have m_range := PySem.W.mg_none_of X G z_range
    have m_repr := PySem.W.mg_none_of X G z_repr
    have m_sum := PySem.W.mg_none_of X G z_sum
    have m_tuple := PySem.W.mg_none_of X G z_tuple
    have m_zip := PySem.W.mg_none_of X G z_zip
    have k_LEAST_CLASS := PySem.W.mg_of X G g_LEAST_CLASS
    have k_MOST_CLASS := PySem.W.mg_of X G g_MOST_CLASS
    have k_TOP_PRIME := PySem.W.mg_of X G g_TOP_PRIME
    have k_TOP_ROOT := PySem.W.mg_of X G g_TOP_ROOT
    have C_want : WantC P w K mg base := calW_mk X G F_want
    have C_divisor_of : Cal P w K mg base 1 "divisor_of" ["one", "other"] spGcd := cal_mk X G F_divisor_of (fun f fd F => ok_gcd F ) (fun f fd F => F.binds fun _ _ _ _ _ _ us hl => match us, hl with | [_, _], _ => rfl)
    have C_common_divisor : Cal P w K mg base 2 "common_divisor" ["numbers"] (spCdiv K) := cal_mk X G F_common_divisor (fun f fd F => ok_cdiv F C_divisor_of m_abs) (fun f fd F => F.binds fun _ _ _ _ _ _ us hl => match us, hl with | [_], _ => rfl)
    have C_dot_by : Cal P w K mg base 1 "dot_by" ["one", "other"] (spDot K) := cal_mk X G F_dot_by (fun f fd F => ok_dot F m_sum m_zip) (fun f fd F => F.binds fun _ _ _ _ _ _ us hl => match us, hl with | [_, _], _ => rfl)
    have C_is_integer : Cal P w K mg base 1 "is_integer" ["thing"] spIsInt := cal_mk X G F_is_integer (fun f fd F => ok_isInt F m_isinstance m_int m_bool) (fun f fd F => F.binds fun _ _ _ _ _ _ us hl => match us, hl with | [_], _ => rfl)
    have C_are_integers : Cal P w K mg base 2 "are_integers" ["thing"] (spAreInts K) := cal_mk X G F_are_integers (fun f fd F => ok_areInts F C_is_integer m_isinstance m_tuple m_all) (fun f fd F => F.binds fun _ _ _ _ _ _ us hl => match us, hl with | [_], _ => rfl)
    have C_is_ray : Cal P w K mg base 3 "is_ray" ["thing"] (spIsRay K) := cal_mk X G F_is_ray (fun f fd F => ok_isRay F C_are_integers C_common_divisor m_len) (fun f fd F => F.binds fun _ _ _ _ _ _ us hl => match us, hl with | [_], _ => rfl)
    have C_is_ray_of : Cal P w K mg base 4 "is_ray_of" ["size", "thing"] (spIsRayOf K) := cal_mk X G F_is_ray_of (fun f fd F => ok_isRayOf F C_is_ray m_len) (fun f fd F => F.binds fun _ _ _ _ _ _ us hl => match us, hl with | [_, _], _ => rfl)
    have C_are_ascending : Cal P w K mg base 1 "are_ascending" ["things"] (spAsc K) := cal_mk X G F_are_ascending (fun f fd F => ok_asc F m_all m_zip) (fun f fd F => F.binds fun _ _ _ _ _ _ us hl => match us, hl with | [_], _ => rfl)
    have C_is_class_size : Cal P w K mg base 2 "is_class_size" ["thing"] spClsSize := cal_mk X G F_is_class_size (fun f fd F => ok_clsSize F C_is_integer ⟨_, k_LEAST_CLASS⟩ ⟨_, k_MOST_CLASS⟩) (fun f fd F => F.binds fun _ _ _ _ _ _ us hl => match us, hl with | [_], _ => rfl)
    have C_is_prime : Cal P w K mg base 2 "is_prime" ["thing"] spIsPrime := cal_mk X G F_is_prime (fun f fd F => ok_isPrime F C_is_integer ⟨_, k_TOP_PRIME⟩ ⟨_, k_TOP_ROOT⟩ m_all m_range) (fun f fd F => F.binds fun _ _ _ _ _ _ us hl => match us, hl with | [_], _ => rfl)
    have C_are_primes : Cal P w K mg base 3 "are_primes" ["thing"] (spArePrimes K) := cal_mk X G F_are_primes (fun f fd F => ok_arePrimes F C_is_prime C_are_ascending m_isinstance m_tuple m_all) (fun f fd F => F.binds fun _ _ _ _ _ _ us hl => match us, hl with | [_], _ => rfl)
    have C_length_by : Cal P w K mg base 2 "length_by" ["ray"] (spLenBy K) := cal_mk X G F_length_by (fun f fd F => ok_lenBy F C_dot_by) (fun f fd F => F.binds fun _ _ _ _ _ _ us hl => match us, hl with | [_], _ => rfl)
    have C_is_within : Cal P w K mg base 3 "is_within" ["primes", "ray"] (spWithin K) := cal_mk X G F_is_within (fun f fd F => ok_within F C_length_by) (fun f fd F => F.binds fun _ _ _ _ _ _ us hl => match us, hl with | [_, _], _ => rfl)
    have C_moduli_for : Cal P w K mg base 1 "moduli_for" ["size", "primes"] (spModFor K) := cal_mk X G F_moduli_for (fun f fd F => ok_modFor F ⟨_, k_LEAST_CLASS⟩ g_OPEN m_all m_tuple) (fun f fd F => F.binds fun _ _ _ _ _ _ us hl => match us, hl with | [_, _], _ => rfl)
    have C_want_class : Cal P w K mg base 4 "want_class" ["size", "primes"] (spWantCls K) := cal_mk X G F_want_class (fun f fd F => ok_wantCls F C_want C_is_class_size C_are_primes) (fun f fd F => F.binds fun _ _ _ _ _ _ us hl => match us, hl with | [_, _], _ => rfl)
    have C_is_in_class : Cal P w K mg base 5 "is_in_class" ["size", "primes", "ray"] (spInCls K) := cal_mk X G F_is_in_class (fun f fd F => ok_inCls F C_want C_want_class C_is_ray_of C_is_within) (fun f fd F => F.binds fun _ _ _ _ _ _ us hl => match us, hl with | [_, _, _], _ => rfl)
    have C_rules_for : Cal P w K mg base 5 "rules_for" ["size", "primes"] (spRulesFor K) := cal_mk X G F_rules_for (fun f fd F => ok_rulesFor F C_want_class C_moduli_for) (fun f fd F => F.binds fun _ _ _ _ _ _ us hl => match us, hl with | [_, _], _ => rfl)
    have C_moduli_by : Cal P w K mg base 1 "moduli_by" ["size"] (spModBy K) := cal_mk X G F_moduli_by (fun f fd F => ok_modBy F R m_tuple) (fun f fd F => F.binds fun _ _ _ _ _ _ us hl => match us, hl with | [_], _ => rfl)
    have C_is_modulus : Cal P w K mg base 2 "is_modulus" ["size", "thing"] spIsMod := cal_mk X G F_is_modulus (fun f fd F => ok_isMod F C_is_integer C_moduli_by) (fun f fd F => F.binds fun _ _ _ _ _ _ us hl => match us, hl with | [_, _], _ => rfl)
    have C_rests_by : Cal P w K mg base 1 "rests_by" ["size", "modulus"] (spRestsBy K) := cal_mk X G F_rests_by (fun f fd F => ok_restsBy F R) (fun f fd F => F.binds fun _ _ _ _ _ _ us hl => match us, hl with | [_, _], _ => rfl)
    have C_rest_by : Cal P w K mg base 1 "rest_by" ["modulus", "numbers"] (spRestBy K) := cal_mk X G F_rest_by (fun f fd F => ok_restBy F m_tuple) (fun f fd F => F.binds fun _ _ _ _ _ _ us hl => match us, hl with | [_, _], _ => rfl)
    have C_is_ruled_by : Cal P w K mg base 3 "is_ruled_by" ["modulus", "ray"] (spRuledBy K) := cal_mk X G F_is_ruled_by (fun f fd F => ok_ruledBy F C_length_by g_FOURTH) (fun f fd F => F.binds fun _ _ _ _ _ _ us hl => match us, hl with | [_, _], _ => rfl)
    have C_is_marked_by : Cal P w K mg base 2 "is_marked_by" ["size", "modulus", "ray"] (spMarkedBy K) := cal_mk X G F_is_marked_by (fun f fd F => ok_markedBy F C_rest_by C_rests_by) (fun f fd F => F.binds fun _ _ _ _ _ _ us hl => match us, hl with | [_, _, _], _ => rfl)
    have C_want_rule : Cal P w K mg base 3 "want_rule" ["size", "modulus"] spWantRule := cal_mk X G F_want_rule (fun f fd F => ok_wantRule F C_want C_is_class_size C_is_modulus) (fun f fd F => F.binds fun _ _ _ _ _ _ us hl => match us, hl with | [_, _], _ => rfl)
    have C_rest_of : Cal P w K mg base 4 "rest_of" ["modulus", "ray"] (spRestOf K) := cal_mk X G F_rest_of (fun f fd F => ok_restOf F C_want C_is_integer C_moduli_by C_is_ray C_is_class_size C_rest_by m_len) (fun f fd F => F.binds fun _ _ _ _ _ _ us hl => match us, hl with | [_, _], _ => rfl)
    have C_is_ruled : Cal P w K mg base 5 "is_ruled" ["size", "modulus", "ray"] (spIsRuled K) := cal_mk X G F_is_ruled (fun f fd F => ok_isRuled F C_want C_want_rule C_is_ray_of C_is_ruled_by) (fun f fd F => F.binds fun _ _ _ _ _ _ us hl => match us, hl with | [_, _, _], _ => rfl)
    have C_is_marked : Cal P w K mg base 5 "is_marked" ["size", "modulus", "ray"] (spIsMarked K) := cal_mk X G F_is_marked (fun f fd F => ok_isMarked F C_want C_want_rule C_is_ray_of C_is_ruled_by C_is_marked_by) (fun f fd F => F.binds fun _ _ _ _ _ _ us hl => match us, hl with | [_, _, _], _ => rfl)
    have C__law_source : Cal P w K mg base 1 "_law_source" ["_law_script"] (spSource K) := cal_mk X G F__law_source (fun f fd F => ok_source F ) (fun f fd F => F.binds fun _ _ _ _ _ _ us hl => match us, hl with | [_], _ => rfl)
    have C__law_draw : Cal P w K mg base 1 "_law_draw" ["_law_feed", "_law_size"] spDraw := cal_mk X G F__law_draw (fun f fd F => ok_draw F m_int m_len) (fun f fd F => F.binds fun _ _ _ _ _ _ us hl => match us, hl with | [_, _], _ => rfl)
    have C__law_ray : Cal P w K mg base 1 "_law_ray" ["_law_numbers"] (spRay K) := cal_mk X G F__law_ray (fun f fd F => ok_ray F m_abs m_int m_tuple) (fun f fd F => F.binds fun _ _ _ _ _ _ us hl => match us, hl with | [_], _ => rfl)
    have C__law_dot : Cal P w K mg base 1 "_law_dot" ["_law_one", "_law_other"] (spDot K) := cal_mk X G F__law_dot (fun f fd F => ok_ldot F m_sum m_zip) (fun f fd F => F.binds fun _ _ _ _ _ _ us hl => match us, hl with | [_, _], _ => rfl)
    have C__law_lists : Cal P w K mg base 1 "_law_lists" ["_law_size", "_law_modulus"] (spLists K) := cal_mk X G F__law_lists (fun f fd F => ok_lists F ) (fun f fd F => F.binds fun _ _ _ _ _ _ us hl => match us, hl with | [_, _], _ => rfl)
    have C__law_is_for : Cal P w K mg base 2 "_law_is_for" ["_law_modulus", "_law_ray_here"] (spRuledBy K) := cal_mk X G F__law_is_for (fun f fd F => ok_isFor F C__law_dot m_int) (fun f fd F => F.binds fun _ _ _ _ _ _ us hl => match us, hl with | [_, _], _ => rfl)
    have C__law_marks_it : Cal P w K mg base 2 "_law_marks_it" ["_law_modulus", "_law_ray_here"] (spMarksIt K) := cal_mk X G F__law_marks_it (fun f fd F => ok_marksIt F C__law_lists m_int m_tuple m_len) (fun f fd F => F.binds fun _ _ _ _ _ _ us hl => match us, hl with | [_, _], _ => rfl)
    have C__law_cross : Cal P w K mg base 2 "_law_cross" ["_law_one", "_law_other"] (spCross K) := cal_mk X G F__law_cross (fun f fd F => ok_cross F C__law_ray) (fun f fd F => F.binds fun _ _ _ _ _ _ us hl => match us, hl with | [_, _], _ => rfl)
    have C__law_some : Cal P w K mg base 2 "_law_some" ["_law_feed", "_law_size"] (spSome K) := cal_mk X G F__law_some (fun f fd F => ok_some F C__law_draw C__law_ray m_range) (fun f fd F => F.binds fun _ _ _ _ _ _ us hl => match us, hl with | [_, _], _ => rfl)
    have C__law_frame : Cal P w K mg base 3 "_law_frame" ["_law_feed", "_law_size"] (spFrame K) := cal_mk X G F__law_frame (fun f fd F => ok_frame F C__law_draw C__law_some C__law_ray C__law_cross m_range m_tuple) (fun f fd F => F.binds fun _ _ _ _ _ _ us hl => match us, hl with | [_, _], _ => rfl)
    have C__law_ray_right : Cal P w K mg base 6 "_law_ray_right" ["_law_ray_here", "_law_moduli"] (spRayRight K) := cal_mk X G F__law_ray_right (fun f fd F => ok_rayRight F C__law_is_for C_is_ruled C_rest_of C_is_marked C__law_marks_it m_repr m_len m_int m_tuple m_min) (fun f fd F => F.binds fun _ _ _ _ _ _ us hl => match us, hl with | [_, _], _ => rfl)
    have C__law_class_right : Cal P w K mg base 6 "_law_class_right" ["_law_feed", "_law_ray_here"] (spClsRight K) := cal_mk X G F__law_class_right (fun f fd F => ok_clsRight F C__law_draw C__law_dot C_is_in_class C_rules_for C__law_is_for m_repr m_len m_int m_tuple m_range) (fun f fd F => F.binds fun _ _ _ _ _ _ us hl => match us, hl with | [_, _], _ => rfl)
    exact ok_law FL C__law_source C__law_draw C__law_frame C__law_ray_right C__law_class_right C__law_is_for C_is_marked m_range m_len
end
end Rm

/-! ## RmI -/
namespace Rm
open PySem PySem.Spec PyProof.Rows L2
theorem rvI {i : Int} {t : Tok} : RelV (.int i) (Value.int i t) := ⟨t, rfl⟩
theorem rvR {a : Addr} : RelV (.ref a) (Value.ref a) := rfl
theorem rules_mk {K : PySem.W.Frag} {mg : Str → Option Value} {h : Heap} (X : K.In h) (G : h.Ns mainGlobals mg)
  {ra r0 r1 r2 r3 r4 l0 l1 l2 l3 l4 : Addr}
  (a : PySem.W.nsIn K mainGlobals "RULES" = some (some (.ref ra)))
  {odA : Option Addr} {nA : Nat} {slA : Array (Option Value)} (lA : K.lookup ra = some ⟨.type "tuple", odA, .seq #[.ref r0, .ref r1, .ref r2, .ref r3, .ref r4] nA, slA⟩)
  {ta0 tb0 : Tok} {odR0 : Option Addr} {nR0 : Nat} {slR0 : Array (Option Value)} (lR0 : K.lookup r0 = some ⟨.type "tuple", odR0, .seq #[.int 3 ta0, .int 2 tb0, .ref l0] nR0, slR0⟩)
  {p0_0 : Addr} {odL0 : Option Addr} {nL0 : Nat} {slL0 : Array (Option Value)} (lL0 : K.lookup l0 = some ⟨.type "tuple", odL0, .seq #[.ref p0_0] nL0, slL0⟩)
  {t0_0_0 t0_0_1 t0_0_2 : Tok} {odT0_0 : Option Addr} {nT0_0 : Nat} {slT0_0 : Array (Option Value)} (lT0_0 : K.lookup p0_0 = some ⟨.type "tuple", odT0_0, .seq #[.int 1 t0_0_0, .int 0 t0_0_1, .int 0 t0_0_2] nT0_0, slT0_0⟩)
  {ta1 tb1 : Tok} {odR1 : Option Addr} {nR1 : Nat} {slR1 : Array (Option Value)} (lR1 : K.lookup r1 = some ⟨.type "tuple", odR1, .seq #[.int 3 ta1, .int 3 tb1, .ref l1] nR1, slR1⟩)
  {p1_0 p1_1 p1_2 : Addr} {odL1 : Option Addr} {nL1 : Nat} {slL1 : Array (Option Value)} (lL1 : K.lookup l1 = some ⟨.type "tuple", odL1, .seq #[.ref p1_0, .ref p1_1, .ref p1_2] nL1, slL1⟩)
  {t1_0_0 t1_0_1 t1_0_2 : Tok} {odT1_0 : Option Addr} {nT1_0 : Nat} {slT1_0 : Array (Option Value)} (lT1_0 : K.lookup p1_0 = some ⟨.type "tuple", odT1_0, .seq #[.int 0 t1_0_0, .int 0 t1_0_1, .int 1 t1_0_2] nT1_0, slT1_0⟩)
  {t1_1_0 t1_1_1 t1_1_2 : Tok} {odT1_1 : Option Addr} {nT1_1 : Nat} {slT1_1 : Array (Option Value)} (lT1_1 : K.lookup p1_1 = some ⟨.type "tuple", odT1_1, .seq #[.int 0 t1_1_0, .int 1 t1_1_1, .int 1 t1_1_2] nT1_1, slT1_1⟩)
  {t1_2_0 t1_2_1 t1_2_2 : Tok} {odT1_2 : Option Addr} {nT1_2 : Nat} {slT1_2 : Array (Option Value)} (lT1_2 : K.lookup p1_2 = some ⟨.type "tuple", odT1_2, .seq #[.int 1 t1_2_0, .int 0 t1_2_1, .int 1 t1_2_2] nT1_2, slT1_2⟩)
  {ta2 tb2 : Tok} {odR2 : Option Addr} {nR2 : Nat} {slR2 : Array (Option Value)} (lR2 : K.lookup r2 = some ⟨.type "tuple", odR2, .seq #[.int 3 ta2, .int 4 tb2, .ref l2] nR2, slR2⟩)
  {p2_0 p2_1 p2_2 p2_3 p2_4 p2_5 p2_6 p2_7 : Addr} {odL2 : Option Addr} {nL2 : Nat} {slL2 : Array (Option Value)} (lL2 : K.lookup l2 = some ⟨.type "tuple", odL2, .seq #[.ref p2_0, .ref p2_1, .ref p2_2, .ref p2_3, .ref p2_4, .ref p2_5, .ref p2_6, .ref p2_7] nL2, slL2⟩)
  {t2_0_0 t2_0_1 t2_0_2 : Tok} {odT2_0 : Option Addr} {nT2_0 : Nat} {slT2_0 : Array (Option Value)} (lT2_0 : K.lookup p2_0 = some ⟨.type "tuple", odT2_0, .seq #[.int 0 t2_0_0, .int 0 t2_0_1, .int 1 t2_0_2] nT2_0, slT2_0⟩)
  {t2_1_0 t2_1_1 t2_1_2 : Tok} {odT2_1 : Option Addr} {nT2_1 : Nat} {slT2_1 : Array (Option Value)} (lT2_1 : K.lookup p2_1 = some ⟨.type "tuple", odT2_1, .seq #[.int 0 t2_1_0, .int 1 t2_1_1, .int 1 t2_1_2] nT2_1, slT2_1⟩)
  {t2_2_0 t2_2_1 t2_2_2 : Tok} {odT2_2 : Option Addr} {nT2_2 : Nat} {slT2_2 : Array (Option Value)} (lT2_2 : K.lookup p2_2 = some ⟨.type "tuple", odT2_2, .seq #[.int 1 t2_2_0, .int 0 t2_2_1, .int 1 t2_2_2] nT2_2, slT2_2⟩)
  {t2_3_0 t2_3_1 t2_3_2 : Tok} {odT2_3 : Option Addr} {nT2_3 : Nat} {slT2_3 : Array (Option Value)} (lT2_3 : K.lookup p2_3 = some ⟨.type "tuple", odT2_3, .seq #[.int 1 t2_3_0, .int 1 t2_3_1, .int 2 t2_3_2] nT2_3, slT2_3⟩)
  {t2_4_0 t2_4_1 t2_4_2 : Tok} {odT2_4 : Option Addr} {nT2_4 : Nat} {slT2_4 : Array (Option Value)} (lT2_4 : K.lookup p2_4 = some ⟨.type "tuple", odT2_4, .seq #[.int 1 t2_4_0, .int 2 t2_4_1, .int 1 t2_4_2] nT2_4, slT2_4⟩)
  {t2_5_0 t2_5_1 t2_5_2 : Tok} {odT2_5 : Option Addr} {nT2_5 : Nat} {slT2_5 : Array (Option Value)} (lT2_5 : K.lookup p2_5 = some ⟨.type "tuple", odT2_5, .seq #[.int 1 t2_5_0, .int 3 t2_5_1, .int 2 t2_5_2] nT2_5, slT2_5⟩)
  {t2_6_0 t2_6_1 t2_6_2 : Tok} {odT2_6 : Option Addr} {nT2_6 : Nat} {slT2_6 : Array (Option Value)} (lT2_6 : K.lookup p2_6 = some ⟨.type "tuple", odT2_6, .seq #[.int 2 t2_6_0, .int 1 t2_6_1, .int 1 t2_6_2] nT2_6, slT2_6⟩)
  {t2_7_0 t2_7_1 t2_7_2 : Tok} {odT2_7 : Option Addr} {nT2_7 : Nat} {slT2_7 : Array (Option Value)} (lT2_7 : K.lookup p2_7 = some ⟨.type "tuple", odT2_7, .seq #[.int 2 t2_7_0, .int 2 t2_7_1, .int 1 t2_7_2] nT2_7, slT2_7⟩)
  {ta3 tb3 : Tok} {odR3 : Option Addr} {nR3 : Nat} {slR3 : Array (Option Value)} (lR3 : K.lookup r3 = some ⟨.type "tuple", odR3, .seq #[.int 4 ta3, .int 2 tb3, .ref l3] nR3, slR3⟩)
  {p3_0 p3_1 : Addr} {odL3 : Option Addr} {nL3 : Nat} {slL3 : Array (Option Value)} (lL3 : K.lookup l3 = some ⟨.type "tuple", odL3, .seq #[.ref p3_0, .ref p3_1] nL3, slL3⟩)
  {t3_0_0 t3_0_1 t3_0_2 t3_0_3 : Tok} {odT3_0 : Option Addr} {nT3_0 : Nat} {slT3_0 : Array (Option Value)} (lT3_0 : K.lookup p3_0 = some ⟨.type "tuple", odT3_0, .seq #[.int 1 t3_0_0, .int 0 t3_0_1, .int 0 t3_0_2, .int 0 t3_0_3] nT3_0, slT3_0⟩)
  {t3_1_0 t3_1_1 t3_1_2 t3_1_3 : Tok} {odT3_1 : Option Addr} {nT3_1 : Nat} {slT3_1 : Array (Option Value)} (lT3_1 : K.lookup p3_1 = some ⟨.type "tuple", odT3_1, .seq #[.int 1 t3_1_0, .int 0 t3_1_1, .int 1 t3_1_2, .int 1 t3_1_3] nT3_1, slT3_1⟩)
  {ta4 tb4 : Tok} {odR4 : Option Addr} {nR4 : Nat} {slR4 : Array (Option Value)} (lR4 : K.lookup r4 = some ⟨.type "tuple", odR4, .seq #[.int 5 ta4, .int 2 tb4, .ref l4] nR4, slR4⟩)
  {p4_0 p4_1 p4_2 : Addr} {odL4 : Option Addr} {nL4 : Nat} {slL4 : Array (Option Value)} (lL4 : K.lookup l4 = some ⟨.type "tuple", odL4, .seq #[.ref p4_0, .ref p4_1, .ref p4_2] nL4, slL4⟩)
  {t4_0_0 t4_0_1 t4_0_2 t4_0_3 t4_0_4 : Tok} {odT4_0 : Option Addr} {nT4_0 : Nat} {slT4_0 : Array (Option Value)} (lT4_0 : K.lookup p4_0 = some ⟨.type "tuple", odT4_0, .seq #[.int 1 t4_0_0, .int 0 t4_0_1, .int 0 t4_0_2, .int 0 t4_0_3, .int 0 t4_0_4] nT4_0, slT4_0⟩)
  {t4_1_0 t4_1_1 t4_1_2 t4_1_3 t4_1_4 : Tok} {odT4_1 : Option Addr} {nT4_1 : Nat} {slT4_1 : Array (Option Value)} (lT4_1 : K.lookup p4_1 = some ⟨.type "tuple", odT4_1, .seq #[.int 1 t4_1_0, .int 0 t4_1_1, .int 0 t4_1_2, .int 1 t4_1_3, .int 1 t4_1_4] nT4_1, slT4_1⟩)
  {t4_2_0 t4_2_1 t4_2_2 t4_2_3 t4_2_4 : Tok} {odT4_2 : Option Addr} {nT4_2 : Nat} {slT4_2 : Array (Option Value)} (lT4_2 : K.lookup p4_2 = some ⟨.type "tuple", odT4_2, .seq #[.int 1 t4_2_0, .int 1 t4_2_1, .int 1 t4_2_2, .int 0 t4_2_3, .int 0 t4_2_4] nT4_2, slT4_2⟩) :
    Rules K mg ra [r0, r1, r2, r3, r4] [l0, l1, l2, l3, l4] where
  g := PySem.W.mg_of X G a
  lr := rfl
  ll := rfl
  all := sqt_k (xs := [.ref r0, .ref r1, .ref r2, .ref r3, .ref r4]) lA (Nat.le_of_ble_eq_true rfl) (.cons rvR (.cons rvR (.cons rvR (.cons rvR (.cons rvR .nil)))))
  row := fun i r l k hr hl hk H => match i, hr, hl, hk, H with
    | 0, hr, hl, hk, H => by
      cases hr
      cases hl
      cases hk
      exact sqt_k (xs := [.int 3, .int 2, .ref l0]) lR0 (Nat.le_of_ble_eq_true rfl) (.cons rvI (.cons rvI (.cons rvR .nil))) H
    | 1, hr, hl, hk, H => by
      cases hr
      cases hl
      cases hk
      exact sqt_k (xs := [.int 3, .int 3, .ref l1]) lR1 (Nat.le_of_ble_eq_true rfl) (.cons rvI (.cons rvI (.cons rvR .nil))) H
    | 2, hr, hl, hk, H => by
      cases hr
      cases hl
      cases hk
      exact sqt_k (xs := [.int 3, .int 4, .ref l2]) lR2 (Nat.le_of_ble_eq_true rfl) (.cons rvI (.cons rvI (.cons rvR .nil))) H
    | 3, hr, hl, hk, H => by
      cases hr
      cases hl
      cases hk
      exact sqt_k (xs := [.int 4, .int 2, .ref l3]) lR3 (Nat.le_of_ble_eq_true rfl) (.cons rvI (.cons rvI (.cons rvR .nil))) H
    | 4, hr, hl, hk, H => by
      cases hr
      cases hl
      cases hk
      exact sqt_k (xs := [.int 5, .int 2, .ref l4]) lR4 (Nat.le_of_ble_eq_true rfl) (.cons rvI (.cons rvI (.cons rvR .nil))) H
    | i + 5, hr, _, _, _ => absurd hr (by simp)
  lst := fun i l k hl hk => match i, hl, hk with
    | 0, hl, hk => by
      cases hl
      cases hk
      exact ⟨[p0_0], sqt_k (xs := [.ref p0_0]) lL0 (Nat.le_of_ble_eq_true rfl) (.cons rvR .nil), fun H => (.cons (sqt_k (xs := List.map V.int [1, 0, 0]) lT0_0 (Nat.le_of_ble_eq_true rfl) (.cons rvI (.cons rvI (.cons rvI .nil))) H) .nil)⟩
    | 1, hl, hk => by
      cases hl
      cases hk
      exact ⟨[p1_0, p1_1, p1_2], sqt_k (xs := [.ref p1_0, .ref p1_1, .ref p1_2]) lL1 (Nat.le_of_ble_eq_true rfl) (.cons rvR (.cons rvR (.cons rvR .nil))), fun H => (.cons (sqt_k (xs := List.map V.int [0, 0, 1]) lT1_0 (Nat.le_of_ble_eq_true rfl) (.cons rvI (.cons rvI (.cons rvI .nil))) H) (.cons (sqt_k (xs := List.map V.int [0, 1, 1]) lT1_1 (Nat.le_of_ble_eq_true rfl) (.cons rvI (.cons rvI (.cons rvI .nil))) H) (.cons (sqt_k (xs := List.map V.int [1, 0, 1]) lT1_2 (Nat.le_of_ble_eq_true rfl) (.cons rvI (.cons rvI (.cons rvI .nil))) H) .nil)))⟩
    | 2, hl, hk => by
      cases hl
      cases hk
      exact ⟨[p2_0, p2_1, p2_2, p2_3, p2_4, p2_5, p2_6, p2_7], sqt_k (xs := [.ref p2_0, .ref p2_1, .ref p2_2, .ref p2_3, .ref p2_4, .ref p2_5, .ref p2_6, .ref p2_7]) lL2 (Nat.le_of_ble_eq_true rfl) (.cons rvR (.cons rvR (.cons rvR (.cons rvR (.cons rvR (.cons rvR (.cons rvR (.cons rvR .nil)))))))), fun H => (.cons (sqt_k (xs := List.map V.int [0, 0, 1]) lT2_0 (Nat.le_of_ble_eq_true rfl) (.cons rvI (.cons rvI (.cons rvI .nil))) H) (.cons (sqt_k (xs := List.map V.int [0, 1, 1]) lT2_1 (Nat.le_of_ble_eq_true rfl) (.cons rvI (.cons rvI (.cons rvI .nil))) H) (.cons (sqt_k (xs := List.map V.int [1, 0, 1]) lT2_2 (Nat.le_of_ble_eq_true rfl) (.cons rvI (.cons rvI (.cons rvI .nil))) H) (.cons (sqt_k (xs := List.map V.int [1, 1, 2]) lT2_3 (Nat.le_of_ble_eq_true rfl) (.cons rvI (.cons rvI (.cons rvI .nil))) H) (.cons (sqt_k (xs := List.map V.int [1, 2, 1]) lT2_4 (Nat.le_of_ble_eq_true rfl) (.cons rvI (.cons rvI (.cons rvI .nil))) H) (.cons (sqt_k (xs := List.map V.int [1, 3, 2]) lT2_5 (Nat.le_of_ble_eq_true rfl) (.cons rvI (.cons rvI (.cons rvI .nil))) H) (.cons (sqt_k (xs := List.map V.int [2, 1, 1]) lT2_6 (Nat.le_of_ble_eq_true rfl) (.cons rvI (.cons rvI (.cons rvI .nil))) H) (.cons (sqt_k (xs := List.map V.int [2, 2, 1]) lT2_7 (Nat.le_of_ble_eq_true rfl) (.cons rvI (.cons rvI (.cons rvI .nil))) H) .nil))))))))⟩
    | 3, hl, hk => by
      cases hl
      cases hk
      exact ⟨[p3_0, p3_1], sqt_k (xs := [.ref p3_0, .ref p3_1]) lL3 (Nat.le_of_ble_eq_true rfl) (.cons rvR (.cons rvR .nil)), fun H => (.cons (sqt_k (xs := List.map V.int [1, 0, 0, 0]) lT3_0 (Nat.le_of_ble_eq_true rfl) (.cons rvI (.cons rvI (.cons rvI (.cons rvI .nil)))) H) (.cons (sqt_k (xs := List.map V.int [1, 0, 1, 1]) lT3_1 (Nat.le_of_ble_eq_true rfl) (.cons rvI (.cons rvI (.cons rvI (.cons rvI .nil)))) H) .nil))⟩
    | 4, hl, hk => by
      cases hl
      cases hk
      exact ⟨[p4_0, p4_1, p4_2], sqt_k (xs := [.ref p4_0, .ref p4_1, .ref p4_2]) lL4 (Nat.le_of_ble_eq_true rfl) (.cons rvR (.cons rvR (.cons rvR .nil))), fun H => (.cons (sqt_k (xs := List.map V.int [1, 0, 0, 0, 0]) lT4_0 (Nat.le_of_ble_eq_true rfl) (.cons rvI (.cons rvI (.cons rvI (.cons rvI (.cons rvI .nil))))) H) (.cons (sqt_k (xs := List.map V.int [1, 0, 0, 1, 1]) lT4_1 (Nat.le_of_ble_eq_true rfl) (.cons rvI (.cons rvI (.cons rvI (.cons rvI (.cons rvI .nil))))) H) (.cons (sqt_k (xs := List.map V.int [1, 1, 1, 0, 0]) lT4_2 (Nat.le_of_ble_eq_true rfl) (.cons rvI (.cons rvI (.cons rvI (.cons rvI (.cons rvI .nil))))) H) .nil)))⟩
    | i + 5, hl, _ => absurd hl (by simp)
end Rm

/-! ## the end -/
set_option maxHeartbeats 0
section
open PySem PySem.W PyProof.Rows
open_top hd82 for PySem.Challenge.rw_rightmarks_k82_whole_rules_by_rests
theorem PySem.Challenge.cw_rightmarks_k82_whole_rules_by_rests_holds : PySem.Challenge.rw_rightmarks_k82_whole_rules_by_rests.Holds := by
  exact hd82 (by
    k_fill
    refine L2.walk_of (l := PySem.Challenge.rw_rightmarks_k82_whole_rules_by_rests) (n := 63) (k := 7) (x := "_law_script") (CX := fun _ => L2.CX0) (sp := fun w => Rm.spLaw _) rfl (by decide) rfl ⟨rfl, by decide, by decide⟩ (fun w h Y => PySem.W.kIn_of Y) ?F (fun _ _ a ns hl _ hS => ⟨a, ns, rfl, hS, hl, fun _ => rfl⟩) (fun _ _ _ _ _ h => h)
    case F =>
      intro w mg fa h KX G hmg
      refine' Rm.all_mk KX G hmg ?F_divisor_of ?F_common_divisor ?F_dot_by ?F_is_integer ?F_are_integers ?F_is_ray ?F_is_ray_of ?F_are_ascending ?F_is_class_size ?F_is_prime ?F_are_primes ?F_length_by ?F_is_within ?F_moduli_for ?F_want ?F_want_class ?F_is_in_class ?F_rules_for ?F_moduli_by ?F_is_modulus ?F_rests_by ?F_rest_by ?F_is_ruled_by ?F_is_marked_by ?F_want_rule ?F_rest_of ?F_is_ruled ?F_is_marked ?F__law_source ?F__law_draw ?F__law_ray ?F__law_dot ?F__law_lists ?F__law_is_for ?F__law_marks_it ?F__law_cross ?F__law_some ?F__law_frame ?F__law_ray_right ?F__law_class_right ?F_law ?z_abs ?z_all ?z_bool ?z_int ?z_isinstance ?z_len ?z_min ?z_range ?z_repr ?z_sum ?z_tuple ?z_zip ?g_LEAST_CLASS ?g_MOST_CLASS ?g_TOP_PRIME ?g_TOP_ROOT ?g_OPEN ?g_FOURTH ?R
      (case F_divisor_of => refine' Rm.fnF_mk ?a ?l ?c ?k; (case a => k_is); (case l => k_is); (case c => k_is); (case k => k_is))
      (case F_common_divisor => refine' Rm.fnF_mk ?a ?l ?c ?k; (case a => k_is); (case l => k_is); (case c => k_is); (case k => k_is))
      (case F_dot_by => refine' Rm.fnF_mk ?a ?l ?c ?k; (case a => k_is); (case l => k_is); (case c => k_is); (case k => k_is))
      (case F_is_integer => refine' Rm.fnF_mk ?a ?l ?c ?k; (case a => k_is); (case l => k_is); (case c => k_is); (case k => k_is))
      (case F_are_integers => refine' Rm.fnF_mk ?a ?l ?c ?k; (case a => k_is); (case l => k_is); (case c => k_is); (case k => k_is))
      (case F_is_ray => refine' Rm.fnF_mk ?a ?l ?c ?k; (case a => k_is); (case l => k_is); (case c => k_is); (case k => k_is))
      (case F_is_ray_of => refine' Rm.fnF_mk ?a ?l ?c ?k; (case a => k_is); (case l => k_is); (case c => k_is); (case k => k_is))
      (case F_are_ascending => refine' Rm.fnF_mk ?a ?l ?c ?k; (case a => k_is); (case l => k_is); (case c => k_is); (case k => k_is))
      (case F_is_class_size => refine' Rm.fnF_mk ?a ?l ?c ?k; (case a => k_is); (case l => k_is); (case c => k_is); (case k => k_is))
      (case F_is_prime => refine' Rm.fnF_mk ?a ?l ?c ?k; (case a => k_is); (case l => k_is); (case c => k_is); (case k => k_is))
      (case F_are_primes => refine' Rm.fnF_mk ?a ?l ?c ?k; (case a => k_is); (case l => k_is); (case c => k_is); (case k => k_is))
      (case F_length_by => refine' Rm.fnF_mk ?a ?l ?c ?k; (case a => k_is); (case l => k_is); (case c => k_is); (case k => k_is))
      (case F_is_within => refine' Rm.fnF_mk ?a ?l ?c ?k; (case a => k_is); (case l => k_is); (case c => k_is); (case k => k_is))
      (case F_moduli_for => refine' Rm.fnF_mk ?a ?l ?c ?k; (case a => k_is); (case l => k_is); (case c => k_is); (case k => k_is))
      (case F_want => refine' Rm.fnFW_mk ?a ?l ?c ?k ?t; (case a => k_is); (case l => k_is); (case c => k_is); (case k => k_is); (case t => k_is))
      (case F_want_class => refine' Rm.fnF_mk ?a ?l ?c ?k; (case a => k_is); (case l => k_is); (case c => k_is); (case k => k_is))
      (case F_is_in_class => refine' Rm.fnF_mk ?a ?l ?c ?k; (case a => k_is); (case l => k_is); (case c => k_is); (case k => k_is))
      (case F_rules_for => refine' Rm.fnF_mk ?a ?l ?c ?k; (case a => k_is); (case l => k_is); (case c => k_is); (case k => k_is))
      (case F_moduli_by => refine' Rm.fnF_mk ?a ?l ?c ?k; (case a => k_is); (case l => k_is); (case c => k_is); (case k => k_is))
      (case F_is_modulus => refine' Rm.fnF_mk ?a ?l ?c ?k; (case a => k_is); (case l => k_is); (case c => k_is); (case k => k_is))
      (case F_rests_by => refine' Rm.fnF_mk ?a ?l ?c ?k; (case a => k_is); (case l => k_is); (case c => k_is); (case k => k_is))
      (case F_rest_by => refine' Rm.fnF_mk ?a ?l ?c ?k; (case a => k_is); (case l => k_is); (case c => k_is); (case k => k_is))
      (case F_is_ruled_by => refine' Rm.fnF_mk ?a ?l ?c ?k; (case a => k_is); (case l => k_is); (case c => k_is); (case k => k_is))
      (case F_is_marked_by => refine' Rm.fnF_mk ?a ?l ?c ?k; (case a => k_is); (case l => k_is); (case c => k_is); (case k => k_is))
      (case F_want_rule => refine' Rm.fnF_mk ?a ?l ?c ?k; (case a => k_is); (case l => k_is); (case c => k_is); (case k => k_is))
      (case F_rest_of => refine' Rm.fnF_mk ?a ?l ?c ?k; (case a => k_is); (case l => k_is); (case c => k_is); (case k => k_is))
      (case F_is_ruled => refine' Rm.fnF_mk ?a ?l ?c ?k; (case a => k_is); (case l => k_is); (case c => k_is); (case k => k_is))
      (case F_is_marked => refine' Rm.fnF_mk ?a ?l ?c ?k; (case a => k_is); (case l => k_is); (case c => k_is); (case k => k_is))
      (case F__law_source => refine' Rm.fnF_mk ?a ?l ?c ?k; (case a => k_is); (case l => k_is); (case c => k_is); (case k => k_is))
      (case F__law_draw => refine' Rm.fnF_mk ?a ?l ?c ?k; (case a => k_is); (case l => k_is); (case c => k_is); (case k => k_is))
      (case F__law_ray => refine' Rm.fnF_mk ?a ?l ?c ?k; (case a => k_is); (case l => k_is); (case c => k_is); (case k => k_is))
      (case F__law_dot => refine' Rm.fnF_mk ?a ?l ?c ?k; (case a => k_is); (case l => k_is); (case c => k_is); (case k => k_is))
      (case F__law_lists => refine' Rm.fnF_mk ?a ?l ?c ?k; (case a => k_is); (case l => k_is); (case c => k_is); (case k => k_is))
      (case F__law_is_for => refine' Rm.fnF_mk ?a ?l ?c ?k; (case a => k_is); (case l => k_is); (case c => k_is); (case k => k_is))
      (case F__law_marks_it => refine' Rm.fnF_mk ?a ?l ?c ?k; (case a => k_is); (case l => k_is); (case c => k_is); (case k => k_is))
      (case F__law_cross => refine' Rm.fnF_mk ?a ?l ?c ?k; (case a => k_is); (case l => k_is); (case c => k_is); (case k => k_is))
      (case F__law_some => refine' Rm.fnF_mk ?a ?l ?c ?k; (case a => k_is); (case l => k_is); (case c => k_is); (case k => k_is))
      (case F__law_frame => refine' Rm.fnF_mk ?a ?l ?c ?k; (case a => k_is); (case l => k_is); (case c => k_is); (case k => k_is))
      (case F__law_ray_right => refine' Rm.fnF_mk ?a ?l ?c ?k; (case a => k_is); (case l => k_is); (case c => k_is); (case k => k_is))
      (case F__law_class_right => refine' Rm.fnF_mk ?a ?l ?c ?k; (case a => k_is); (case l => k_is); (case c => k_is); (case k => k_is))
      (case F_law => refine' Rm.fnF_mk ?a ?l ?c ?k; (case a => k_is); (case l => k_is); (case c => k_is); (case k => k_is))
      (case z_abs => k_is)
      (case z_all => k_is)
      (case z_bool => k_is)
      (case z_int => k_is)
      (case z_isinstance => k_is)
      (case z_len => k_is)
      (case z_min => k_is)
      (case z_range => k_is)
      (case z_repr => k_is)
      (case z_sum => k_is)
      (case z_tuple => k_is)
      (case z_zip => k_is)
      (case g_LEAST_CLASS => k_is)
      (case g_MOST_CLASS => k_is)
      (case g_TOP_PRIME => k_is)
      (case g_TOP_ROOT => k_is)
      (case g_OPEN =>
        refine' ⟨_, PySem.W.mg_of KX G ?g, Rm.sqt_k ?l ?z ?v⟩
        (case g => k_is); (case l => k_is); (case z => decide); (case v => exact .cons ⟨_, rfl⟩ (.cons ⟨_, rfl⟩ .nil)))
      (case g_FOURTH =>
        refine' ⟨_, PySem.W.mg_of KX G ?g, Rm.sqt_k ?l ?z ?v⟩
        (case g => k_is); (case l => k_is); (case z => decide); (case v => exact .cons ⟨_, rfl⟩ (.cons ⟨_, rfl⟩ (.cons ⟨_, rfl⟩ (.cons ⟨_, rfl⟩ (.cons ⟨_, rfl⟩ (.cons ⟨_, rfl⟩ .nil)))))))
      (case R =>
        refine' Rm.rules_mk KX G ?a ?lA ?lR0 ?lL0 ?lT0_0 ?lR1 ?lL1 ?lT1_0 ?lT1_1 ?lT1_2 ?lR2 ?lL2 ?lT2_0 ?lT2_1 ?lT2_2 ?lT2_3 ?lT2_4 ?lT2_5 ?lT2_6 ?lT2_7 ?lR3 ?lL3 ?lT3_0 ?lT3_1 ?lR4 ?lL4 ?lT4_0 ?lT4_1 ?lT4_2
        (case a => k_is); (case lA => k_is); (case lR0 => k_is); (case lL0 => k_is); (case lT0_0 => k_is); (case lR1 => k_is); (case lL1 => k_is); (case lT1_0 => k_is); (case lT1_1 => k_is); (case lT1_2 => k_is); (case lR2 => k_is); (case lL2 => k_is); (case lT2_0 => k_is); (case lT2_1 => k_is); (case lT2_2 => k_is); (case lT2_3 => k_is); (case lT2_4 => k_is); (case lT2_5 => k_is); (case lT2_6 => k_is); (case lT2_7 => k_is); (case lR3 => k_is); (case lL3 => k_is); (case lT3_0 => k_is); (case lT3_1 => k_is); (case lR4 => k_is); (case lL4 => k_is); (case lT4_0 => k_is); (case lT4_1 => k_is); (case lT4_2 => k_is)))
end
