import PyProof.Rows.All
import Wide.All
import OpenK.AllK
import Wide.FinOn
import PySem.Challenge.RW_jartext_k16_whole_equations_solved
import HandS.Base
import HandS.Call
import HandS.List
import HandS.Words
import HandS.Defaults
import HandS.Exc
import HandS.ExcInit
import HandS.ExcField
import HandS.HeadHook1
import HandS.HeadHook2
import PyProof.EqAt
import PyProof.EqKinds
import PyProof.TupleCall
import HandS.Comp
import HandS.Ends
import HandS.WordsList
import HandS.Iter
import HandS.Zip
import HandS.Style
import HandS.TupAny
import HandS.IsInst
import HandS.Strs
import HandS.DeepEq
import HandS.MakeKwOnly
import HandS.ExcOwn
import HandS.WordsExc
import HandS.Lambda
import HandS.Evl
import HandS.Walk
import KE.KStateDown
import HandS.Head0
import HandS.Head1
import HandS.Head2
import HandS.HeadEnd
import HandS.HeadHook3
import HandS.HeadHook4
import HandS.HeadWalk
set_option Elab.async false
set_option linter.all false
set_option maxRecDepth 100000
/-! The mathematics: linear equations modulo a prime, rows as lists of ints; no program in sight. -/
namespace K16
/-! ### divisibility -/
theorem dvd_sub2 {q a b : Int} (h : q ∣ a) (k : q ∣ b) : q ∣ a - b := by
  obtain ⟨c, rfl⟩ := h
  obtain ⟨d, rfl⟩ := k
  exact ⟨c - d, by rw [Int.mul_sub]⟩
theorem dvd_mod (q a : Int) : q ∣ a - a % q := ⟨a / q, by have := Int.mul_ediv_add_emod a q; omega⟩
theorem dvd_mod' (q a : Int) : q ∣ a % q - a := ⟨-(a / q), by have := Int.mul_ediv_add_emod a q; rw [Int.mul_neg]; omega⟩
theorem dvd_eq {q a b : Int} (h : q ∣ a - b) (ha : 0 ≤ a) (ha2 : a < q) (hb : 0 ≤ b) (hb2 : b < q) : a = b := by
  have e : a % q = b % q := Int.emod_emod_of_dvd a (Int.dvd_refl q) ▸ (Int.emod_emod_of_dvd b (Int.dvd_refl q) ▸ by
    obtain ⟨c, hc⟩ := h
    have : a = b + q * c := by omega
    rw [this, Int.add_mul_emod_self_left])
  rw [Int.emod_eq_of_lt ha ha2, Int.emod_eq_of_lt hb hb2] at e
  exact e
theorem mod_iff {q a : Int} : a % q = 0 ↔ q ∣ a := ⟨Int.dvd_of_emod_eq_zero, Int.emod_eq_zero_of_dvd⟩
/-! ### pieces, rows -/
def Pc (q x : Int) : Prop := 0 ≤ x ∧ x < q
def Row (q : Int) (n : Nat) (r : List Int) : Prop := r.length = n ∧ ∀ p ∈ r, Pc q p
theorem Pc.mod {q : Int} (hq : 0 < q) (a : Int) : Pc q (a % q) := ⟨Int.emod_nonneg _ (by omega), Int.emod_lt_of_pos _ hq⟩
theorem Pc.eq {q x : Int} (h : Pc q x) : x % q = x := Int.emod_eq_of_lt h.1 h.2
theorem getD_pc {q : Int} {n : Nat} {r : List Int} (hq : 0 < q) (h : Row q n r) (j : Nat) : Pc q (r.getD j 0) := by
  rw [List.getD_eq_getElem?_getD]
  cases e : r[j]? with
  | none => exact ⟨Int.le_refl 0, hq⟩
  | some x => exact h.2 x (List.mem_of_getElem? e)
theorem ext_getD {a b : List Int} (hl : a.length = b.length) (h : ∀ j, j < a.length → a.getD j 0 = b.getD j 0) : a = b := by
  apply List.ext_getElem hl
  intro i h1 h2
  have := h i h1
  rw [List.getD_eq_getElem?_getD, List.getD_eq_getElem?_getD, List.getElem?_eq_getElem h1, List.getElem?_eq_getElem h2] at this
  exact this
theorem row_of {q : Int} {r : List Int} (h : ∀ j, j < r.length → Pc q (r.getD j 0)) : Row q r.length r := ⟨rfl, fun p hp => by
  obtain ⟨i, hi, e⟩ := List.mem_iff_getElem.mp hp
  have := h i hi
  rw [List.getD_eq_getElem?_getD, List.getElem?_eq_getElem hi] at this
  rw [← e]; exact this⟩
/-! ### sums of products -/
def dot : List Int → List Int → Int
  | [], _ => 0
  | a :: x, r => a * r.getD 0 0 + dot x r.tail
theorem tail_getD (r : List Int) (j : Nat) : r.tail.getD j 0 = r.getD (j + 1) 0 := by cases r <;> rfl
theorem dot_nil (x : List Int) : dot x [] = 0 := by
  induction x with
  | nil => rfl
  | cons a x ih => show a * 0 + dot x [] = 0; rw [ih]; omega
theorem dot_comm : ∀ x r : List Int, dot x r = dot r x
  | [], r => (dot_nil r).symm
  | a :: x, [] => dot_nil _
  | a :: x, b :: r => by
    show a * b + dot x r = b * a + dot r x
    rw [dot_comm x r, Int.mul_comm]
/-- linear in the row -/
theorem dot_lin {q : Int} (f g : Int) : ∀ (x a b c : List Int), (∀ j, q ∣ a.getD j 0 - (f * b.getD j 0 + g * c.getD j 0)) → q ∣ dot x a - (f * dot x b + g * dot x c)
  | [], _, _, _, _ => ⟨0, by simp [dot]⟩
  | y :: x, a, b, c, h => by
    have ih := dot_lin f g x a.tail b.tail c.tail fun j => by rw [tail_getD, tail_getD, tail_getD]; exact h (j + 1)
    obtain ⟨k, hk⟩ := ih
    obtain ⟨m, hm⟩ := h 0
    show q ∣ (y * a.getD 0 0 + dot x a.tail) - (f * (y * b.getD 0 0 + dot x b.tail) + g * (y * c.getD 0 0 + dot x c.tail))
    refine ⟨y * m + k, ?_⟩
    have e1 : q * (y * m + k) = y * (q * m) + q * k := by rw [Int.mul_add, ← Int.mul_assoc, ← Int.mul_assoc, Int.mul_comm q y]
    rw [e1, ← hk, ← hm]
    simp only [Int.mul_add, Int.mul_sub, Int.add_mul]
    have e2 : f * (y * b.getD 0 0) = y * (f * b.getD 0 0) := by rw [← Int.mul_assoc, ← Int.mul_assoc, Int.mul_comm f y]
    have e3 : g * (y * c.getD 0 0) = y * (g * c.getD 0 0) := by rw [← Int.mul_assoc, ← Int.mul_assoc, Int.mul_comm g y]
    rw [e2, e3]
    omega
/-- two lists that give other products at one place alone -/
theorem dot_diff1 : ∀ (r u v : List Int) (l : Nat), (∀ j, j ≠ l → r.getD j 0 * u.getD j 0 = r.getD j 0 * v.getD j 0) → dot r u - dot r v = r.getD l 0 * u.getD l 0 - r.getD l 0 * v.getD l 0
  | [], u, v, l, _ => by simp [dot]
  | a :: r, u, v, 0, h => by
    have ih := dot_same r u.tail v.tail fun j => by rw [tail_getD, tail_getD]; exact h (j + 1) (by omega)
    show (a * u.getD 0 0 + dot r u.tail) - (a * v.getD 0 0 + dot r v.tail) = a * u.getD 0 0 - a * v.getD 0 0
    omega
  | a :: r, u, v, l + 1, h => by
    have ih := dot_diff1 r u.tail v.tail l fun j hj => by rw [tail_getD, tail_getD]; exact h (j + 1) (by omega)
    have h0 : a * u.getD 0 0 = a * v.getD 0 0 := h 0 (by omega)
    show (a * u.getD 0 0 + dot r u.tail) - (a * v.getD 0 0 + dot r v.tail) = r.getD l 0 * u.getD (l + 1) 0 - r.getD l 0 * v.getD (l + 1) 0
    rw [tail_getD, tail_getD] at ih
    omega
where
  dot_same : ∀ (r u v : List Int), (∀ j, r.getD j 0 * u.getD j 0 = r.getD j 0 * v.getD j 0) → dot r u = dot r v
  | [], _, _, _ => rfl
  | a :: r, u, v, h => by
    have ih := dot_same r u.tail v.tail fun j => by rw [tail_getD, tail_getD]; exact h (j + 1)
    have h0 : a * u.getD 0 0 = a * v.getD 0 0 := h 0
    show a * u.getD 0 0 + dot r u.tail = a * v.getD 0 0 + dot r v.tail
    omega
/-! ### equations -/
/-- what a row leaves at x: its sum less its last piece -/
def res (x r : List Int) : Int := dot x r - r.getD x.length 0
def Sat (q : Int) (rows : List (List Int)) (x : List Int) : Prop := ∀ r ∈ rows, q ∣ res x r
def InS (q : Int) (many : Nat) (rows : List (List Int)) (x : List Int) : Prop := Row q many x ∧ Sat q rows x
theorem res_lin {q : Int} (f g : Int) {x a b c : List Int} (h : ∀ j, q ∣ a.getD j 0 - (f * b.getD j 0 + g * c.getD j 0)) : q ∣ res x a - (f * res x b + g * res x c) := by
  obtain ⟨k, hk⟩ := dot_lin f g x a b c h
  obtain ⟨m, hm⟩ := h x.length
  refine ⟨k - m, ?_⟩
  unfold res
  simp only [Int.mul_sub]
  rw [← hk, ← hm]
  omega
/-- s + f (t - u), piece by piece -/
theorem res_move {q : Int} (f : Int) {w s t u r : List Int} (h1 : w.length = s.length) (h2 : t.length = s.length) (h3 : u.length = s.length) (h : ∀ j, q ∣ w.getD j 0 - (s.getD j 0 + f * (t.getD j 0 - u.getD j 0))) :
    q ∣ res w r - (res s r + f * (res t r - res u r)) := by
  have e0 : ∀ j, ((List.zipWith (fun a b => a - b) t u)).getD j 0 = t.getD j 0 - u.getD j 0 := fun j => by
    rw [List.getD_eq_getElem?_getD, List.getD_eq_getElem?_getD, List.getD_eq_getElem?_getD, List.getElem?_zipWith]
    by_cases hj : j < s.length
    · rw [List.getElem?_eq_getElem (by omega), List.getElem?_eq_getElem (by omega)]; rfl
    · rw [List.getElem?_eq_none (by omega), List.getElem?_eq_none (by omega)]; rfl
  have d1 := dot_lin (q := q) 1 f r w s (List.zipWith (fun a b => a - b) t u) fun j => by rw [e0]; simpa using h j
  have d2 := dot_lin (q := 0) 1 (-1) r (List.zipWith (fun a b => a - b) t u) t u fun j => by rw [e0]; exact ⟨0, by omega⟩
  obtain ⟨k, hk⟩ := d1
  obtain ⟨m, hm⟩ := d2
  have hm' : dot r (List.zipWith (fun a b => a - b) t u) = dot r t - dot r u := by omega
  refine ⟨k, ?_⟩
  unfold res
  rw [← hk, hm', h1, h2, h3, dot_comm w r, dot_comm s r, dot_comm t r, dot_comm u r]
  simp only [Int.mul_sub]
  omega
/-! ### the solution that is due -/
/-- all solutions that agree behind c agree at c -/
def Bound (q : Int) (many : Nat) (rows : List (List Int)) (c : Nat) : Prop := ∀ u v, InS q many rows u → InS q many rows v → (∀ j, c < j → u.getD j 0 = v.getD j 0) → u.getD c 0 = v.getD c 0
structure Canon (q : Int) (many : Nat) (rows : List (List Int)) (x : List Int) : Prop where
  ins : InS q many rows x
  zero : ∀ c, c < many → x.getD c 0 = 0 ∨ Bound q many rows c
def Ans (q : Int) (many : Nat) (rows : List (List Int)) : Option (List Int) → Prop
  | none => ∀ x, ¬ InS q many rows x
  | some x => Canon q many rows x
/-- the last place at which two lists differ -/
theorem last_diff (a b : List Int) : ∀ n : Nat, (∀ j, j < n → a.getD j 0 = b.getD j 0) ∨ ∃ c, c < n ∧ a.getD c 0 ≠ b.getD c 0 ∧ ∀ j, c < j → j < n → a.getD j 0 = b.getD j 0
  | 0 => .inl fun j h => by omega
  | n + 1 => by
    by_cases e : a.getD n 0 = b.getD n 0
    · rcases last_diff a b n with h | ⟨c, h1, h2, h3⟩
      · left; intro j hj
        by_cases k : j = n
        · rw [k]; exact e
        · exact h j (by omega)
      · refine .inr ⟨c, by omega, h2, fun j h4 h5 => ?_⟩
        by_cases k : j = n
        · rw [k]; exact e
        · exact h3 j h4 (by omega)
    · exact .inr ⟨n, by omega, e, fun j h4 h5 => by omega⟩
theorem getD_over {a : List Int} {n j : Nat} (h : a.length = n) (hj : n ≤ j) : a.getD j 0 = 0 := by
  rw [List.getD_eq_getElem?_getD, List.getElem?_eq_none (by omega)]; rfl
theorem Canon.unique {q : Int} {many : Nat} {rows : List (List Int)} {x y : List Int} (a : Canon q many rows x) (b : Canon q many rows y) : x = y := by
  refine ext_getD (by rw [a.ins.1.1, b.ins.1.1]) fun j hj => ?_
  rw [a.ins.1.1] at hj
  rcases last_diff x y many with h | ⟨c, h1, h2, h3⟩
  · exact h j hj
  · refine absurd ?_ h2
    have h4 : ∀ j, c < j → x.getD j 0 = y.getD j 0 := fun j hj => by
      by_cases k : j < many
      · exact h3 j hj k
      · rw [getD_over a.ins.1.1 (by omega), getD_over b.ins.1.1 (by omega)]
    rcases a.zero c h1 with z | z
    · rcases b.zero c h1 with z' | z'
      · rw [z, z']
      · exact z' x y a.ins b.ins h4
    · exact z x y a.ins b.ins h4
theorem Ans.unique {q : Int} {many : Nat} {rows : List (List Int)} : ∀ {a b : Option (List Int)}, Ans q many rows a → Ans q many rows b → a = b
  | none, none, _, _ => rfl
  | none, some y, h, k => absurd k.ins (h y)
  | some x, none, h, k => absurd h.ins (k x)
  | some x, some y, h, k => by rw [Canon.unique h k]
/-- the same solutions -/
def Like (q : Int) (many : Nat) (rows rows' : List (List Int)) : Prop := ∀ x : List Int, x.length = many → (Sat q rows x ↔ Sat q rows' x)
theorem Like.ins {q : Int} {many : Nat} {rows rows' : List (List Int)} (l : Like q many rows rows') (x : List Int) : InS q many rows x ↔ InS q many rows' x :=
  ⟨fun h => ⟨h.1, (l x h.1.1).mp h.2⟩, fun h => ⟨h.1, (l x h.1.1).mpr h.2⟩⟩
theorem Like.refl {q : Int} {many : Nat} {rows : List (List Int)} : Like q many rows rows := fun _ _ => Iff.rfl
theorem Like.symm {q : Int} {many : Nat} {rows rows' : List (List Int)} (l : Like q many rows rows') : Like q many rows' rows := fun x h => (l x h).symm
theorem Like.trans {q : Int} {many : Nat} {rows rows' rows2 : List (List Int)} (l : Like q many rows rows') (m : Like q many rows' rows2) : Like q many rows rows2 := fun x h => (l x h).trans (m x h)
theorem Ans.like {q : Int} {many : Nat} {rows rows' : List (List Int)} (l : Like q many rows rows') : ∀ {a : Option (List Int)}, Ans q many rows a → Ans q many rows' a
  | none, h => fun x k => h x ((l.ins x).mpr k)
  | some x, h => ⟨(l.ins x).mp h.ins, fun c hc => (h.zero c hc).imp id fun z u v hu hv => z u v ((l.ins u).mpr hu) ((l.ins v).mpr hv)⟩
theorem Like.mem {q : Int} {many : Nat} {rows rows' : List (List Int)} (h : ∀ r, r ∈ rows ↔ r ∈ rows') : Like q many rows rows' := fun x _ => ⟨fun k r hr => k r ((h r).mpr hr), fun k r hr => k r ((h r).mp hr)⟩
/-! ### primes and inverses -/
def primes : List Int := [2, 3, 5, 7, 11, 13, 17, 19, 23, 29, 31]
def pw (p q : Int) : Nat → Int
  | 0 => 1
  | n + 1 => pw p q n * p % q
def inv (p q : Int) : Int := pw p q (q - 2).toNat
theorem prime_pos {q : Int} (h : q ∈ primes) : 2 ≤ q ∧ q ≤ 31 := by
  have : ∀ q ∈ primes, 2 ≤ q ∧ q ≤ 31 := by decide
  exact this q h
theorem inv_all : (primes.all fun q => (List.range 31).all fun p => (p == 0) || decide (q ≤ (p : Int)) || (decide (inv p q * p % q = 1) && decide (0 < inv p q) && decide (inv p q < q))) = true := by decide +kernel
theorem inv_ok {q p : Int} (h : q ∈ primes) (h1 : 0 < p) (h2 : p < q) : inv p q * p % q = 1 ∧ Pc q (inv p q) := by
  have a := List.all_eq_true.mp inv_all q h
  have b := List.all_eq_true.mp a p.toNat (List.mem_range.mpr (by have := prime_pos h; omega))
  have e : ((p.toNat : Nat) : Int) = p := by omega
  rw [e] at b
  have h0 : ¬ (p.toNat == 0) = true := by simp; omega
  have h3 : ¬ q ≤ p := by omega
  simp [h0, h3] at b
  obtain ⟨⟨b1, b2⟩, b3⟩ := b
  exact ⟨b1, by omega, b3⟩
theorem pw_pc {p q : Int} (hq : 2 ≤ q) : ∀ n, Pc q (pw p q n)
  | 0 => ⟨by show (0 : Int) ≤ 1; omega, by show (1 : Int) < q; omega⟩
  | n + 1 => Pc.mod (by omega) _
/-- f may be divided by -/
def Unit (q f : Int) : Prop := ∃ g, q ∣ g * f - 1
theorem unit_of {q f : Int} (h : q ∈ primes) (h1 : 0 < f) (h2 : f < q) : Unit q f := ⟨inv f q, by
  have e := (inv_ok h h1 h2).1
  have := dvd_mod q (inv f q * f)
  rw [e] at this
  exact this⟩
theorem unit_inv {q f : Int} (h : q ∈ primes) (h1 : 0 < f) (h2 : f < q) : Unit q (inv f q) := ⟨f, by
  have e := (inv_ok h h1 h2).1
  have := dvd_mod q (inv f q * f)
  rw [e, Int.mul_comm] at this
  exact this⟩
theorem unit_cancel {q f r : Int} (u : Unit q f) (h : q ∣ f * r) : q ∣ r := by
  obtain ⟨g, c, hc⟩ := u
  obtain ⟨d, hd⟩ := h
  refine ⟨g * d - c * r, ?_⟩
  have e1 : g * (f * r) = g * (q * d) := by rw [hd]
  have e2 : (g * f - 1) * r = q * c * r := by rw [hc]
  rw [Int.sub_mul, Int.one_mul] at e2
  rw [← Int.mul_assoc] at e1
  rw [Int.mul_sub, ← Int.mul_assoc q c r, ← e2, ← Int.mul_assoc q g d, Int.mul_comm q g, Int.mul_assoc g q d, ← hd, ← Int.mul_assoc]
  omega
end K16

set_option Elab.async false
set_option linter.all false
set_option maxRecDepth 100000
/-! Elimination, reduced rows, the brute force's answer, stirred rows. -/
namespace K16
/-! ### rows by place -/
def at2 (T : List (List Int)) (i j : Nat) : Int := (T.getD i []).getD j 0
def scaledL (r : List Int) (f q : Int) : List Int := r.map fun p => p * f % q
def lessL (r l : List Int) (t q : Int) : List Int := (r.zip l).map fun p => (p.1 - t * p.2) % q
theorem getD_lt {α : Type} {l : List α} {i : Nat} (d : α) (h : i < l.length) : l.getD i d = l[i] := by
  rw [List.getD_eq_getElem?_getD, List.getElem?_eq_getElem h]; rfl
theorem getD_ge {α : Type} {l : List α} {i : Nat} (d : α) (h : l.length ≤ i) : l.getD i d = d := by
  rw [List.getD_eq_getElem?_getD, List.getElem?_eq_none h]; rfl
theorem scaled_getD (r : List Int) (f q : Int) (j : Nat) : (scaledL r f q).getD j 0 = r.getD j 0 * f % q := by
  unfold scaledL
  by_cases h : j < r.length
  · rw [getD_lt 0 (by rw [List.length_map]; exact h), getD_lt 0 h, List.getElem_map]
  · rw [getD_ge 0 (by rw [List.length_map]; omega), getD_ge 0 (by omega)]; simp
theorem less_getD {r l : List Int} (h : r.length = l.length) (t q : Int) (j : Nat) : (lessL r l t q).getD j 0 = (r.getD j 0 - t * l.getD j 0) % q := by
  unfold lessL
  by_cases hj : j < r.length
  · have hz : j < (r.zip l).length := by rw [List.length_zip]; omega
    rw [getD_lt 0 (by rw [List.length_map]; exact hz), getD_lt 0 hj, getD_lt 0 (by omega), List.getElem_map, List.getElem_zip]
  · rw [getD_ge 0 (by rw [List.length_map, List.length_zip]; omega), getD_ge 0 (by omega), getD_ge 0 (by omega)]; simp
theorem scaled_row {q : Int} {n : Nat} {r : List Int} (hq : 0 < q) (h : Row q n r) (f : Int) : Row q n (scaledL r f q) := by
  refine ⟨by unfold scaledL; rw [List.length_map]; exact h.1, fun p hp => ?_⟩
  obtain ⟨a, _, rfl⟩ := List.mem_map.mp hp
  exact Pc.mod hq _
theorem less_row {q : Int} {n : Nat} {r l : List Int} (hq : 0 < q) (h : Row q n r) (k : l.length = n) (t : Int) : Row q n (lessL r l t q) := by
  refine ⟨by unfold lessL; rw [List.length_map, List.length_zip, h.1, k, Nat.min_self], fun p hp => ?_⟩
  obtain ⟨a, _, rfl⟩ := List.mem_map.mp hp
  exact Pc.mod hq _
theorem less_zero {q : Int} {n : Nat} {r l : List Int} (hq : 0 < q) (h : Row q n r) (k : l.length = n) : lessL r l 0 q = r := by
  have e : (lessL r l 0 q).length = r.length := by rw [(less_row hq h k 0).1, h.1]
  refine ext_getD e fun j _ => ?_
  rw [less_getD (by rw [h.1, k]), Int.zero_mul, Int.sub_zero]
  exact (getD_pc hq h j).eq
theorem res_scaled {q : Int} (x r : List Int) (f : Int) : q ∣ res x (scaledL r f q) - f * res x r := by
  have := res_lin (q := q) f 0 (x := x) (a := scaledL r f q) (b := r) (c := r) fun j => by
    rw [scaled_getD, Int.zero_mul, Int.add_zero, Int.mul_comm f]; exact dvd_mod' q _
  rw [Int.zero_mul, Int.add_zero] at this
  exact this
theorem res_less {q : Int} {x r l : List Int} (h : r.length = l.length) (t : Int) : q ∣ res x (lessL r l t q) - (res x r - t * res x l) := by
  have := res_lin (q := q) 1 (-t) (x := x) (a := lessL r l t q) (b := r) (c := l) fun j => by
    rw [less_getD h, Int.one_mul, Int.neg_mul, ← Int.sub_eq_add_neg]; exact dvd_mod' q _
  rw [Int.one_mul, Int.neg_mul, ← Int.sub_eq_add_neg] at this
  exact this
theorem sat_ix {q : Int} {T : List (List Int)} {x : List Int} : Sat q T x ↔ ∀ k, k < T.length → q ∣ res x (T.getD k []) :=
  ⟨fun h k hk => h _ (by rw [getD_lt [] hk]; exact List.getElem_mem hk), fun h r hr => by
    obtain ⟨i, hi, e⟩ := List.mem_iff_getElem.mp hr
    have := h i hi
    rw [getD_lt [] hi, e] at this
    exact this⟩
theorem row_ix {q : Int} {n : Nat} {T : List (List Int)} (h : ∀ r ∈ T, Row q n r) {k : Nat} (hk : k < T.length) : Row q n (T.getD k []) := h _ (by rw [getD_lt [] hk]; exact List.getElem_mem hk)
theorem at2_pc {q : Int} {n : Nat} {T : List (List Int)} (hq : 0 < q) (h : ∀ r ∈ T, Row q n r) (i j : Nat) : Pc q (at2 T i j) := by
  unfold at2
  by_cases hi : i < T.length
  · exact getD_pc hq (row_ix h hi) j
  · rw [getD_ge [] (by omega), show ([] : List Int).getD j 0 = 0 from rfl]
    exact ⟨Int.le_refl 0, hq⟩
/-! ### one column -/
structure RedInv (q : Int) (n : Nat) (T : List (List Int)) (top col : Nat) (L : List Nat) : Prop where
  rows : ∀ r ∈ T, Row q n r
  len : L.length = top
  le : top ≤ T.length
  lead : ∀ i l, L[i]? = some l → l < col ∧ at2 T i l = 1 ∧ (∀ j, j < l → at2 T i j = 0) ∧ ∀ k, k ≠ i → at2 T k l = 0
  rest : ∀ i j, top ≤ i → j < col → at2 T i j = 0
theorem RedInv.start {q : Int} {n : Nat} {T : List (List Int)} (h : ∀ r ∈ T, Row q n r) : RedInv q n T 0 0 [] := ⟨h, rfl, Nat.zero_le _, fun i l e => by simp at e, fun i j _ hj => by omega⟩
theorem RedInv.skip {q : Int} {n : Nat} {T : List (List Int)} {top col : Nat} {L : List Nat} (I : RedInv q n T top col L) (h : ∀ i, top ≤ i → i < T.length → at2 T i col = 0) : RedInv q n T top (col + 1) L := by
  refine ⟨I.rows, I.len, I.le, fun i l e => ?_, fun i j hi hj => ?_⟩
  · obtain ⟨h1, h2, h3, h4⟩ := I.lead i l e
    exact ⟨by omega, h2, h3, h4⟩
  · by_cases hc : j = col
    · rw [hc]
      by_cases hl : i < T.length
      · exact h i hi hl
      · unfold at2; rw [getD_ge [] (by omega)]; rfl
    · exact I.rest i j hi (by omega)
/-- the rows behind one turn: the pivot's row stands scaled at top, all others are lessened -/
structure Turned (q : Int) (T T' : List (List Int)) (top p col : Nat) : Prop where
  len : T'.length = T.length
  top_ : T'.getD top [] = scaledL (T.getD p []) (inv (at2 T p col) q) q
  oth : ∀ k, k < T.length → k ≠ top → T'.getD k [] = lessL (if k = p then T.getD top [] else T.getD k []) (T'.getD top []) ((if k = p then T.getD top [] else T.getD k []).getD col 0) q
theorem ite_getD {c : Prop} [Decidable c] (a b : List Int) (j : Nat) : (if c then a else b).getD j 0 = if c then a.getD j 0 else b.getD j 0 := by split <;> rfl
section
variable {q : Int} {n : Nat} {T T' : List (List Int)} {top p col : Nat} {L : List Nat}
theorem Turned.swRow (I : RedInv q n T top col L) (h1 : top ≤ p) (h2 : p < T.length) {k : Nat} (hk : k < T.length) : Row q n (if k = p then T.getD top [] else T.getD k []) := by
  split
  · exact row_ix I.rows (by omega)
  · exact row_ix I.rows hk
theorem Turned.rows (hq : q ∈ primes) (I : RedInv q n T top col L) (h1 : top ≤ p) (h2 : p < T.length) (U : Turned q T T' top p col) : ∀ r ∈ T', Row q n r := by
  have hp := prime_pos hq
  intro r hr
  obtain ⟨k, hk, e⟩ := List.mem_iff_getElem.mp hr
  rw [← e, ← getD_lt [] hk]
  have ht : Row q n (T'.getD top []) := by rw [U.top_]; exact scaled_row (by omega) (row_ix I.rows h2) _
  by_cases c : k = top
  · rw [c]; exact ht
  · rw [U.oth k (by rw [← U.len]; exact hk) c]
    exact less_row (by omega) (Turned.swRow I h1 h2 (by rw [← U.len]; exact hk)) ht.1 _
theorem Turned.at_top (U : Turned q T T' top p col) (j : Nat) : at2 T' top j = at2 T p j * inv (at2 T p col) q % q := by
  unfold at2; rw [U.top_, scaled_getD]; rfl
theorem Turned.at_oth (hq : q ∈ primes) (I : RedInv q n T top col L) (h1 : top ≤ p) (h2 : p < T.length) (U : Turned q T T' top p col) {k : Nat} (hk : k < T.length) (hn : k ≠ top) (j : Nat) :
    at2 T' k j = ((if k = p then at2 T top j else at2 T k j) - (if k = p then at2 T top col else at2 T k col) * at2 T' top j) % q := by
  have hp := prime_pos hq
  have ht : (T'.getD top []).length = n := by rw [U.top_]; exact (scaled_row (by omega) (row_ix I.rows h2) _).1
  unfold at2
  rw [U.oth k hk hn, less_getD (by rw [(Turned.swRow I h1 h2 hk).1, ht]), ite_getD, ite_getD]
theorem RedInv.turn (hq : q ∈ primes) (I : RedInv q n T top col L) (h1 : top ≤ p) (h2 : p < T.length) (h3 : at2 T p col ≠ 0) (U : Turned q T T' top p col) : RedInv q n T' (top + 1) (col + 1) (L ++ [col]) := by
  have hp := prime_pos hq
  have pc := at2_pc (q := q) (by omega) I.rows
  have t0 : ∀ j, j < col → at2 T' top j = 0 := fun j hj => by
    rw [U.at_top, I.rest p j h1 hj, Int.zero_mul]; rfl
  have t1 : at2 T' top col = 1 := by
    rw [U.at_top, Int.mul_comm]
    have := pc p col
    exact (inv_ok hq (by have := this.1; omega) this.2).1
  have over : ∀ k j, T.length ≤ k → at2 T' k j = 0 := fun k j hk => by
    unfold at2; rw [getD_ge [] (by rw [U.len]; exact hk)]; rfl
  refine ⟨U.rows hq I h1 h2, by rw [List.length_append, I.len]; rfl, by rw [U.len]; omega, fun i l e => ?_, fun i j hi hj => ?_⟩
  · by_cases hi : i < top
    · rw [List.getElem?_append_left (by rw [I.len]; exact hi)] at e
      obtain ⟨a1, a2, a3, a4⟩ := I.lead i l e
      have gen : ∀ k j, k < T.length → k ≠ top → j < col → at2 T' k j = (if k = p then at2 T top j else at2 T k j) % q := fun k j hk hn hj => by
        rw [U.at_oth hq I h1 h2 hk hn, t0 j hj, Int.mul_zero, Int.sub_zero]
      refine ⟨by omega, ?_, fun j hj => ?_, fun k hk => ?_⟩
      · rw [gen i l (by omega) (by omega) a1, if_neg (by omega), a2]
        exact Int.emod_eq_of_lt (by omega) (by omega)
      · rw [gen i j (by omega) (by omega) (by omega), if_neg (by omega), a3 j hj]; rfl
      · by_cases c : k = top
        · rw [c]; exact t0 l a1
        · by_cases hl : k < T.length
          · rw [gen k l hl c a1]
            by_cases ck : k = p
            · rw [if_pos ck, I.rest top l (Nat.le_refl _) a1]; rfl
            · rw [if_neg ck, a4 k hk]; rfl
          · exact over k l (by omega)
    · rw [List.getElem?_append_right (by rw [I.len]; omega), I.len] at e
      have e0 : i = top := by
        by_cases z : i - top = 0
        · omega
        · rw [List.getElem?_eq_none (by simp; omega)] at e; cases e
      rw [e0, Nat.sub_self] at e
      have el : l = col := (Option.some.inj e).symm
      rw [e0, el]
      refine ⟨by omega, t1, t0, fun k hk => ?_⟩
      by_cases hl : k < T.length
      · rw [U.at_oth hq I h1 h2 hl hk, t1, Int.mul_one, Int.sub_self]; rfl
      · exact over k col (by omega)
  · by_cases hl : i < T.length
    · rw [U.at_oth hq I h1 h2 hl (by omega)]
      by_cases c : j = col
      · rw [c, t1, Int.mul_one, Int.sub_self]; rfl
      · rw [t0 j (by omega), Int.mul_zero, Int.sub_zero]
        by_cases ck : i = p
        · rw [if_pos ck, I.rest top j (Nat.le_refl _) (by omega)]; rfl
        · rw [if_neg ck, I.rest i j (by omega) (by omega)]; rfl
    · exact over i j (by omega)
theorem Turned.like {many : Nat} (hq : q ∈ primes) (I : RedInv q n T top col L) (h1 : top ≤ p) (h2 : p < T.length) (h3 : at2 T p col ≠ 0) (U : Turned q T T' top p col) : Like q many T T' := by
  have hp := prime_pos hq
  intro x _
  have pc := at2_pc (q := q) (by omega) I.rows p col
  have un : Unit q (inv (at2 T p col) q) := unit_inv hq (by have := pc.1; omega) pc.2
  have rt : q ∣ res x (T'.getD top []) - inv (at2 T p col) q * res x (T.getD p []) := by rw [U.top_]; exact res_scaled _ _ _
  have ht : (T'.getD top []).length = n := by rw [U.top_]; exact (scaled_row (by omega) (row_ix I.rows h2) _).1
  have ro : ∀ k, k < T.length → k ≠ top → q ∣ res x (T'.getD k []) - (res x (if k = p then T.getD top [] else T.getD k []) - (if k = p then T.getD top [] else T.getD k []).getD col 0 * res x (T'.getD top [])) := fun k hk hn => by
    rw [U.oth k hk hn]
    exact res_less (by rw [(Turned.swRow I h1 h2 hk).1, ht]) _
  have mul_ : ∀ {a t : Int}, q ∣ a → q ∣ t * a := fun h => Int.dvd_trans h (Int.dvd_mul_left _ _)
  have back : ∀ {a b : Int}, q ∣ a - b → q ∣ b → q ∣ a := fun {a b} h k => by
    have := Int.dvd_add h k
    rwa [Int.sub_add_cancel] at this
  have fwd : ∀ {a b : Int}, q ∣ a - b → q ∣ a → q ∣ b := fun {a b} h k => by
    have := dvd_sub2 k h
    rwa [show a - (a - b) = b by omega] at this
  rw [sat_ix, sat_ix]
  constructor
  · intro h k hk
    rw [U.len] at hk
    have tt : q ∣ res x (T'.getD top []) := back rt (mul_ (h p h2))
    by_cases c : k = top
    · rw [c]; exact tt
    · refine back (ro k hk c) (dvd_sub2 ?_ (mul_ tt))
      split
      · exact h top (by omega)
      · exact h k hk
  · intro h
    have tt : q ∣ res x (T'.getD top []) := h top (by rw [U.len]; omega)
    have hpp : q ∣ res x (T.getD p []) := unit_cancel un (fwd rt tt)
    have hs : ∀ k, k < T.length → k ≠ top → q ∣ res x (if k = p then T.getD top [] else T.getD k []) := fun k hk hn => by
      have := fwd (ro k hk hn) (h k (by rw [U.len]; exact hk))
      have := Int.dvd_add this (mul_ (t := (if k = p then T.getD top [] else T.getD k []).getD col 0) tt)
      rwa [Int.sub_add_cancel] at this
    intro k hk
    by_cases c : k = p
    · rw [c]; exact hpp
    · by_cases ct : k = top
      · have := hs p h2 (by omega)
        rw [if_pos rfl] at this
        rw [ct]; exact this
      · have := hs k hk ct
        rw [if_neg c] at this
        exact this
end
/-! ### how the program comes to it: exchanged, scaled, then cleared -/
def clearTo (T : List (List Int)) (top col : Nat) (q : Int) (i : Nat) : List (List Int) := T.mapIdx fun k r => if k < i ∧ k ≠ top ∧ r.getD col 0 ≠ 0 then lessL r (T.getD top []) (r.getD col 0) q else r
theorem clearTo_zero (T : List (List Int)) (top col : Nat) (q : Int) : clearTo T top col q 0 = T := by
  apply List.ext_getElem (by simp [clearTo])
  intro i h1 h2
  simp [clearTo]
theorem clearTo_length (T : List (List Int)) (top col : Nat) (q : Int) (i : Nat) : (clearTo T top col q i).length = T.length := by simp [clearTo]
theorem clearTo_getD (T : List (List Int)) (top col : Nat) (q : Int) (i k : Nat) (hk : k < T.length) : (clearTo T top col q i).getD k [] = if k < i ∧ k ≠ top ∧ at2 T k col ≠ 0 then lessL (T.getD k []) (T.getD top []) (at2 T k col) q else T.getD k [] := by
  rw [getD_lt [] (by rw [clearTo_length]; exact hk)]
  have e : T.getD k [] = T[k] := getD_lt [] hk
  unfold at2
  rw [e]
  simp [clearTo]
theorem clearTo_set {T : List (List Int)} {top col : Nat} {q : Int} {i : Nat} (hi : i < T.length) (h : i ≠ top ∧ at2 T i col ≠ 0) : clearTo T top col q (i + 1) = (clearTo T top col q i).set i (lessL (T.getD i []) (T.getD top []) (at2 T i col) q) := by
  apply List.ext_getElem (by simp [clearTo])
  intro k h1 h2
  have hk : k < T.length := by rw [clearTo_length] at h1; exact h1
  rw [← getD_lt [] h1, clearTo_getD _ _ _ _ _ _ hk, List.getElem_set]
  by_cases c : i = k
  · rw [if_pos c, if_pos (by rw [← c]; exact ⟨by omega, h⟩), c]
  · rw [if_neg c, ← getD_lt [] (by rw [clearTo_length]; exact hk), clearTo_getD _ _ _ _ _ _ hk]
    by_cases d : k < i
    · simp [d, show k < i + 1 by omega]
    · simp [d, show ¬ k < i + 1 by omega]
theorem clearTo_same {T : List (List Int)} {top col : Nat} {q : Int} {i : Nat} (hi : i < T.length) (h : ¬ (i ≠ top ∧ at2 T i col ≠ 0)) : clearTo T top col q (i + 1) = clearTo T top col q i := by
  apply List.ext_getElem (by simp [clearTo])
  intro k h1 h2
  have hk : k < T.length := by rw [clearTo_length] at h1; exact h1
  rw [← getD_lt [] h1, clearTo_getD _ _ _ _ _ _ hk, ← getD_lt [] h2, clearTo_getD _ _ _ _ _ _ hk]
  by_cases c : k = i
  · rw [c, if_neg (fun z => h z.2), if_neg (fun z => h z.2)]
  · by_cases d : k < i
    · simp [d, show k < i + 1 by omega]
    · simp [d, show ¬ k < i + 1 by omega]
def cleared (T : List (List Int)) (top p col : Nat) (q : Int) : List (List Int) :=
  let T1 := (T.set p (T.getD top [])).set top (scaledL (T.getD p []) (inv (at2 T p col) q) q)
  clearTo T1 top col q T1.length
theorem swapped_getD {T : List (List Int)} {top p k : Nat} (s : List Int) (h1 : top ≤ p) (h2 : p < T.length) (hk : k < T.length) :
    ((T.set p (T.getD top [])).set top s).getD k [] = if k = top then s else if k = p then T.getD top [] else T.getD k [] := by
  have hl : ((T.set p (T.getD top [])).set top s).length = T.length := by simp
  rw [getD_lt [] (by rw [hl]; exact hk), List.getElem_set]
  by_cases c : top = k
  · rw [if_pos c, if_pos c.symm]
  · rw [if_neg c, if_neg (fun z => c z.symm), List.getElem_set]
    by_cases d : p = k
    · rw [if_pos d, if_pos d.symm]
    · rw [if_neg d, if_neg (fun z => d z.symm), getD_lt [] hk]
theorem cleared_turned {q : Int} {n : Nat} {T : List (List Int)} {top p col : Nat} {L : List Nat} (hq : q ∈ primes) (I : RedInv q n T top col L) (h1 : top ≤ p) (h2 : p < T.length) : Turned q T (cleared T top p col q) top p col := by
  have hp := prime_pos hq
  have hl : ((T.set p (T.getD top [])).set top (scaledL (T.getD p []) (inv (at2 T p col) q) q)).length = T.length := by simp
  have ht : (cleared T top p col q).getD top [] = scaledL (T.getD p []) (inv (at2 T p col) q) q := by
    unfold cleared
    rw [clearTo_getD _ _ _ _ _ _ (by rw [hl]; omega), if_neg (fun z => z.2.1 rfl), swapped_getD _ h1 h2 (by omega), if_pos rfl]
  refine ⟨by unfold cleared; rw [clearTo_length, hl], ht, fun k hk hn => ?_⟩
  rw [ht]
  have e0 : ((T.set p (T.getD top [])).set top (scaledL (T.getD p []) (inv (at2 T p col) q) q)).getD k [] = if k = p then T.getD top [] else T.getD k [] := by rw [swapped_getD _ h1 h2 hk, if_neg hn]
  have e1 : ((T.set p (T.getD top [])).set top (scaledL (T.getD p []) (inv (at2 T p col) q) q)).getD top [] = scaledL (T.getD p []) (inv (at2 T p col) q) q := by rw [swapped_getD _ h1 h2 (by omega), if_pos rfl]
  have e2 : at2 ((T.set p (T.getD top [])).set top (scaledL (T.getD p []) (inv (at2 T p col) q) q)) k col = (if k = p then T.getD top [] else T.getD k []).getD col 0 := congrArg (fun r : List Int => r.getD col 0) e0
  unfold cleared
  rw [clearTo_getD _ _ _ _ _ _ (by rw [hl]; exact hk), hl, e1, e2, e0]
  by_cases z : (if k = p then T.getD top [] else T.getD k []).getD col 0 = 0
  · rw [if_neg (fun y => y.2.2 z), z, less_zero (by omega) (Turned.swRow I h1 h2 hk) (scaled_row (by omega) (row_ix I.rows h2) _).1]
  · rw [if_pos ⟨hk, hn, z⟩]
/-! ### the reduced form -/
structure Red (q : Int) (n : Nat) (R : List (List Int)) (L : List Nat) : Prop where
  rows : ∀ r ∈ R, Row q n r
  len : L.length = R.length
  lead : ∀ i l, L[i]? = some l → l < n ∧ at2 R i l = 1 ∧ (∀ j, j < l → at2 R i j = 0) ∧ ∀ k, k ≠ i → at2 R k l = 0
theorem at2_take {T : List (List Int)} {m i : Nat} (j : Nat) (h : i < m) : at2 (T.take m) i j = at2 T i j := by
  unfold at2
  rw [List.getD_eq_getElem?_getD, List.getD_eq_getElem?_getD, List.getElem?_take_of_lt h]
  rw [← List.getD_eq_getElem?_getD, ← List.getD_eq_getElem?_getD]
theorem at2_over {T : List (List Int)} {i : Nat} (j : Nat) (h : T.length ≤ i) : at2 T i j = 0 := by unfold at2; rw [getD_ge [] h]; rfl
theorem dot_zero : ∀ (x r : List Int), (∀ j, j < x.length → r.getD j 0 = 0) → dot x r = 0
  | [], _, _ => rfl
  | a :: x, r, h => by
    have ih := dot_zero x r.tail fun j hj => by rw [tail_getD]; exact h (j + 1) (by simpa using hj)
    show a * r.getD 0 0 + dot x r.tail = 0
    rw [ih, h 0 (by simp)]; simp
theorem RedInv.red {q : Int} {n : Nat} {T : List (List Int)} {top : Nat} {L : List Nat} (I : RedInv q n T top n L) : Red q n (T.take top) L := by
  refine ⟨fun r hr => I.rows r (List.mem_of_mem_take hr), by rw [I.len, List.length_take, Nat.min_eq_left I.le], fun i l e => ?_⟩
  have hi : i < top := by
    rw [← I.len]
    exact (List.getElem?_eq_some_iff.mp e).1
  obtain ⟨h1, h2, h3, h4⟩ := I.lead i l e
  refine ⟨h1, by rw [at2_take _ hi]; exact h2, fun j hj => by rw [at2_take _ hi]; exact h3 j hj, fun k hk => ?_⟩
  by_cases c : k < top
  · rw [at2_take _ c]; exact h4 k hk
  · exact at2_over _ (by rw [List.length_take]; omega)
theorem RedInv.like {q : Int} {many : Nat} {T : List (List Int)} {top : Nat} {L : List Nat} (I : RedInv q (many + 1) T top (many + 1) L) : Like q many T (T.take top) := by
  intro x hx
  refine ⟨fun h r hr => h r (List.mem_of_mem_take hr), fun h => sat_ix.mpr fun k hk => ?_⟩
  by_cases c : k < top
  · refine h _ ?_
    rw [getD_lt [] hk]
    have : (T.take top)[k]'(by rw [List.length_take]; omega) = T[k] := by simp
    rw [← this]
    exact List.getElem_mem _
  · have z : ∀ j, j ≤ many → (T.getD k []).getD j 0 = 0 := fun j hj => I.rest k j (by omega) (by omega)
    unfold res
    rw [dot_zero x _ fun j hj => z j (by omega), z x.length (by omega)]
    exact ⟨0, by omega⟩
section
variable {q : Int} {many : Nat} {R : List (List Int)} {L : List Nat}
theorem Red.none (hq : 2 ≤ q) (D : Red q (many + 1) R L) (h : many ∈ L) : Ans q many R none := by
  intro x hx
  obtain ⟨i, hi, e⟩ := List.mem_iff_getElem.mp h
  have e' : L[i]? = some many := by rw [List.getElem?_eq_getElem hi, e]
  obtain ⟨_, h2, h3, _⟩ := D.lead i many e'
  have hr := sat_ix.mp hx.2 i (by rw [← D.len]; exact hi)
  unfold res at hr
  rw [dot_zero x _ fun j hj => h3 j (by rw [hx.1.1] at hj; exact hj), hx.1.1, show (R.getD i []).getD many 0 = 1 from h2] at hr
  obtain ⟨c, hc⟩ := hr
  have h5 : q * c = -1 := by omega
  have : c < 0 := by
    rcases Int.lt_or_le c 0 with z | z
    · exact z
    · have := Int.mul_nonneg (show 0 ≤ q by omega) z; omega
  have : q * (-c) = 1 := by rw [Int.mul_neg]; omega
  have h6 : q ≤ q * (-c) := by
    have := Int.mul_le_mul_of_nonneg_left (show 1 ≤ -c by omega) (show 0 ≤ q by omega)
    rwa [Int.mul_one] at this
  omega
theorem Red.canon (D : Red q (many + 1) R L) (h : many ∉ L) {x : List Int} (hx : Row q many x) (h1 : ∀ i l, L[i]? = some l → x.getD l 0 = at2 R i many) (h2 : ∀ c, c < many → c ∉ L → x.getD c 0 = 0) : Canon q many R x := by
  refine ⟨⟨hx, sat_ix.mpr fun i hi => ?_⟩, fun c hc => ?_⟩
  · have hL : i < L.length := by rw [D.len]; exact hi
    have e : L[i]? = some L[i] := List.getElem?_eq_getElem hL
    obtain ⟨a1, a2, a3, a4⟩ := D.lead i _ e
    have d := dot_diff1 (R.getD i []) x [] L[i] fun j hj => by
      rw [show ([] : List Int).getD j 0 = 0 from rfl, Int.mul_zero]
      by_cases c : j ∈ L
      · obtain ⟨k, hk, ek⟩ := List.mem_iff_getElem.mp c
        have ek' : L[k]? = some j := by rw [List.getElem?_eq_getElem hk, ek]
        obtain ⟨_, _, _, b4⟩ := D.lead k j ek'
        have : at2 R i j = 0 := b4 i fun z => hj (by subst z; exact ek.symm)
        unfold at2 at this
        rw [this, Int.zero_mul]
      · by_cases cm : j < many
        · rw [h2 j cm c, Int.mul_zero]
        · rw [getD_over hx.1 (by omega), Int.mul_zero]
    rw [dot_nil] at d
    have a2' : (R.getD i []).getD L[i] 0 = 1 := a2
    rw [a2', show ([] : List Int).getD L[i] 0 = 0 from rfl, Int.mul_zero, Int.one_mul, h1 i _ e] at d
    unfold res
    rw [dot_comm, hx.1]
    refine ⟨0, ?_⟩
    unfold at2 at d
    omega
  · by_cases cl : c ∈ L
    · right
      intro u v hu hv ag
      obtain ⟨i, hi, e⟩ := List.mem_iff_getElem.mp cl
      have e' : L[i]? = some c := by rw [List.getElem?_eq_getElem hi, e]
      obtain ⟨a1, a2, a3, a4⟩ := D.lead i c e'
      have d := dot_diff1 (R.getD i []) u v c fun j hj => by
        by_cases z : j < c
        · have := a3 j z
          unfold at2 at this
          rw [this, Int.zero_mul, Int.zero_mul]
        · rw [ag j (by omega)]
      have a2' : (R.getD i []).getD c 0 = 1 := a2
      rw [a2', Int.one_mul, Int.one_mul] at d
      have hiR : i < R.length := by rw [← D.len]; exact hi
      have hu' := sat_ix.mp hu.2 i hiR
      have hv' := sat_ix.mp hv.2 i hiR
      have hs := dvd_sub2 hu' hv'
      unfold res at hs
      rw [hu.1.1, hv.1.1, dot_comm u, dot_comm v] at hs
      have hs2 : q ∣ u.getD c 0 - v.getD c 0 := by
        rw [← d]
        have : dot (R.getD i []) u - (R.getD i []).getD many 0 - (dot (R.getD i []) v - (R.getD i []).getD many 0) = dot (R.getD i []) u - dot (R.getD i []) v := by omega
        rw [← this]; exact hs
      by_cases hq : 0 < q
      · exact dvd_eq hs2 (getD_pc hq hu.1 c).1 (getD_pc hq hu.1 c).2 (getD_pc hq hv.1 c).1 (getD_pc hq hv.1 c).2
      · have pu : Pc q (u[c]'(by rw [hu.1.1]; exact hc)) := hu.1.2 _ (List.getElem_mem _)
        have := pu.1; have := pu.2; omega
    · exact .inl (h2 c hc cl)
end
/-! ### the brute force -/
/-- m is the last place at which s and t differ, -1 where there is none -/
def IsLast (n : Nat) (s t : List Int) (m : Int) : Prop := (m = -1 ∨ ∃ k : Nat, m = k ∧ k < n ∧ s.getD k 0 ≠ t.getD k 0) ∧ ∀ k : Nat, k < n → s.getD k 0 ≠ t.getD k 0 → (k : Int) ≤ m
/-- s + f (t - u) -/
def comb (q : Int) (many : Nat) (f : Int) (s t u : List Int) : List Int := (List.range many).map fun j => (s.getD j 0 + f * (t.getD j 0 - u.getD j 0)) % q
section
variable {q : Int} {many : Nat} {rows : List (List Int)}
theorem comb_getD (f : Int) {s t u : List Int} {j : Nat} (h : j < many) : (comb q many f s t u).getD j 0 = (s.getD j 0 + f * (t.getD j 0 - u.getD j 0)) % q := by
  unfold comb
  rw [getD_lt 0 (by simpa using h)]
  simp
theorem comb_ins (hq : 0 < q) (f : Int) {s t u : List Int} (hs : InS q many rows s) (ht : InS q many rows t) (hu : InS q many rows u) : InS q many rows (comb q many f s t u) := by
  have hl : (comb q many f s t u).length = many := by simp [comb]
  refine ⟨⟨hl, fun p hp => ?_⟩, fun r hr => ?_⟩
  · obtain ⟨a, _, rfl⟩ := List.mem_map.mp hp
    exact Pc.mod hq _
  · have z := res_move (q := q) f (w := comb q many f s t u) (r := r) (s := s) (t := t) (u := u) (by rw [hl, hs.1.1]) (by rw [ht.1.1, hs.1.1]) (by rw [hu.1.1, hs.1.1]) fun j => by
      by_cases hj : j < many
      · rw [comb_getD f hj]; exact dvd_mod' q _
      · rw [getD_over hl (by omega), getD_over hs.1.1 (by omega), getD_over ht.1.1 (by omega), getD_over hu.1.1 (by omega)]
        exact ⟨0, by simp⟩
    have h2 : q ∣ res s r + f * (res t r - res u r) := Int.dvd_add (hs.2 r hr) (Int.dvd_trans (dvd_sub2 (ht.2 r hr) (hu.2 r hr)) (Int.dvd_mul_left _ _))
    have := Int.dvd_add z h2
    rwa [Int.sub_add_cancel] at this
/-- a solution differs from f0 last at c -/
def Lo (q : Int) (many : Nat) (rows : List (List Int)) (f0 : List Int) (c : Nat) : Prop := ∃ s, InS q many rows s ∧ s.getD c 0 ≠ f0.getD c 0 ∧ ∀ j, c < j → s.getD j 0 = f0.getD j 0
theorem due_exists (hq : q ∈ primes) {f0 : List Int} (h0 : InS q many rows f0) : ∀ d k : Nat, k + d = many → ∃ s, InS q many rows s ∧ ∀ c, k ≤ c → c < many → Lo q many rows f0 c → s.getD c 0 = 0
  | 0, k, e => ⟨f0, h0, fun c h1 h2 => by omega⟩
  | d + 1, k, e => by
    have hp := prime_pos hq
    obtain ⟨s, hs, h⟩ := due_exists hq h0 d (k + 1) (by omega)
    by_cases lo : Lo q many rows f0 k
    · obtain ⟨t, ht, hd, ha⟩ := lo
      have pt := getD_pc (q := q) (by omega) ht.1 k
      have p0 := getD_pc (q := q) (by omega) h0.1 k
      let e0 := (t.getD k 0 - f0.getD k 0) % q
      have he0 : 0 ≤ e0 ∧ e0 < q := Pc.mod (by omega) _
      have hne : e0 ≠ 0 := fun z => hd (dvd_eq (mod_iff.mp z) pt.1 pt.2 p0.1 p0.2)
      have iv := (inv_ok hq (show 0 < e0 by omega) he0.2).1
      refine ⟨comb q many (-(s.getD k 0 * inv e0 q)) s t f0, comb_ins (by omega) _ hs ht h0, fun c h1 h2 lc => ?_⟩
      rw [comb_getD _ h2]
      by_cases ck : c = k
      · rw [ck]
        refine mod_iff.mpr ?_
        -- q divides inv e0 * (t - f0) - 1
        have u1 : q ∣ inv e0 q * e0 - 1 := by
          have := dvd_mod q (inv e0 q * e0)
          rwa [iv] at this
        have u2 : q ∣ inv e0 q * ((t.getD k 0 - f0.getD k 0) - e0) := Int.dvd_trans (dvd_mod q _) (Int.dvd_mul_left _ _)
        have u3 := Int.dvd_add u1 u2
        have e3 : inv e0 q * e0 - 1 + inv e0 q * ((t.getD k 0 - f0.getD k 0) - e0) = inv e0 q * (t.getD k 0 - f0.getD k 0) - 1 := by rw [Int.mul_sub (inv e0 q) _ e0]; omega
        rw [e3] at u3
        obtain ⟨m, hm⟩ := u3
        refine ⟨-(s.getD k 0 * m), ?_⟩
        rw [Int.mul_neg, ← Int.mul_assoc, Int.mul_comm q, Int.mul_assoc, ← hm, Int.neg_mul, Int.mul_assoc, Int.mul_sub (s.getD k 0) _ 1, Int.mul_one]
        omega
      · rw [ha c (by omega), Int.sub_self, Int.mul_zero, Int.add_zero, h c (by omega) h2 lc]; rfl
    · refine ⟨s, hs, fun c h1 h2 lc => ?_⟩
      by_cases ck : c = k
      · rw [ck] at lc; exact absurd lc lo
      · exact h c (by omega) h2 lc
theorem due_canon (hq : 2 ≤ q) {f0 s : List Int} (h0 : InS q many rows f0) (hs : InS q many rows s) (h : ∀ c, c < many → Lo q many rows f0 c → s.getD c 0 = 0) : Canon q many rows s := by
  refine ⟨hs, fun c hc => ?_⟩
  by_cases lo : Lo q many rows f0 c
  · exact .inl (h c hc lo)
  · refine .inr fun u v hu hv ag => Classical.byContradiction fun ne => lo ?_
    refine ⟨comb q many 1 f0 u v, comb_ins (by omega) 1 h0 hu hv, ?_, fun j hj => ?_⟩
    · rw [comb_getD _ hc, Int.one_mul]
      intro z
      refine ne (dvd_eq (q := q) ?_ (getD_pc (by omega) hu.1 c).1 (getD_pc (by omega) hu.1 c).2 (getD_pc (by omega) hv.1 c).1 (getD_pc (by omega) hv.1 c).2)
      have := dvd_mod q (f0.getD c 0 + (u.getD c 0 - v.getD c 0))
      rw [z] at this
      rwa [show f0.getD c 0 + (u.getD c 0 - v.getD c 0) - f0.getD c 0 = u.getD c 0 - v.getD c 0 by omega] at this
    · by_cases hm : j < many
      · rw [comb_getD _ hm, ag j hj, Int.sub_self, Int.mul_zero, Int.add_zero]
        exact (getD_pc (by omega) h0.1 j).eq
      · rw [getD_over (comb_ins (by omega) 1 h0 hu hv).1.1 (by omega), getD_over h0.1.1 (by omega)]
/-- the columns ahead of i that are loose hold a 0 -/
def keeps (Z : List Int) (i : Nat) (s : List Int) : Bool := (List.range i).all fun k => !Z.contains (k : Int) || s.getD k 0 == 0
theorem keeps_succ (Z : List Int) (i : Nat) (s : List Int) : keeps Z (i + 1) s = (keeps Z i s && (!Z.contains (i : Int) || s.getD i 0 == 0)) := by
  unfold keeps
  rw [List.range_succ, List.all_append]
  simp
theorem keeps_iff {Z : List Int} {i : Nat} {s : List Int} : keeps Z i s = true ↔ ∀ k : Nat, k < i → (k : Int) ∈ Z → s.getD k 0 = 0 := by
  unfold keeps
  rw [List.all_eq_true]
  constructor
  · intro h k hk hz
    have := h k (List.mem_range.mpr hk)
    simpa [hz] using this
  · intro h k hk
    show (!Z.contains (k : Int) || s.getD k 0 == 0) = true
    by_cases hz : (k : Int) ∈ Z
    · rw [h k (List.mem_range.mp hk) hz]; simp
    · simp [hz]
theorem due_ok (hq : q ∈ primes) {F : List (List Int)} {Z : List Int} {f0 : List Int} (hF : ∀ x, x ∈ F ↔ InS q many rows x) (h0 : f0 ∈ F) (hz : ∀ m, m ∈ Z ↔ ∃ s ∈ F, IsLast many s f0 m ∧ m ∈ Z) (hz2 : ∀ s ∈ F, ∃ m ∈ Z, IsLast many s f0 m) :
    ∃ s r, F.filter (keeps Z many) = s :: r ∧ Canon q many rows s := by
  have hp := prime_pos hq
  have i0 := (hF f0).mp h0
  have zlo : ∀ c : Nat, c < many → ((c : Int) ∈ Z ↔ Lo q many rows f0 c) := fun c hc => by
    constructor
    · intro h
      obtain ⟨s, hs, hl, _⟩ := (hz c).mp h
      have is := (hF s).mp hs
      refine ⟨s, is, ?_, fun j hj => ?_⟩
      · rcases hl.1 with e | ⟨k, e, _, h2⟩
        · omega
        · have : c = k := by omega
          rw [this]; exact h2
      · by_cases hm : j < many
        · refine Classical.byContradiction fun ne => ?_
          have := hl.2 j hm ne
          omega
        · rw [getD_over is.1.1 (by omega), getD_over i0.1.1 (by omega)]
    · rintro ⟨s, is, hd, ha⟩
      obtain ⟨m, hm, hl⟩ := hz2 s ((hF s).mpr is)
      have h1 := hl.2 c hc hd
      rcases hl.1 with e | ⟨k, e, _, h2⟩
      · omega
      · have : k = c := by
          rcases Nat.lt_or_ge c k with z | z
          · exact absurd (ha k z) h2
          · omega
        rw [e, this] at hm
        exact hm
  obtain ⟨s, hs, h⟩ := due_exists hq i0 many 0 (by omega)
  have hin : s ∈ F.filter (keeps Z many) := List.mem_filter.mpr ⟨(hF s).mpr hs, keeps_iff.mpr fun k hk hkz => h k (by omega) hk ((zlo k hk).mp hkz)⟩
  cases e : F.filter (keeps Z many) with
  | nil => rw [e] at hin; cases hin
  | cons a r =>
    refine ⟨a, r, rfl, ?_⟩
    have ha : a ∈ F.filter (keeps Z many) := by rw [e]; exact List.mem_cons_self
    obtain ⟨a1, a2⟩ := List.mem_filter.mp ha
    exact due_canon hp.1 i0 ((hF a).mp a1) fun c hc lo => keeps_iff.mp a2 c hc ((zlo c hc).mpr lo)
end
/-! ### stirred rows -/
section
variable {q : Int} {many n : Nat} {T : List (List Int)} {i j : Nat} {f : Int}
theorem set_rows {r : List Int} (h : ∀ r ∈ T, Row q n r) (hr : Row q n r) : ∀ s ∈ T.set i r, Row q n s := fun s hs => by
  rcases List.mem_or_eq_of_mem_set hs with z | z
  · exact h s z
  · rw [z]; exact hr
theorem set_getD {r : List Int} {k : Nat} (hk : k < T.length) : (T.set i r).getD k [] = if k = i then r else T.getD k [] := by
  rw [getD_lt [] (by simpa using hk), List.getElem_set, getD_lt [] hk]
  by_cases c : i = k
  · rw [if_pos c, if_pos c.symm]
  · rw [if_neg c, if_neg fun z => c z.symm]
theorem like_scaled (hu : Unit q f) (hi : i < T.length) : Like q many T (T.set i (scaledL (T.getD i []) f q)) := by
  intro x _
  have e := res_scaled (q := q) x (T.getD i []) f
  rw [sat_ix, sat_ix, List.length_set]
  constructor
  · intro h k hk
    rw [set_getD hk]
    split
    · have := Int.dvd_add e (Int.dvd_trans (h i hi) (Int.dvd_mul_left f _))
      rwa [Int.sub_add_cancel] at this
    · exact h k hk
  · intro h k hk
    have z := h k hk
    rw [set_getD hk] at z
    by_cases c : k = i
    · rw [if_pos c] at z
      rw [c]
      refine unit_cancel hu ?_
      have := dvd_sub2 z e
      rwa [show res x (scaledL (T.getD i []) f q) - (res x (scaledL (T.getD i []) f q) - f * res x (T.getD i [])) = f * res x (T.getD i []) by omega] at this
    · rw [if_neg c] at z; exact z
theorem like_less (h : ∀ r ∈ T, Row q n r) (hi : i < T.length) (hj : j < T.length) (hij : i ≠ j) : Like q many T (T.set i (lessL (T.getD i []) (T.getD j []) f q)) := by
  intro x _
  have e := res_less (q := q) (x := x) (r := T.getD i []) (l := T.getD j []) (by rw [(row_ix h hi).1, (row_ix h hj).1]) f
  rw [sat_ix, sat_ix, List.length_set]
  constructor
  · intro h k hk
    rw [set_getD hk]
    split
    · have := Int.dvd_add e (dvd_sub2 (h i hi) (Int.dvd_trans (h j hj) (Int.dvd_mul_left f _)))
      rwa [Int.sub_add_cancel] at this
    · exact h k hk
  · intro h k hk
    have zj := h j hj
    rw [set_getD hj, if_neg (fun z => hij z.symm)] at zj
    have z := h k hk
    rw [set_getD hk] at z
    by_cases c : k = i
    · rw [if_pos c] at z
      rw [c]
      have := Int.dvd_add (dvd_sub2 z e) (Int.dvd_trans zj (Int.dvd_mul_left f _))
      rwa [show res x (lessL (T.getD i []) (T.getD j []) f q) - (res x (lessL (T.getD i []) (T.getD j []) f q) - (res x (T.getD i []) - f * res x (T.getD j []))) + f * res x (T.getD j []) = res x (T.getD i []) by omega] at this
    · rw [if_neg c] at z; exact z
/-- zero rows tell nothing -/
theorem like_zeros {Z : List (List Int)} (hz : ∀ r ∈ Z, ∀ j, r.getD j 0 = 0) : Like q many (T ++ Z) T := by
  intro x _
  refine ⟨fun h r hr => h r (List.mem_append_left _ hr), fun h r hr => ?_⟩
  rcases List.mem_append.mp hr with z | z
  · exact h r z
  · unfold res
    rw [dot_zero x r fun j _ => hz r z j, hz r z]
    exact ⟨0, by omega⟩
end
end K16

set_option Elab.async false
set_option linter.all false
set_option maxRecDepth 100000
/-! The text: its statements by place, what is told of each def and of the error's class. -/
namespace K16
open PySem PySem.Spec PyProof.Rows L2
def topS (i : Nat) : Stmt := PySem.Challenge.pw_jartext_k16_whole_equations_solved.main.body.getD i (.Pass ⟨0, 0, 0, 0⟩)
abbrev sNumber : Stmt := topS 4
abbrev sPrime : Stmt := topS 7
abbrev sInv : Stmt := topS 8
abbrev sPivot : Stmt := topS 9
abbrev sScaled : Stmt := topS 10
abbrev sLess : Stmt := topS 11
abbrev sClear : Stmt := topS 12
abbrev sReduced : Stmt := topS 13
abbrev sSolved : Stmt := topS 14
abbrev sBag : Stmt := topS 16
abbrev sDraw : Stmt := topS 17
abbrev sOf : Stmt := topS 18
abbrev sLike : Stmt := topS 19
abbrev sTurned : Stmt := topS 20
abbrev sPrimes : Stmt := topS 21
abbrev sAsk : Stmt := topS 22
abbrev sFormed : Stmt := topS 23
abbrev sStirred : Stmt := topS 24
abbrev sTold : Stmt := topS 25
abbrev sAll : Stmt := topS 26
abbrev sMeets : Stmt := topS 27
abbrev sLast : Stmt := topS 28
abbrev sDue : Stmt := topS 29
abbrev sFree : Stmt := topS 30
abbrev sPlanted : Stmt := topS 31
abbrev sRefused : Stmt := topS 32
abbrev sLaw : Stmt := topS 33
/-- the class InvalidNumber's own __init__ -/
abbrev sInit : Stmt := inClass (topS 2) 0
abbrev FnP (K : PySem.W.Frag) (x q : Str) (st : Stmt) (f : Addr) (fd : FuncData) : Prop := FunD K x q (defArgs st) (defBody st) (defScope st) [] [] f fd
end K16

set_option Elab.async false
set_option linter.all false
set_option maxRecDepth 100000
set_option maxHeartbeats 4000000
/-! Rules of our own and short words. -/
namespace K16
open PySem PySem.Spec PyProof.Rows L2
abbrev St : Type := L2.St
/-! ### a def of the text and its promise, by its name -/
/-- the def stands at a global name, its parameters bind in order -/
structure FnAt (K : PySem.W.Frag) (mg : Str → Option Value) (x : Str) (st : Stmt) (ps : List Str) : Prop where
  ex : ∃ (f : Addr) (fd : FuncData), mg x = some (.ref f) ∧ FnP K x x st f fd ∧ Binds K fd ps []
/-- .. and keeps its promise -/
structure DefOk (P : Program) (w : World) (K : PySem.W.Frag) (mg : Str → Option Value) (base : Heap) (CX : CXT) (k : Nat) (x : Str) (ps : List Str) (sp : Sp) : Prop where
  ex : ∃ (f : Addr) (fd : FuncData), mg x = some (.ref f) ∧ PySem.W.keepIn K (.ref f) = true ∧ Binds K fd ps [] ∧ FnOk P w K mg base CX k f fd ps sp
/-- .. its function object told -/
structure DefP (P : Program) (w : World) (K : PySem.W.Frag) (mg : Str → Option Value) (base : Heap) (CX : CXT) (k : Nat) (x : Str) (st : Stmt) (ps : List Str) (sp : Sp) : Prop where
  ex : ∃ (f : Addr) (fd : FuncData), mg x = some (.ref f) ∧ FnP K x x st f fd ∧ Binds K fd ps [] ∧ FnOk P w K mg base CX k f fd ps sp
section
variable {P : Program} {w : World} {K : PySem.W.Frag} {mg : Str → Option Value} {base : Heap}
theorem DefP.ok {CX : CXT} {k : Nat} {x : Str} {st : Stmt} {ps : List Str} {sp : Sp} (D : DefP P w K mg base CX k x st ps sp) : DefOk P w K mg base CX k x ps sp := by
  obtain ⟨f, fd, h1, h2, h3, h4⟩ := D.ex
  exact ⟨f, fd, h1, h2.kp, h3, h4⟩
theorem mkXP {CX : CXT} {x : Str} {st : Stmt} {N ps : List Str} {k : Nat} {sp : Sp} (F : FnAt K mg x st ps) (S : FnScope N ps (defScope st)) (len : ∀ vs H Q E, sp vs H Q E → vs.length = ps.length)
    (hbody : ∀ (f : Addr) (cdv : Value) (A : Around) (outer : List Env) (s : Shared) (H : Hp) (vs : List V) (Q : VK) (E : XK), Room k (A.deeper (envOfC x (defScope st) s.heap.objs.size f cdv)) → sp vs H Q E →
      ∃ t, PSs (cxOf CX P w K mg base N x (defScope st) f cdv A outer s H E) (defBody st) t ∧ t { nx := fun _ H' => Q .non H', rt := Q } (start N vs) H) : DefP P w K mg base CX (k + 1) x st ps sp := by
  obtain ⟨f, fd, h1, F1, b⟩ := F.ex
  exact ⟨f, fd, h1, F1, b, FunD.ok F1 S len fun cdv A outer s H vs Q E hr h => hbody f cdv A outer s H vs Q E hr h⟩
theorem mkX {CX : CXT} {x : Str} {st : Stmt} {N ps : List Str} {k : Nat} {sp : Sp} (F : FnAt K mg x st ps) (S : FnScope N ps (defScope st)) (len : ∀ vs H Q E, sp vs H Q E → vs.length = ps.length)
    (hbody : ∀ (f : Addr) (cdv : Value) (A : Around) (outer : List Env) (s : Shared) (H : Hp) (vs : List V) (Q : VK) (E : XK), Room k (A.deeper (envOfC x (defScope st) s.heap.objs.size f cdv)) → sp vs H Q E →
      ∃ t, PSs (cxOf CX P w K mg base N x (defScope st) f cdv A outer s H E) (defBody st) t ∧ t { nx := fun _ H' => Q .non H', rt := Q } (start N vs) H) : DefOk P w K mg base CX (k + 1) x ps sp := by
  obtain ⟨f, fd, h1, F1, b⟩ := F.ex
  exact ⟨f, fd, h1, F1.kp, b, FunD.ok F1 S len fun cdv A outer s H vs Q E hr h => hbody f cdv A outer s H vs Q E hr h⟩
theorem mk0 {x : Str} {st : Stmt} {N ps : List Str} {k : Nat} {sp : Sp} (F : FnAt K mg x st ps) (S : FnScope N ps (defScope st)) (len : ∀ vs H Q E, sp vs H Q E → vs.length = ps.length)
    (hbody : ∀ (f : Addr) (cdv : Value) (A : Around) (outer : List Env) (s : Shared) (H : Hp) (vs : List V) (Q : VK) (E : XK), Room k (A.deeper (envOfC x (defScope st) s.heap.objs.size f cdv)) → sp vs H Q E →
      ∃ t, PSs (cxOf CX0 P w K mg base N x (defScope st) f cdv A outer s H E).nox (defBody st) t ∧ t { nx := fun _ H' => Q .non H', rt := Q } (start N vs) H) : DefOk P w K mg base CX0 (k + 1) x ps sp :=
  mkX F S len fun f cdv A outer s H vs Q E hr h => by
    obtain ⟨t, h1, h2⟩ := hbody f cdv A outer s H vs Q E hr h
    exact ⟨t, h1.nox, h2⟩
theorem DefOk.mono {CX : CXT} {j k : Nat} {x : Str} {ps : List Str} {sp : Sp} (D : DefOk P w K mg base CX j x ps sp) (h : j ≤ k) : DefOk P w K mg base CX k x ps sp := by
  obtain ⟨f, fd, h1, h2, h3, h4⟩ := D.ex
  exact ⟨f, fd, h1, h2, h3, h4.mono h⟩
end
/-- a def's call: nothing but the promise at the arguments -/
def tCallD (sp : Sp) (E : XK) (t : TA) : TE := fun σ H Q => t σ H fun vs H1 => sp vs H1 Q E
section
variable {X : Cx} {CX : CXT} {k : Nat} {ps : List Str} {sp : Sp} {E : XK} {x : Str} {p pos : Pos} {e : Expr} {es : List Expr} {t : TA}
theorem pe_callD (D : DefOk X.prog X.w X.K X.mg X.base CX k x ps sp) (hr : Room k X.A) (hx : Passes CX X E) (ha : PA X (e :: es) t) (hg : Gl X x := by rfl) (hdb : (x == ("__debug__" : Str)) = false := by decide)
    (he : starEach (e :: es) X.env = (false, eval e X.env) :: starEach es X.env := by rfl) (hpl : (backTo pos (starEach es X.env)).any (·.1) = false := by rfl) : PE X (.Call (.Name x p) (e :: es) [] pos) (tCallD sp E t) := by
  obtain ⟨f, fd, h1, h2, h3, h4⟩ := D.ex
  have q := pe_call (p := p) (pos := pos) h4 hr hg h1 h2 h3 .nil hx ha hdb he hpl
  refine ⟨fun pins s σ H Q I h => q.run pins s σ H Q I ?_⟩
  have e : tCall sp [] E t σ H Q = tCallD sp E t σ H Q := by unfold tCall tCallD; simp only [List.append_nil]
  rw [e]; exact h
theorem pe_callD0 (D : DefOk X.prog X.w X.K X.mg X.base CX k x ps sp) (hr : Room k X.A) (hx : Passes CX X E) (hg : Gl X x := by rfl) (hdb : (x == ("__debug__" : Str)) = false := by decide) :
    PE X (.Call (.Name x p) [] [] pos) (tCallD sp E tNil) := by
  obtain ⟨f, fd, h1, h2, h3, h4⟩ := D.ex
  exact pe_call0 (p := p) (pos := pos) h4 hr hg h1 h2 h3 .nil hx hdb
/-- what leaves the callee is wished for at the caller's slots -/
def tCallSD (sp : Sp) (E : St → XK) (t : TA) : TE := fun σ H Q => t σ H fun vs H1 => sp vs H1 Q (E σ)
theorem pe_callSD (D : DefOk X.prog X.w X.K X.mg X.base CX k x ps sp) {E : St → XK} (hr : Room k X.A) (hx : ∀ σ, PassesAt CX X σ (E σ)) (ha : PA X (e :: es) t) (hg : Gl X x := by rfl) (hdb : (x == ("__debug__" : Str)) = false := by decide)
    (he : starEach (e :: es) X.env = (false, eval e X.env) :: starEach es X.env := by rfl) (hpl : (backTo pos (starEach es X.env)).any (·.1) = false := by rfl) : PE X (.Call (.Name x p) (e :: es) [] pos) (tCallSD sp E t) := by
  obtain ⟨f, fd, h1, h2, h3, h4⟩ := D.ex
  have q := pe_callS (p := p) (pos := pos) h4 hr hg h1 h2 h3 hx ha hdb he hpl
  exact ⟨fun pins s σ H Q I h => q.run pins s σ H Q I h⟩
end
/-! ### heaps -/
theorem same_upd {H : Hp} {p : Addr} {o : HO} (h : H p = none) : Same H (upd H p o) := fun b z e => by
  rw [upd_ne (ne_of_none e h)]; exact e
/-- a thing that H does not know may change -/
theorem same_mut {H H' : Hp} {p : Addr} {o : HO} (s : Same H H') (h : H p = none) : Same H (upd H' p o) := fun b z e => by
  rw [upd_ne (ne_of_none e h)]; exact s b z e
theorem same_tup {K : PySem.W.Frag} {H H' : Hp} {a : Addr} {xs : List V} (e : Same H H') (h : SqT K H a xs) : SqT K H' a xs := by
  rcases h with (h | ⟨o, h⟩) | h
  · exact .inl (.inl (e _ _ h))
  · exact .inl (.inr ⟨o, e _ _ h⟩)
  · exact .inr h
/-- a tuple with its object known -/
def FTup (H : Hp) (p : Addr) (xs : List V) : Prop := ∃ o : Obj, H p = some (.frz o (.tup xs)) ∧ o.dict = none
theorem FTup.sq {K : PySem.W.Frag} {H : Hp} {p : Addr} {xs : List V} (h : FTup H p xs) : SqT K H p xs := by
  obtain ⟨o, h, _⟩ := h
  exact .inl (.inr ⟨o, h⟩)
theorem FTup.keep {H H' : Hp} {p : Addr} {xs : List V} (h : FTup H p xs) (e : ∀ o, H p = some o → H' p = some o) : FTup H' p xs := by
  obtain ⟨o, h, d⟩ := h
  exact ⟨o, e _ h, d⟩
section
variable {X : Cx}
/-- tuple(a list): the new tuple's object is known -/
def rTupF (K : PySem.W.Frag) : List V → Hp → VK → Prop := fun xs H Q => ∃ p ys, xs = [.ref p] ∧ SqL K H p ys ∧ ∀ l o, H l = none → o.dict = none → Q (.ref l) (upd H l (.frz o (.tup ys)))
theorem call_tupF : CallR X (.type "tuple") (rTupF X.K) := by
  intro pins s σ H xs us Q I r h
  obtain ⟨p, ys, rfl, hq, q⟩ := h
  obtain ⟨u, rfl, rx⟩ := vals1 r
  cases rx
  obtain ⟨its, r2, pl, hz⟩ := I.list hq
  have hn := r2.length
  refine call_tuple_list pl.isList (fun h2 kp => ?_) (by simp only [List.size_toArray] <;> omega)
  have J : Inv X pins σ H { s with heap := h2 } := I.kept (t' := s.toks) kp
  have fr := J.hok.fresh (Nat.le_refl _)
  refine ⟨.ref h2.objs.size, _, J.laid (o := .frz { cls := .type "tuple", data := .seq its.toArray } (.tup ys)) (t' := s.toks) (fun b o e => Heap.get?_push_of_some _ e) (Nat.le_refl _) ?_, rfl, q _ _ fr rfl⟩
  exact ⟨Heap.get?_push_size _ rfl, hz, its, r2, IsTup.new _ _⟩
/-- row.index(k), row a tuple of ints with its object known: the first place -/
def tTix (to te : TE) : TE := fun σ H Q => to σ H fun x H1 => ∃ (p : Addr) (ns : List Int), x = .ref p ∧ FTup H1 p (ns.map V.int) ∧ te σ H1 fun y H2 => ∃ (k : Int) (j : Nat), y = .int k ∧ FTup H2 p (ns.map V.int) ∧ ns[j]? = some k ∧ (∀ m, m < j → ns[m]? ≠ some k) ∧ Q (.int (j : Nat)) H2
theorem pe_tix {o e : Expr} {to te : TE} {apos cpos : Pos} (ho : PE X o to) (he : PE X e te)
    (hbase : attributeBase o "index" X.env (eval o X.env) = eval o X.env := by rfl)
    (hfew : ((backTo cpos (starEach [e] X.env)).all (fun x => !x.1) && (backToKw cpos (keywordEach [] X.env)).all (fun x => x.1.isSome)
      && decide ([e].length + ([] : List Keyword).length + (if ([] : List Keyword).isEmpty then 0 else 1) < 30)) = true := by rfl)
    (hline : (apos.endLine == cpos.line) = true := by rfl) (hs : starEach [e] X.env = (false, eval e X.env) :: starEach [] X.env := by rfl) (hplain : (backTo cpos (starEach [] X.env)).any (·.1) = false := by rfl) :
    PE X (.Call (.Attribute o "index" apos) [e] [] cpos) (tTix to te) := by
  refine ⟨fun pins s σ H Q I h => ?_⟩
  unfold tTix at h
  refine wpAny_Call_method_late hbase hfew hline rfl (thn (ho.run pins s σ H _ I h) fun v s1 ⟨x, H1, I1, r1, p, ns, ex, ft, q1⟩ => ?_)
  subst ex
  cases r1
  obtain ⟨ob, hp, hd⟩ := ft
  obtain ⟨hob, _, its1, _, oo, ho1, hc1, _⟩ := I1.hok p _ hp
  rw [hob] at ho1
  cases ho1
  refine ⟨"tuple", "tuple.index", PySem.F.plainAttrs_tuple, PySem.F.slot_tuple_index, PySem.F.type_tuple_index, ⟨ob, hob, hc1⟩, fun a e => by cases e; exact ⟨ob, hob, hd⟩, ?_⟩
  have hA := (pa_cons (hs := hs) he pa_nil).run cpos pins s1 σ H1 (fun vs H2 => ∃ (k : Int) (j : Nat), vs = [.int k] ∧ FTup H2 p (ns.map V.int) ∧ ns[j]? = some k ∧ (∀ m, m < j → ns[m]? ≠ some k) ∧ Q (.int (j : Nat)) H2) I1 (by
    have e1 : tCons te tNil σ H1 (fun vs H2 => ∃ (k : Int) (j : Nat), vs = [.int k] ∧ FTup H2 p (ns.map V.int) ∧ ns[j]? = some k ∧ (∀ m, m < j → ns[m]? ≠ some k) ∧ Q (.int (j : Nat)) H2) = te σ H1 (fun y H2 => ∃ (k : Int) (j : Nat), [y] = [.int k] ∧ FTup H2 p (ns.map V.int) ∧ ns[j]? = some k ∧ (∀ m, m < j → ns[m]? ≠ some k) ∧ Q (.int (j : Nat)) H2) := rfl
    rw [e1]
    have e2 : ∀ y : V, ∀ k : Int, ([y] = [V.int k]) = (y = V.int k) := fun y k => by simp
    simp only [e2]
    exact q1)
  rw [hs] at hA ⊢
  refine Calls.callWith_builtin (by show (false || (backTo cpos (starEach [] X.env)).any (·.1)) = false; rw [hplain] <;> rfl) (Calls.evalArgs_plain ?_)
  refine thn hA fun us s2 ⟨vs, H2, I2, r2, k, j, ev, ft2, hj, hno, q2⟩ => ?_
  subst ev
  obtain ⟨u, rfl, t, rfl⟩ := vals1 r2
  obtain ⟨its, r, pl, hz⟩ := I2.tuple (K16.FTup.sq ft2)
  obtain ⟨⟨cls, dd, dt, sl⟩, hg, hc, n, hdt⟩ := pl
  simp only at hc hdt
  subst hc
  subst hdt
  have hl : its.toArray.size = ns.length := by rw [List.size_toArray, ← r.length, List.length_map]
  have hjs : j < its.toArray.size := by rw [hl]; exact (List.getElem?_eq_some_iff.mp hj).1
  have each : ∀ (m : Nat) (hm : m < its.toArray.size), ∃ y t2, ns[m]? = some y ∧ its.toArray[m] = Value.int y t2 := fun m hm => by
    have hm2 : m < ns.length := by rw [← hl]; exact hm
    obtain ⟨z, hw, t2, hw2⟩ := r.get (i := m) (x := .int ns[m]) (by simp [hm2])
    refine ⟨ns[m], t2, List.getElem?_eq_getElem hm2, ?_⟩
    have e := (List.getElem?_eq_some_iff.mp hw).2
    rw [← hw2, ← e]
    simp
  have flat : (ns.map V.int).all flatV = true := by simp [List.all_map, flatV]
  refine call_meets PySem.F.slot_tuple_index ⟨_, hg, rfl⟩ PySem.F.entry_tuple_index (PySem.F.args_tuple_index_2 _ _) (TI.tuple_indexAt p its.toArray n dd sl (.int k t) (eqU (.int k)) j hjs ?_ ?_)
    ⟨hg, fun z hz2 => mem_eqAt (x := .int k) ⟨t, rfl⟩ rfl r flat z (by simpa using hz2), ⟨.int (j : Nat), H2, I2.tok _, ⟨_, rfl⟩, q2⟩⟩
  · obtain ⟨y, t2, h1, h2⟩ := each j hjs
    rw [hj] at h1
    cases h1
    rw [h2]
    simp [eqU, eqV]
  · intro m hm hmj
    obtain ⟨y, t2, h1, h2⟩ := each m hm
    rw [h2]
    have : y ≠ k := fun e => hno m hmj (by rw [h1, e])
    simp [eqU, eqV, this]
end
/-! ### f(k = v, ..): keywords alone -/
section
variable {X : Cx} {CX : CXT} {k : Nat} {f : Addr} {fd : FuncData} {ps ks : List Str} {sp : Sp} {E : XK} {x : Str} {p pos : Pos} {kws : List Keyword} {tk : TA} {g : List Value → List Value → List Value} {gV : List V → List V → List V}
def tCallKW (m : Nat) (sp : Sp) (gV : List V → List V → List V) (E : XK) (tk : TA) : TE := fun σ H Q => tk σ H fun zs H1 => zs.length = m ∧ sp (gV [] zs) H1 Q E
theorem pe_callKW (F : FnOk X.prog X.w X.K X.mg X.base CX k f fd ps sp) (hr : Room k X.A) (hm : X.mg x = some (.ref f)) (hk : PySem.W.keepIn X.K (.ref f) = true) (hb : KBn X.K fd ps 0 ks g gV) (hx : Passes CX X E) (hkw : PK X kws tk) (hg : Gl X x := by rfl)
    (hall : (backToKw pos (keywordEach kws X.env)).all (·.1.isSome) = true := by rfl) (hks : (backToKw pos (keywordEach kws X.env)).filterMap (·.1) = ks := by rfl) (hdb : (x == ("__debug__" : Str)) = false := by decide)
    (hpl : ((backTo pos (starEach [] X.env)).any (·.1) || (backToKw pos (keywordEach kws X.env)).any (·.1.isNone)) = false := by rfl) :
    PE X (.Call (.Name x p) [] kws pos) (tCallKW ks.length sp gV E tk) := by
  refine ⟨fun pins s σ H Q I h => ?_⟩
  refine wpAny_Call_Name_kw (ld_glob I hg hm (PySem.W.callWith_KW0 (h₀ := X.base) I.ok.mod.kin hk hall ?_ hpl) hdb)
  refine thn (hkw.run pos pins s σ H _ I h) fun ws s2 ⟨zs, H2, I2, rz, l2, q2⟩ => ⟨I2.kIn, ?_⟩
  rw [hks]
  exact run_fnN (us := []) (vs := []) F hr hb hx I2 .nil rz rfl l2 q2
end
/-! ### try .. except x as n, further clauses behind it that are not come to -/
def wFirst (K : PySem.W.Frag) (c : Value) (i : Nat) (ts : Addr → Value → Option Addr → TS) (D : Ends) : WX := fun cls d σ H => PySem.W.exmOne K cls c = some true ∧
  ∀ a, H a = none → ts a cls d { nx := fun σ2 H2 => D.nx (σ2.set i none) H2, rt := D.rt, bk := fun σ2 H2 => D.bk (σ2.set i none) H2, ct := fun σ2 H2 => D.ct (σ2.set i none) H2 } (σ.set i (some (.ref a))) H
section
variable {X : Cx} {x n : Str} {c : Value} {i : Nat} {body suite : List Stmt} {b0 : Stmt} {more : List ExceptHandler} {np pos hpos : Pos} {tb : WX → TS} {ts : Addr → Value → Option Addr → TS}
theorem ps_try_first (hs : X.stack = X.env :: X.outer) (hf : X.env.frame = some X.env.locals) (hN : X.N.Nodup) (hi : X.N[i]? = some n) (hln : X.env.kindOf n = some .local) (hc : Names X x c)
    (hb : ∀ (W : WX) (pn : List (Addr × Obj)) (xe : Value → Shared → Prop), Takes (X.tr pn xe) W → PassesOwn (model X.prog X.w) X.A X.env xe → PSs (X.tr pn xe) body (tb W))
    (hsu : ∀ (a : Addr) (oe : Obj) (cls : Value) (d : Option Addr) (pn : List (Addr × Obj)), Zc cls d oe → (∃ vs, oe.data = .fields vs) → PSs (X.suite a ((a, oe) :: pn)) (b0 :: suite) (ts a cls d)) :
    PS X (.Try body (.ExceptHandler (some (.Name x np)) (some n) (b0 :: suite) hpos :: more) [] [] pos) (fun D σ H => tb (wFirst X.K c i ts D) D σ H) := by
  refine ⟨fun pins s σ H D I h => ?_⟩
  have ok := I.ok
  have frm : X.A.frames = some (X.env :: X.outer) := ok.frames.trans (congrArg some hs)
  refine wpAny_Try_except (wpAny_mono ((hb (wFirst X.K c i ts D) (X.pn ++ pins) _ (fun u s1 air => ?_) PassesOwn.looking).run [] s σ H D (I.toTry _) h) (fun fl s1 hsp => ?_) fun e s1 he => he)
  · obtain ⟨a, B, sI, pins2, σ2, H2, cls, d, rfl, J0, nb, up, sky, na, hos, hag, hb1, hyes⟩ := air
    have J := J0.ofTry ok
    rw [hs] at sky
    show wpAny (model X.prog X.w) X.A (noteFrame (.ref a) X.env) _ _ _
    refine Sky.land Zc.steady frm hf sky fun h3 fl3 up3 => ?_
    have J3 : Inv X pins σ2 H2 { s1 with heap := h3 } := J.landed nb fl3.1 (up.trans up3) hos hag
    obtain ⟨oe3, vs3, he3, hz3, hd3⟩ := fl3.there
    have out : a ∉ frs (X.env :: X.outer) := fun hm => by
      obtain ⟨_, o2, e2, hnf⟩ := fl3.2.2.1.mem hm
      rw [he3] at e2
      cases e2
      exact hnf _ hd3
    have nL : a ≠ X.env.locals := fun z => out (List.mem_filterMap.mpr ⟨X.env, List.mem_cons_self, hf.trans (congrArg some z.symm)⟩)
    have nF : a ∉ X.fs := fun hm => by
      obtain ⟨e, he, q⟩ := List.mem_filterMap.mp hm
      exact out (List.mem_filterMap.mpr ⟨e, List.mem_cons_of_mem _ he, q⟩)
    have S3 := J3.suite he3 hd3 na nL nF
    refine wpAny_handleBy_cons (codeAny_handlers_test ?_) (by intro q; cases q)
    have LT : PySem.W.Looks (model X.prog X.w) h3 (typeOf (.ref a)) cls := fun A Q E s k q => wpAny_typeOf_ref (k _ _ he3) (by rw [hz3.1]; exact q)
    have LM := PySem.W.exm_one (M := model X.prog X.w) J3.kIn LT hb1
    have named : ∀ {Q E : Value → Shared → Prop}, Q c { s1 with heap := h3 } → wpAny (model X.prog X.w) (X.A.mark (some (.ref a))) (eval (.Name x np) X.env) Q E { s1 with heap := h3 } := fun {Q E} q => by
      obtain ⟨hg, hdbg, hm | ⟨hm, hv, hnn⟩⟩ := hc
      · exact ld_glob S3 hg hm q hdbg
      · exact ld_blt S3 hg hm hv q hnn hdbg
    refine named (LM.here (codeAny_handlers_suite_as (HandSPX.lands_againZ fl3 fun h4 fl4 up4 => ?_)))
    have J4 : Inv X pins σ2 H2 { s1 with heap := h4 } := J.landed nb fl4.1 ((up.trans up3).trans up4) hos hag
    obtain ⟨oe4, vs4, he4, hz4, hd4⟩ := fl4.there
    have S4 := J4.suite he4 hd4 na nL nF
    refine store_ok (X := X.suite a ((a, oe4) :: (X.pn ++ pins))) (v := .ref a) S4 hN hi (.inl hln) rfl (fun s5 S5 => ?_) (.inr hln)
    refine wpAny_mono ((hsu a oe4 cls d (X.pn ++ pins) hz4 ⟨_, hd4⟩).run [] s5 _ H2 _ S5 (hyes a na)) (fun fl s6 hsp => ?_) fun _ _ z => False.elim z
    have away : ∀ {σ6 : St} {H6 : Hp} {Q : Shared → Prop}, Inv (X.suite a ((a, oe4) :: (X.pn ++ pins))) [] σ6 H6 s6 → (∀ s7, Inv X pins (σ6.set i none) H6 s7 → Q s7) →
        wpAny (model X.prog X.w) X.A (do bindName X.env n .none; unbindBehindTheSuite X.env n hpos) (fun _ s7 => Q s7) X.xe s6 := fun {σ6 H6 Q} S6 hq => gone_ok (S6.unsuite ok) hN hi hln hq
    cases fl with
    | next =>
      obtain ⟨σ6, H6, S6, q6⟩ := hsp
      exact away S6 fun s7 J7 => ⟨_, _, J7, q6⟩
    | brk =>
      obtain ⟨σ6, H6, S6, q6⟩ := hsp
      exact away S6 fun s7 J7 => ⟨_, _, J7, q6⟩
    | cont =>
      obtain ⟨σ6, H6, S6, q6⟩ := hsp
      exact away S6 fun s7 J7 => ⟨_, _, J7, q6⟩
    | ret u =>
      obtain ⟨v6, σ6, H6, S6, r6, q6⟩ := hsp
      exact away S6 fun s7 J7 => ⟨_, _, _, J7, r6, q6⟩
  · cases fl with
    | next =>
      obtain ⟨σ2, H2, J, q⟩ := hsp
      exact wpAny_execs_nil ⟨σ2, H2, J.ofTry ok, q⟩
    | brk =>
      obtain ⟨σ2, H2, J, q⟩ := hsp
      exact ⟨σ2, H2, J.ofTry ok, q⟩
    | cont =>
      obtain ⟨σ2, H2, J, q⟩ := hsp
      exact ⟨σ2, H2, J.ofTry ok, q⟩
    | ret u =>
      obtain ⟨v, σ2, H2, J, r, q⟩ := hsp
      exact ⟨v, σ2, H2, J.ofTry ok, r, q⟩
end
end K16

set_option Elab.async false
set_option linter.all false
set_option maxRecDepth 100000
set_option maxHeartbeats 4000000
/-! What the defs may use of the module and of the built-ins; kinds of values; rows on the heap. -/
namespace K16
open PySem PySem.Spec PyProof.Rows L2
/-- the names that the built-ins give -/
structure Txt (mg : Str → Option Value) : Prop where
  isi : mg "isinstance" = none
  int_ : mg "int" = none
  bool_ : mg "bool" = none
  list_ : mg "list" = none
  tuple_ : mg "tuple" = none
  str_ : mg "str" = none
  dict_ : mg "dict" = none
  range_ : mg "range" = none
  len_ : mg "len" = none
  zip_ : mg "zip" = none
  all_ : mg "all" = none
  sum_ : mg "sum" = none
  max_ : mg "max" = none
  ve : mg "ValueError" = none
/-! ### what the built-ins' names mean -/
theorem bt_int : bootBuiltins "int" = some (.type "int") := by decide +kernel
theorem bt_bool : bootBuiltins "bool" = some (.type "bool") := by decide +kernel
theorem bt_list : bootBuiltins "list" = some (.type "list") := by decide +kernel
theorem bt_tuple : bootBuiltins "tuple" = some (.type "tuple") := by decide +kernel
theorem bt_str : bootBuiltins "str" = some (.type "str") := by decide +kernel
theorem bt_dict : bootBuiltins "dict" = some (.type "dict") := by decide +kernel
theorem bb_isi : bootBuiltins "isinstance" = some (.builtin "isinstance") := by decide +kernel
theorem bb_sum : bootBuiltins "sum" = some (.builtin "sum") := by decide +kernel
theorem bb_all : bootBuiltins "all" = some (.builtin "all") := by decide +kernel
theorem bb_max : bootBuiltins "max" = some (.builtin "max") := by decide +kernel
/-! ### built-in types as values -/
section
variable {X : Cx} {pos : Pos}
theorem pe_ty {x : Str} {n : String} (hm : X.mg x = none) (hv : bootBuiltins x = some (.type n)) (hg : Gl X x := by rfl) (hn : x ≠ "__name__" := by decide) (hd : (x == ("__debug__" : Str)) = false := by decide) : PE X (.Name x pos) (tC (.ty n)) := pe_bltn hg hm hv rfl hn hd
end
/-! ### walks -/
theorem walk_zipT {K : PySem.W.Frag} {a b : Addr} {xs ys : List V} {n : Nat} (hn : n = min xs.length ys.length) : Walk (RZ.ItzT K a b) n (fun H => SqT K H a xs ∧ SqT K H b ys) (YPair (fun i => xs[i]?) (fun i => ys[i]?)) := by
  refine ⟨fun i H hi ⟨h1, h2⟩ => ⟨xs, ys, xs[i]'(by omega), ys[i]'(by omega), h1, h2, List.getElem?_eq_getElem _, List.getElem?_eq_getElem _⟩, fun H ⟨h1, h2⟩ => ⟨xs, ys, h1, h2, by omega⟩, ?_⟩
  rintro i H v H2 hi ⟨h1, h2⟩ ⟨T, x, y, e1, e2, e3, e4, e5⟩
  exact ⟨T, x, y, e1, e2, e3, e4 _ h1, e5 _ h2⟩
/-! ### sizes -/
theorem line_ge {n : Nat} (h : n ≤ 100000) : n ≤ sizeLine := by rw [sizeLine_eq]; omega
theorem line_gt {n : Nat} (h : n < 100000) : n < sizeLine := by rw [sizeLine_eq]; omega
/-! ### rows on the heap -/
/-- vs are lists that hold the rows -/
def RowsL (H : Hp) : List V → List (List Int) → Prop := Paired fun v r => ∃ a : Addr, v = .ref a ∧ H a = some (.lst (r.map V.int))
/-- vs are tuples that hold the rows -/
def RowsT (K : PySem.W.Frag) (H : Hp) : List V → List (List Int) → Prop := Paired fun v r => ∃ a : Addr, v = .ref a ∧ SqT K H a (r.map V.int)
def RowsF (H : Hp) : List V → List (List Int) → Prop := Paired fun v r => ∃ a : Addr, v = .ref a ∧ FTup H a (r.map V.int)
theorem paired_len {α β : Type} {F : α → β → Prop} : ∀ {xs : List α} {ys : List β}, Paired F xs ys → xs.length = ys.length
  | _, _, .nil => rfl
  | _, _, .cons _ t => congrArg (· + 1) (paired_len t)
theorem paired_at {α β : Type} {F : α → β → Prop} : ∀ {xs : List α} {ys : List β} {i : Nat} {x : α} {y : β}, Paired F xs ys → xs[i]? = some x → ys[i]? = some y → F x y
  | _, _, _, _, _, .nil, h, _ => by simp at h
  | _, _, 0, _, _, .cons r _, h, k => by simp at h k; subst h; subst k; exact r
  | _, _, i + 1, _, _, .cons _ t, h, k => by simp at h k; exact paired_at t h k
theorem paired_imp {α β : Type} {F G : α → β → Prop} (h : ∀ a b, F a b → G a b) : ∀ {xs : List α} {ys : List β}, Paired F xs ys → Paired G xs ys
  | _, _, .nil => .nil
  | _, _, .cons r t => .cons (h _ _ r) (paired_imp h t)
theorem paired_app {α β : Type} {F : α → β → Prop} : ∀ {xs us : List α} {ys ws : List β}, Paired F xs ys → Paired F us ws → Paired F (xs ++ us) (ys ++ ws)
  | _, _, _, _, .nil, k => k
  | _, _, _, _, .cons r t, k => .cons r (paired_app t k)
theorem paired_snoc {α β : Type} {F : α → β → Prop} {xs : List α} {ys : List β} {x : α} {y : β} (h : Paired F xs ys) (k : F x y) : Paired F (xs ++ [x]) (ys ++ [y]) := paired_app h (.cons k .nil)
theorem paired_set {α β : Type} {F : α → β → Prop} {x : α} {y : β} (k : F x y) : ∀ {xs : List α} {ys : List β} (i : Nat), Paired F xs ys → Paired F (xs.set i x) (ys.set i y)
  | _, _, _, .nil => .nil
  | _, _, 0, .cons _ t => .cons k t
  | _, _, i + 1, .cons r t => .cons r (paired_set k i t)
theorem paired_take {α β : Type} {F : α → β → Prop} : ∀ {xs : List α} {ys : List β} (i : Nat), Paired F xs ys → Paired F (xs.take i) (ys.take i)
  | _, _, _, .nil => by simp; exact .nil
  | _, _, 0, .cons _ t => .nil
  | _, _, i + 1, .cons r t => .cons r (paired_take i t)
theorem paired_erase {α β : Type} {F : α → β → Prop} : ∀ {xs : List α} {ys : List β} (i : Nat), Paired F xs ys → Paired F (xs.eraseIdx i) (ys.eraseIdx i)
  | _, _, _, .nil => .nil
  | _, _, 0, .cons _ t => t
  | _, _, i + 1, .cons r t => .cons r (paired_erase i t)
/-- the i-th of both -/
theorem paired_get {α β : Type} {F : α → β → Prop} {xs : List α} {ys : List β} {i : Nat} (h : Paired F xs ys) (hi : i < ys.length) (d : β) : ∃ x, xs[i]? = some x ∧ F x (ys.getD i d) := by
  have hx : i < xs.length := by rw [paired_len h]; exact hi
  refine ⟨xs[i], List.getElem?_eq_getElem hx, paired_at h (List.getElem?_eq_getElem hx) ?_⟩
  rw [List.getD_eq_getElem?_getD, List.getElem?_eq_getElem hi]; rfl
theorem RowsL.same {H H' : Hp} {vs : List V} {T : List (List Int)} (h : RowsL H vs T) (s : Same H H') : RowsL H' vs T := paired_imp (fun _ _ ⟨a, e, k⟩ => ⟨a, e, s _ _ k⟩) h
theorem RowsT.same {K : PySem.W.Frag} {H H' : Hp} {vs : List V} {T : List (List Int)} (h : RowsT K H vs T) (s : Same H H') : RowsT K H' vs T := paired_imp (fun _ _ ⟨a, e, k⟩ => ⟨a, e, same_tup s k⟩) h
/-- rows stay where one object that is no list of ints changes, or a new one comes -/
theorem RowsL.keep {H H' : Hp} {vs : List V} {T : List (List Int)} (h : RowsL H vs T) (s : ∀ a r, H a = some (.lst (List.map V.int r)) → H' a = some (.lst (r.map V.int))) : RowsL H' vs T := paired_imp (fun _ _ ⟨a, e, k⟩ => ⟨a, e, s _ _ k⟩) h
theorem RowsF.same {H H' : Hp} {vs : List V} {T : List (List Int)} (h : RowsF H vs T) (s : Same H H') : RowsF H' vs T := paired_imp (fun _ _ ⟨a, e, k⟩ => ⟨a, e, k.keep fun o q => s _ _ q⟩) h
theorem RowsF.list {H : Hp} {D : Addr} {us ws vs : List V} {T : List (List Int)} (h : RowsF H vs T) (hd : H D = some (.lst us)) : RowsF (upd H D (.lst ws)) vs T :=
  paired_imp (fun _ _ ⟨a, e, o, k, d⟩ => ⟨a, e, o, by rw [upd_ne (ne_of k hd (by intro z; cases z))]; exact k, d⟩) h
theorem ints_at {r : List Int} {j : Nat} (h : j < r.length) : (r.map V.int)[j]? = some (.int (r.getD j 0)) := by
  rw [List.getElem?_map, List.getD_eq_getElem?_getD, List.getElem?_eq_getElem h]; rfl
theorem ints_of {r : List Int} {j : Nat} {x : V} (h : (r.map V.int)[j]? = some x) : j < r.length ∧ x = .int (r.getD j 0) := by
  rw [List.getElem?_map] at h
  by_cases hj : j < r.length
  · rw [List.getElem?_eq_getElem hj] at h
    refine ⟨hj, ?_⟩
    rw [List.getD_eq_getElem?_getD, List.getElem?_eq_getElem hj]
    exact (Option.some.inj h).symm
  · rw [List.getElem?_eq_none (by omega)] at h; cases h
theorem take_snoc {α : Type} {l : List α} {i : Nat} (h : i < l.length) (d : α) : l.take (i + 1) = l.take i ++ [l.getD i d] := by
  rw [List.take_succ_eq_append_getElem h, getD_lt d h]
theorem map_take_snoc {r : List Int} {i : Nat} (h : i < r.length) : (r.take (i + 1)).map V.int = (r.take i).map V.int ++ [.int (r.getD i 0)] := by
  rw [take_snoc h 0, List.map_append]; rfl
theorem ints_inj : ∀ {a b : List Int}, a.map V.int = b.map V.int → a = b
  | [], [], _ => rfl
  | [], _ :: _, h => by simp at h
  | _ :: _, [], h => by simp at h
  | x :: a, y :: b, h => by
    simp only [List.map_cons, List.cons.injEq, V.int.injEq] at h
    rw [h.1, ints_inj h.2]
theorem ne_true {a b : V} {d : Decidable (a = b)} (h : (!@decide (a = b) d) = true) : a ≠ b := fun e => by
  rw [decide_eq_true e] at h
  cases h
theorem ne_false {a b : V} {d : Decidable (a = b)} (h : ¬ (!@decide (a = b) d) = true) : a = b := Classical.byContradiction fun e => h (by rw [decide_eq_false e]; rfl)
/-- the same value, otherwise written -/
theorem val_eq {Q : VK} {v u : V} {H : Hp} (e : v = u) (h : Q u H) : Q v H := by rw [e]; exact h
/-! ### readings by name (for a comprehension's block) -/
def rListOf (K : PySem.W.Frag) : List V → Hp → VK → Prop := fun xs H Q => ∃ p ys, xs = [.ref p] ∧ (SqL K H p ys ∨ SqT K H p ys) ∧ ∀ l, H l = none → Q (.ref l) (upd H l (.lst ys))
theorem call_listOf {X : Cx} : CallR X (.type "list") (rListOf X.K) := call_list_of
def rTupOf (K : PySem.W.Frag) : List V → Hp → VK → Prop := fun xs H Q => ∃ p ys, xs = [.ref p] ∧ ((SqL K H p ys ∧ ∀ l, H l = none → Q (.ref l) (upd H l (.tup ys))) ∨ (SqT K H p ys ∧ Q (.ref p) H))
theorem call_tupOf {X : Cx} : CallR X (.type "tuple") (rTupOf X.K) := call_tuple_of
/-! ### what is a list or a tuple, by a name -/
def iVSeq (K : PySem.W.Frag) (i : Nat) : TI := fun σ H R => ∃ a, σ[i]? = some (some (.ref a)) ∧ (((∃ xs, SqL K H a xs) ∧ R (Itl K a) H) ∨ ((∃ xs, SqT K H a xs) ∧ R (Itt K a) H))
theorem pi_vseq {X : Cx} {tg l : Expr} {i : Nat} (hl : PE X l (tVar i)) : PI X tg l (iVSeq X.K i) := ⟨fun pins s σ H R I h => by
  obtain ⟨a, ha, ⟨hx, r⟩ | ⟨hx, r⟩⟩ := h
  · exact (pi_list hl).run pins s σ H R I ⟨_, ha, a, rfl, hx, r⟩
  · exact (pi_tup hl).run pins s σ H R I ⟨_, ha, a, rfl, hx, r⟩⟩
theorem cut_take (xs : List V) (k : Nat) : cutV xs none (some (k : Int)) = xs.take k := by
  unfold cutV
  rw [HT.sIx_none, HT.sIx_nat, List.drop_zero, Nat.sub_zero]
  rcases Nat.le_total k xs.length with h | h
  · rw [Nat.min_eq_left h]
  · rw [Nat.min_eq_right h, List.take_of_length_le (Nat.le_refl _), List.take_of_length_le h]
theorem ixN_nat {n j : Nat} (h : j < n) : ixN n (j : Int) = some j := by
  unfold ixN
  rw [if_pos (by omega), if_pos (by omega)]
  simp
end K16

set_option Elab.async false
set_option linter.all false
set_option maxRecDepth 100000
set_option maxHeartbeats 4000000
/-! is_number, is_prime, _inverse_of, _pivot_row, _scaled, _lessened. -/
namespace K16
open PySem PySem.Spec PyProof.Rows L2
/-! ### what a value is -/
/-- whether a value is a number -/
inductive NumOf (K : PySem.W.Frag) (H : Hp) : V → Bool → Prop
  | int (i : Int) : NumOf K H (.int i) true
  | oth {x : V} (T : String) (h : T = "bool" ∨ T = "NoneType" ∨ T = "str" ∨ T = "tuple" ∨ T = "list" ∨ T = "dict") (ty : TyX K H x (.type T)) (n : ∀ i, x ≠ .int i) : NumOf K H x false
theorem NumOf.same {K : PySem.W.Frag} {H : Hp} {x : V} {b : Bool} (h : NumOf K H x b) : (∃ i, x = .int i ∧ b = true) ∨ (b = false ∧ ∀ i, x ≠ .int i) := by
  cases h with
  | int i => exact .inl ⟨i, rfl, rfl⟩
  | oth T h ty n => exact .inr ⟨rfl, n⟩
def isPr : V → Bool
  | .int i => primes.contains i
  | _ => false
theorem scN : FnScope ["value"] ["value"] (defScope sNumber) := ⟨rfl, rfl, rfl, by decide +kernel, rfl, by decide +kernel, by decide +kernel⟩
theorem scP : FnScope ["value"] ["value"] (defScope sPrime) := ⟨rfl, rfl, rfl, by decide +kernel, rfl, by decide +kernel, by decide +kernel⟩
def spNumber (K : PySem.W.Frag) : Sp := fun vs H Q _ => ∃ x b, vs = [x] ∧ NumOf K H x b ∧ Q (.bl b) H
def spPrime (K : PySem.W.Frag) : Sp := fun vs H Q _ => ∃ x b, vs = [x] ∧ NumOf K H x b ∧ Q (.bl (isPr x)) H
section
variable {P : Program} {w : World} {K : PySem.W.Frag} {mg : Str → Option Value} {base : Heap}
theorem ok_number (T : Txt mg) (F : FnAt K mg "is_number" sNumber ["value"]) : DefOk P w K mg base CX0 1 "is_number" ["value"] (spNumber K) := by
  refine mk0 F scN (fun vs H Q E h => ?_) (fun f cdv A outer s H vs Q E hr h => ?_)
  · obtain ⟨x, b, rfl, _⟩ := h
    rfl
  · obtain ⟨x, b, rfl, hn, q⟩ := h
    refine ⟨_, pss_one (ps_ret (pe_and (pe_callB call_isi (by rfl) T.isi bb_isi (pa_cons (pv 0) (pa_cons (pe_ty T.int_ bt_int) pa_nil)))
      (pe_one (pe_not (pe_callB call_isi (by rfl) T.isi bb_isi (pa_cons (pv 0) (pa_cons (pe_ty T.bool_ bt_bool) pa_nil))))))), ?_⟩
    cases hn with
    | int i =>
      refine ⟨_, rfl, _, _, _, _, true, rfl, .ty "int", .base (.int i), kit_ty (by decide +kernel), true, rfl, iteT ?_⟩
      exact ⟨_, rfl, _, _, _, _, false, rfl, .ty "bool", .base (.int i), kit_ty (by decide +kernel), false, rfl, q⟩
    | oth T' h ty n =>
      rcases h with rfl | rfl | rfl | rfl | rfl | rfl
      · refine ⟨_, rfl, _, _, _, _, true, rfl, .ty "int", ty, kit_ty (by decide +kernel), true, rfl, iteT ?_⟩
        exact ⟨_, rfl, _, _, _, _, true, rfl, .ty "bool", ty, kit_ty (by decide +kernel), true, rfl, q⟩
      all_goals exact ⟨_, rfl, _, _, _, _, false, rfl, .ty "int", ty, kit_ty (by decide +kernel), false, rfl, iteF q⟩
/-- PRIMES stands as a tuple -/
structure PrAt (K : PySem.W.Frag) (mg : Str → Option Value) : Prop where
  ex : ∃ a : Addr, mg "PRIMES" = some (.ref a) ∧ ∀ H, SqT K H a (primes.map V.int)
theorem inV_ints (i : Int) (ns : List Int) : inV (.int i) (ns.map V.int) = ns.contains i := by
  unfold inV
  rw [List.any_map]
  induction ns with
  | nil => rfl
  | cons n r ih =>
    rw [List.any_cons, ih, List.contains_cons]
    show (n == i || _) = (i == n || _)
    rw [Bool.beq_comm]
theorem flat_ints (ns : List Int) : (ns.map V.int).all flatV = true := by simp [List.all_map, flatV]
theorem ok_prime (T : Txt mg) (Pr : PrAt K mg) (F : FnAt K mg "is_prime" sPrime ["value"]) (GN : DefOk P w K mg base CX0 1 "is_number" ["value"] (spNumber K)) : DefOk P w K mg base CX0 2 "is_prime" ["value"] (spPrime K) := by
  obtain ⟨a, hm, hP⟩ := Pr.ex
  refine mk0 F scP (fun vs H Q E h => ?_) (fun f cdv A outer s H vs Q E hr h => ?_)
  · obtain ⟨x, b, rfl, _⟩ := h
    rfl
  · obtain ⟨x, b, rfl, hn, q⟩ := h
    refine ⟨_, pss_one (ps_ret (pe_and (pe_callD GN hr pass0 (pa_cons (pv 0) pa_nil)) (pe_one (pe_cmpR op_in_seq (pv 0) (pe_glob (v := .ref a) (by rfl) hm rfl) (by rfl))))), ?_⟩
    refine ⟨_, rfl, x, b, rfl, hn, b, rfl, ?_⟩
    rcases hn.same with ⟨i, rfl, rfl⟩ | ⟨rfl, hn2⟩
    · refine iteT ⟨_, rfl, a, _, rfl, .inr (hP H), rfl, flat_ints _, ?_⟩
      show Q (.bl (inV (.int i) (primes.map V.int))) H
      rw [inV_ints]
      exact q
    · refine iteF ?_
      cases x with
      | int i => exact absurd rfl (hn2 i)
      | _ => exact q
/-! ### _inverse_of -/
theorem scI : FnScope ["piece", "prime", "product", "_"] ["piece", "prime"] (defScope sInv) := ⟨rfl, rfl, rfl, by decide +kernel, rfl, by decide +kernel, by decide +kernel⟩
def spInv : Sp := fun vs H Q _ => ∃ p q : Int, vs = [.int p, .int q] ∧ 2 ≤ q ∧ q ≤ 31 ∧ Q (.int (inv p q)) H
theorem ok_inv (T : Txt mg) (F : FnAt K mg "_inverse_of" sInv ["piece", "prime"]) : DefOk P w K mg base CX0 1 "_inverse_of" ["piece", "prime"] spInv := by
  refine mk0 F scI (fun vs H Q E h => ?_) (fun f cdv A outer s H vs Q E hr h => ?_)
  · obtain ⟨p, q, rfl, _⟩ := h
    rfl
  · obtain ⟨p, q, rfl, q2, q31, hQ⟩ := h
    refine ⟨_, pss_cons (ps_set (i := 2) scI.nd rfl (.inl rfl) pe_int)
      (pss_cons (ps_for PassesOwn.never rfl (pi_range1 (by rfl) T.range_ (pa_cons (pe_op op_sub (pv 1) pe_int) pa_nil)) (pg_name (i := 3) scI.nd rfl (.inl rfl))
        (pss_one (ps_set (i := 2) scI.nd rfl (.inl rfl) (pe_op op_mod (pe_op op_mul (pv 2) (pv 0)) (pv 1)))))
      (pss_one (ps_ret (pv 2)))), ?_⟩
    refine ⟨_, rfl, q, 2, rfl, rfl, q - 2, rfl, by omega, by omega, ?_⟩
    refine for_range (lo := 0) (n := (q - 2).toNat) (fun i σ H' => H' = H ∧ ∃ y, σ = [some (.int p), some (.int q), some (.int (pw p q i)), y]) ⟨rfl, none, rfl⟩ ?_ ?_
    · rintro i σ H' hi ⟨rfl, y, rfl⟩
      have pc := pw_pc (p := p) q2 i
      refine ⟨_, rfl, _, rfl, _, _, rfl, rfl, .inl ⟨?_, ?_⟩, _, rfl, _, _, rfl, rfl, ?_, rfl, _, rfl⟩
      · have := pc.1; omega
      · have := pc.2; omega
      · show (0 : Int) < q; omega
    · rintro σ H' ⟨rfl, y, rfl⟩
      exact ⟨_, rfl, hQ⟩
/-! ### _pivot_row -/
/-- a table: a list of lists of ints -/
def Tab (H : Hp) (t : Addr) (T : List (List Int)) : Prop := ∃ vs, H t = some (.lst vs) ∧ RowsL H vs T
theorem Tab.len {H : Hp} {t : Addr} {T : List (List Int)} (h : Tab H t T) : ∃ vs, H t = some (.lst vs) ∧ vs.length = T.length := by
  obtain ⟨vs, h1, h2⟩ := h
  exact ⟨vs, h1, paired_len h2⟩
theorem scV : FnScope ["table", "top", "column", "at"] ["table", "top", "column"] (defScope sPivot) := ⟨rfl, rfl, rfl, by decide +kernel, rfl, by decide +kernel, by decide +kernel⟩
def spPivot : Sp := fun vs H Q _ => ∃ (t : Addr) (top col n : Nat) (T : List (List Int)), vs = [.ref t, .int top, .int col] ∧ Tab H t T ∧ (∀ r ∈ T, r.length = n) ∧ col < n ∧ n ≤ 1000 ∧ top ≤ T.length ∧ T.length ≤ 1000 ∧
  (∀ p : Nat, top ≤ p → p < T.length → at2 T p col ≠ 0 → Q (.int p) H) ∧ ((∀ i, top ≤ i → i < T.length → at2 T i col = 0) → Q .non H)
theorem row_len {T : List (List Int)} {n k : Nat} (h : ∀ r ∈ T, r.length = n) (hk : k < T.length) : (T.getD k []).length = n := h _ (by rw [getD_lt [] hk]; exact List.getElem_mem hk)
theorem ok_pivot (T : Txt mg) (F : FnAt K mg "_pivot_row" sPivot ["table", "top", "column"]) : DefOk P w K mg base CX0 1 "_pivot_row" ["table", "top", "column"] spPivot := by
  refine mk0 F scV (fun vs H Q E h => ?_) (fun f cdv A outer s H vs Q E hr h => ?_)
  · obtain ⟨t, top, col, n, B, rfl, _⟩ := h
    rfl
  · obtain ⟨t, top, col, n, B, rfl, ⟨xs, ht, hB⟩, hlen, hc, hn, htop, hl, hyes, hno⟩ := h
    refine ⟨_, pss_cons (ps_for PassesOwn.never rfl (pi_range2 (by rfl) T.range_ (pa_cons (pv 1) (pa_cons (pe_callB call_len_seq (by rfl) T.len_ boot_len (pa_cons (pv 0) pa_nil)) pa_nil))) (pg_name (i := 3) scV.nd rfl (.inl rfl))
        (pss_one (ps_if (pt_cmpR op_ne (pe_ix ix_list (pe_ix ix_list (pv 0) (pv 3) (fun _ _ => rfl)) (pv 2) (fun _ _ => rfl)) pe_int (nomark _)) (pss_one (ps_ret (pv 3))) pss_nil)))
      (pss_one (ps_ret pe_non)), ?_⟩
    have hx : xs.length = B.length := paired_len hB
    refine ⟨_, rfl, _, rfl, t, xs, rfl, .inl (SqL.of ht), (top : Int), (xs.length : Int), rfl, ⟨by omega, by omega, by omega, by omega⟩, ?_⟩
    refine for_range (lo := (top : Int)) (n := ((xs.length : Int) - (top : Int)).toNat) (fun i σ H' => H' = H ∧ (∃ y, σ = [some (.ref t), some (.int top), some (.int col), y]) ∧ ∀ j, top ≤ j → j < top + i → at2 B j col = 0) ⟨rfl, ⟨none, rfl⟩, fun j h1 h2 => by omega⟩ ?_ ?_
    · rintro i σ H' hi ⟨rfl, ⟨y, rfl⟩, hz⟩
      have hk : top + i < B.length := by omega
      obtain ⟨v, hv, a, rfl, ha⟩ := paired_get hB hk []
      have e1 : ((top : Int) + (i : Nat)) = ((top + i : Nat) : Int) := by omega
      have hj : col < (B.getD (top + i) []).length := by rw [row_len hlen hk]; exact hc
      refine ⟨_, rfl, _, rfl, t, xs, _, .ref a, rfl, rfl, SqL.of ht, by rw [e1]; exact atI_nat hv, _, rfl, a, _, _, _, rfl, rfl, SqL.of ha, atI_nat (ints_at hj), rfl, _, rfl, ?_⟩
      refine ite2 (fun c => ?_) (fun c => ?_)
      · have ne : at2 B (top + i) col ≠ 0 := fun z => by
          unfold at2 at z
          rw [z] at c
          exact absurd c (by decide)
        refine ⟨_, rfl, ?_⟩
        rw [e1]
        exact hyes _ (by omega) hk ne
      · refine ⟨rfl, ⟨_, rfl⟩, fun j h1 h2 => ?_⟩
        by_cases e : j = top + i
        · rw [e]
          refine Classical.byContradiction fun z => c ?_
          have : V.int ((B.getD (top + i) []).getD col 0) ≠ V.int 0 := fun y => z (V.int.inj y)
          simpa using this
        · exact hz j h1 (by omega)
    · rintro σ H' ⟨rfl, _, hz⟩
      exact hno fun i h1 h2 => hz i h1 (by omega)
/-! ### _scaled, _lessened -/
theorem scS : FnScope ["row", "factor", "prime", "piece"] ["row", "factor", "prime"] (defScope sScaled) := ⟨rfl, rfl, rfl, by decide +kernel, rfl, by decide +kernel, by decide +kernel⟩
def spScaled (K : PySem.W.Frag) : Sp := fun vs H Q _ => ∃ (a : Addr) (r : List Int) (f q : Int), vs = [.ref a, .int f, .int q] ∧ SqL K H a (r.map V.int) ∧ r.length ≤ 1000 ∧ (-(2 ^ 64) < f ∧ f < 2 ^ 64) ∧ 0 < q ∧
  ∀ p H', Same H H' → H p = none → H' p = some (.lst ((scaledL r f q).map V.int)) → Q (.ref p) H'
theorem scaled_len (r : List Int) (f q : Int) : (scaledL r f q).length = r.length := by simp [scaledL]
theorem ok_scaled (F : FnAt K mg "_scaled" sScaled ["row", "factor", "prime"]) : DefOk P w K mg base CX0 1 "_scaled" ["row", "factor", "prime"] (spScaled K) := by
  refine mk0 F scS (fun vs H Q E h => ?_) (fun f cdv A outer s H vs Q E hr h => ?_)
  · obtain ⟨a, r, f, q, rfl, _⟩ := h
    rfl
  · obtain ⟨a, r, f, q, rfl, hS, hl, hf, hq, hQ⟩ := h
    refine ⟨_, pss_one (ps_ret (pe_lc (own := [("piece", 3)]) (g := gName 3) (tt := tYes) rfl scS.nd (pi_list (pv 0)) (blkOk_by (N := ["row", "factor", "prime", "piece"]) (sc := defScope sScaled) (by decide +kernel)) (fun _ _ _ _ _ => pg_name (i := 3) scS.nd rfl (Or.inl rfl)) (fun _ _ _ _ _ => pts_nil)
      (fun _ _ _ _ _ => pe_op op_mod (pe_op op_mul (pv 3) (pv 1)) (pv 2)))), ?_⟩
    refine ⟨_, rfl, a, rfl, ⟨_, hS⟩, fun D hD => ?_⟩
    refine lc_list (K := K) (a := a) (xs := r.map V.int) (fun i H' => Same H H' ∧ H' D = some (.lst (((scaledL r f q).take i).map V.int))) ⟨same_upd hD, upd_same⟩ (fun i H' _ h => h.1.seq hS) ?_ ?_
    · rintro i x H' hx ⟨sm, hd⟩
      obtain ⟨hi, rfl⟩ := ints_of hx
      refine ⟨rfl, _, rfl, _, rfl, _, _, rfl, rfl, .inr hf, _, rfl, _, _, rfl, rfl, hq, _, hd, ?_, same_mut sm hD, ?_⟩
      · rw [List.length_map, List.length_take]
        exact line_gt (by omega)
      · rw [upd_same, map_take_snoc (by rw [scaled_len]; exact hi), scaled_getD]
    · rintro H' ⟨sm, hd⟩
      rw [List.length_map, ← scaled_len r f q, List.take_length] at hd
      exact hQ D H' sm hD hd
theorem scL : FnScope ["row", "lead", "times", "prime", "piece", "other"] ["row", "lead", "times", "prime"] (defScope sLess) := ⟨rfl, rfl, rfl, by decide +kernel, rfl, by decide +kernel, by decide +kernel⟩
def spLess (K : PySem.W.Frag) : Sp := fun vs H Q _ => ∃ (a b : Addr) (r l : List Int) (t q : Int), vs = [.ref a, .ref b, .int t, .int q] ∧ SqL K H a (r.map V.int) ∧ SqL K H b (l.map V.int) ∧ r.length = l.length ∧ r.length ≤ 1000 ∧ (-(2 ^ 64) < t ∧ t < 2 ^ 64) ∧ 0 < q ∧
  ∀ p H', Same H H' → H p = none → H' p = some (.lst ((lessL r l t q).map V.int)) → Q (.ref p) H'
theorem less_len {r l : List Int} (t q : Int) (h : r.length = l.length) : (lessL r l t q).length = r.length := by simp [lessL, h]
theorem ok_less (T : Txt mg) (F : FnAt K mg "_lessened" sLess ["row", "lead", "times", "prime"]) : DefOk P w K mg base CX0 1 "_lessened" ["row", "lead", "times", "prime"] (spLess K) := by
  refine mk0 F scL (fun vs H Q E h => ?_) (fun f cdv A outer s H vs Q E hr h => ?_)
  · obtain ⟨a, b, r, l, t, q, rfl, _⟩ := h
    rfl
  · obtain ⟨a, b, r, l, t, q, rfl, hA, hB, he, hl, ht, hq, hQ⟩ := h
    refine ⟨_, pss_one (ps_ret (pe_lc (own := [("piece", 4), ("other", 5)]) (g := gTup K 2 (gCons (gName 4) (gCons (gName 5) gNil))) (tt := tYes) rfl scL.nd (pi_zip (by rfl) T.zip_ (pa_cons (pv 0) (pa_cons (pv 1) pa_nil))) (blkOk_by (N := ["row", "lead", "times", "prime", "piece", "other"]) (sc := defScope sLess) (by decide +kernel))
      (fun _ _ _ _ _ => pg_tup rfl (by exact (pgs_cons (by exact pg_name (i := 4) scL.nd rfl (Or.inl rfl)) (by exact pgs_cons (by exact pg_name (i := 5) scL.nd rfl (Or.inl rfl)) pgs_nil)))) (fun _ _ _ _ _ => pts_nil)
      (fun _ _ _ _ _ => pe_op op_mod (pe_op op_sub (pv 4) (pe_op op_mul (pv 2) (pv 5))) (pv 3)))), ?_⟩
    refine ⟨_, rfl, _, rfl, a, b, _, _, rfl, hA, hB, fun D hD => ?_⟩
    refine lc_it (walk_zip (K := K) (a := a) (b := b) (xs := r.map V.int) (ys := l.map V.int) (n := r.length) (by simp [he])) (fun i H' => Same H H' ∧ H' D = some (.lst (((lessL r l t q).take i).map V.int))) ⟨same_upd hD, upd_same⟩ (fun i H' _ h => ⟨h.1.seq hA, h.1.seq hB⟩) ?_ ?_
    · rintro i v H' H2 hi ⟨sm, hd⟩ ⟨p, x, y, rfl, np, rfl, ex, ey⟩
      obtain ⟨_, rfl⟩ := ints_of ex
      obtain ⟨_, rfl⟩ := ints_of ey
      have nD : D ≠ p := ne_of_none hd np
      refine ⟨p, _, rfl, SqT.of upd_same, rfl, _, _, rfl, _, _, rfl, rfl, rfl, _, rfl, _, rfl, _, rfl, _, _, rfl, rfl, .inl ht, _, _, rfl, rfl, _, rfl, _, _, rfl, rfl, hq, ((lessL r l t q).take i).map V.int, ?_, ?_, ?_, ?_⟩
      · rw [upd_ne nD]; exact hd
      · rw [List.length_map, List.length_take, less_len _ _ he]
        exact line_gt (by omega)
      · exact same_mut (Same.trans sm (same_upd np)) hD
      · rw [upd_same, map_take_snoc (by rw [less_len _ _ he]; exact hi), less_getD he]
    · rintro H' ⟨sm, hd⟩
      rw [← less_len t q he, List.take_length] at hd
      exact hQ D H' sm hD hd
end
end K16

set_option Elab.async false
set_option linter.all false
set_option maxRecDepth 100000
set_option maxHeartbeats 4000000
/-! _clear_column, InvalidNumber.__init__, reduced, solved. -/
namespace K16
open PySem PySem.Spec PyProof.Rows L2
/-! ### all but one object -/
def But (t : Addr) (H H' : Hp) : Prop := ∀ a o, a ≠ t → H a = some o → H' a = some o
theorem But.refl {t : Addr} {H : Hp} : But t H H := fun _ _ _ h => h
theorem But.trans {t : Addr} {H H1 H2 : Hp} (a : But t H H1) (b : But t H1 H2) : But t H H2 := fun c o n h => b c o n (a c o n h)
theorem But.of {t : Addr} {H H' : Hp} (s : Same H H') : But t H H' := fun _ _ _ h => s _ _ h
theorem But.upd {t : Addr} {H H' : Hp} {o : HO} (b : But t H H') : But t H (upd H' t o) := fun a u n h => by rw [upd_ne n]; exact b a u n h
/-- a table's rows are other objects than the table -/
theorem RowsL.ne {H : Hp} {t : Addr} {vs : List V} {T : List (List Int)} (ht : H t = some (.lst vs)) (h : RowsL H vs T) : ∀ (i : Nat) (a : Addr), vs[i]? = some (.ref a) → a ≠ t := by
  intro i a hi e
  have hl := paired_len h
  have hlt : i < vs.length := (List.getElem?_eq_some_iff.mp hi).1
  obtain ⟨x, hx, b, rfl, hb⟩ := paired_get h (by omega : i < T.length) []
  rw [hi] at hx
  have eb : a = b := V.ref.inj (Option.some.inj hx)
  rw [← eb, e, ht] at hb
  have e2 : vs = (T.getD i []).map V.int := by simpa using hb
  rw [e2, List.getElem?_map] at hi
  cases q : (T.getD i [])[i]? with
  | none => rw [q] at hi; cases hi
  | some z => rw [q] at hi; cases hi
theorem RowsL.but {H H' : Hp} {t : Addr} {vs : List V} {T : List (List Int)} (ht : H t = some (.lst vs)) (h : RowsL H vs T) (b : But t H H') : RowsL H' vs T := by
  have key : ∀ (us : List V) (B : List (List Int)), (∀ v ∈ us, v ∈ vs) → RowsL H us B → RowsL H' us B := by
    intro us B hm hb
    induction hb with
    | nil => exact .nil
    | cons r t ih =>
      obtain ⟨a, rfl, ha⟩ := r
      refine .cons ⟨a, rfl, b a _ ?_ ha⟩ (ih fun v hv => hm v (List.mem_cons_of_mem _ hv))
      obtain ⟨i, hi, e⟩ := List.mem_iff_getElem.mp (hm _ List.mem_cons_self)
      exact RowsL.ne ht h i a (by rw [List.getElem?_eq_getElem hi, e])
  exact key vs T (fun v hv => hv) h
section
variable {P : Program} {w : World} {K : PySem.W.Frag} {mg : Str → Option Value} {base : Heap}
/-! ### _clear_column -/
theorem scC : FnScope ["table", "top", "column", "prime", "lead", "at", "times"] ["table", "top", "column", "prime"] (defScope sClear) := ⟨rfl, rfl, rfl, by decide +kernel, rfl, by decide +kernel, by decide +kernel⟩
def spClear : Sp := fun vs H Q _ => ∃ (t : Addr) (top col n : Nat) (q : Int) (T : List (List Int)), vs = [.ref t, .int top, .int col, .int q] ∧ Tab H t T ∧ (∀ r ∈ T, Row q n r) ∧ col < n ∧ n ≤ 1000 ∧ top < T.length ∧ T.length ≤ 1000 ∧ 0 < q ∧ q ≤ 31 ∧
  ∀ H', But t H H' → Tab H' t (clearTo T top col q T.length) → Q .non H'
theorem clear_row {T : List (List Int)} {top col i : Nat} {q : Int} {n : Nat} (hq : 0 < q) (h : ∀ r ∈ T, Row q n r) (ht : top < T.length) : ∀ r ∈ clearTo T top col q i, Row q n r := by
  intro r hr
  obtain ⟨k, hk, e⟩ := List.mem_iff_getElem.mp hr
  have hk2 : k < T.length := by rw [clearTo_length] at hk; exact hk
  rw [← e, ← getD_lt [] hk, clearTo_getD _ _ _ _ _ _ hk2]
  split
  · exact less_row hq (row_ix h hk2) (row_ix h ht).1 _
  · exact row_ix h hk2
theorem ok_clear (T : Txt mg) (F : FnAt K mg "_clear_column" sClear ["table", "top", "column", "prime"]) (GL : DefOk P w K mg base CX0 1 "_lessened" ["row", "lead", "times", "prime"] (spLess K)) :
    DefOk P w K mg base CX0 2 "_clear_column" ["table", "top", "column", "prime"] spClear := by
  refine mk0 F scC (fun vs H Q E h => ?_) (fun f cdv A outer s H vs Q E hr h => ?_)
  · obtain ⟨t, top, col, n, q, B, rfl, _⟩ := h
    rfl
  · obtain ⟨t, top, col, n, q, B, rfl, ⟨xs, ht, hB⟩, hrow, hc, hn, htop, hl, hq, hq2, hQ⟩ := h
    refine ⟨_, pss_cons (ps_set (i := 4) scC.nd rfl (.inl rfl) (pe_ix ix_list (pv 0) (pv 1) (fun _ _ => rfl)))
      (pss_one (ps_for PassesOwn.never rfl (pi_range1 (by rfl) T.range_ (pa_cons (pe_callB call_len_seq (by rfl) T.len_ boot_len (pa_cons (pv 0) pa_nil)) pa_nil)) (pg_name (i := 5) scC.nd rfl (.inl rfl))
        (pss_cons (ps_set (i := 6) scC.nd rfl (.inl rfl) (pe_ix ix_list (pe_ix ix_list (pv 0) (pv 5) (fun _ _ => rfl)) (pv 2) (fun _ _ => rfl)))
        (pss_one (ps_if (PW.pt (pw_and (pt_cmpR op_ne (pv 5) (pv 1) (nomark _)) (pw_and1 (pt_cmpR op_ne (pv 6) pe_int (nomark _)))))
          (pss_one (ps_asg (pe_callD GL hr pass0 (pa_cons (pe_ix ix_list (pv 0) (pv 5) (fun _ _ => rfl)) (pa_cons (pv 4) (pa_cons (pv 6) (pa_cons (pv 3) pa_nil))))) (pg_sub (pv 0) (pv 5) set_list))) pss_nil))))), ?_⟩
    have hx : xs.length = B.length := paired_len hB
    obtain ⟨v0, hv0, a0, rfl, ha0⟩ := paired_get hB htop []
    have n0 : a0 ≠ t := RowsL.ne ht hB top a0 hv0
    refine ⟨_, rfl, _, rfl, t, xs, _, _, rfl, rfl, SqL.of ht, atI_nat hv0, _, rfl, t, xs, rfl, .inl (SqL.of ht), (xs.length : Int), rfl, by omega, by omega, ?_⟩
    refine for_range (lo := 0) (n := ((xs.length : Int)).toNat) (fun i σ H' => But t H H' ∧ Tab H' t (clearTo B top col q i) ∧ ∃ y z, σ = [some (.ref t), some (.int top), some (.int col), some (.int q), some (.ref a0), y, z])
      ⟨But.refl, by rw [clearTo_zero]; exact ⟨xs, ht, hB⟩, none, none, rfl⟩ ?_ ?_
    · rintro i σ H' hi ⟨hb, ⟨ys, hy, hY⟩, y, z, rfl⟩
      have hk : i < B.length := by omega
      have hk2 : i < (clearTo B top col q i).length := by rw [clearTo_length]; exact hk
      obtain ⟨v, hv, a, rfl, ha⟩ := paired_get hY hk2 []
      have na : a ≠ t := RowsL.ne hy hY i a hv
      have er : (clearTo B top col q i).getD i [] = B.getD i [] := by rw [clearTo_getD _ _ _ _ _ _ hk, if_neg (fun z => Nat.lt_irrefl _ z.1)]
      rw [er] at ha
      have e1 : ((0 : Int) + (i : Nat)) = ((i : Nat) : Int) := by omega
      have hrl : (B.getD i []).length = n := (row_ix hrow hk).1
      refine ⟨_, rfl, _, rfl, t, ys, _, .ref a, rfl, rfl, SqL.of hy, by rw [e1]; exact atI_nat hv, _, rfl, a, _, _, _, rfl, rfl, SqL.of ha, atI_nat (ints_at (by rw [hrl]; exact hc)), ?_⟩
      -- at != top and times != 0
      refine ⟨_, rfl, _, rfl, rfl, _, rfl, ?_⟩
      have step0 : ¬ (i ≠ top ∧ at2 B i col ≠ 0) → But t H H' ∧ Tab H' t (clearTo B top col q (i + 1)) ∧ ∃ y z, [some (.ref t), some (.int top), some (.int col), some (.int q), some (.ref a0), some (V.int (0 + (i : Nat))), some (.int ((B.getD i []).getD col 0))] = [some (.ref t), some (.int top), some (.int col), some (.int q), some (.ref a0), y, z] := fun c => by
        rw [clearTo_same hk c]
        exact ⟨hb, ⟨ys, hy, hY⟩, _, _, rfl⟩
      refine ite2 (fun c1 => ?_) (fun c1 => ?_)
      · refine ⟨_, rfl, rfl, _, rfl, ?_⟩
        have i1 : i ≠ top := fun e => by
          rw [e] at c1
          simp at c1
        refine ite2 (fun c2 => ?_) (fun c2 => ?_)
        · have i2 : at2 B i col ≠ 0 := fun e => by
            unfold at2 at e
            rw [e] at c2
            exact absurd c2 (by decide)
          have pcol := getD_pc hq (row_ix hrow hk) col
          refine ⟨_, rfl, _, rfl, t, ys, _, .ref a, rfl, rfl, SqL.of hy, by rw [e1]; exact atI_nat hv, _, rfl, _, rfl, _, rfl, a, a0, B.getD i [], B.getD top [], (B.getD i []).getD col 0, q, rfl, SqL.of ha, SqL.of (hb a0 _ n0 ha0), by rw [hrl, (row_ix hrow htop).1], by omega, ⟨by have := pcol.1; omega, by have := pcol.2; omega⟩, hq, fun p H2 sm np hp => ?_⟩
          have nt : t ≠ p := ne_of_none hy np
          have hy2 : H2 t = some (.lst ys) := sm _ _ hy
          have b2 : But t H H2 := hb.trans (But.of sm)
          refine ⟨_, rfl, _, rfl, t, ys, _, i, rfl, rfl, hy2, ?_, ?_⟩
          · rw [e1]
            unfold ixN
            rw [if_pos (by omega), if_pos (by have := paired_len hY; rw [clearTo_length] at this; omega)]
            simp
          · refine ⟨b2.upd, ⟨ys.set i (.ref p), upd_same, ?_⟩, _, _, rfl⟩
            rw [clearTo_set hk ⟨i1, i2⟩]
            have k1 : RowsL H2 ys (clearTo B top col q i) := hY.same sm
            have k2 : RowsL (upd H2 t (.lst (ys.set i (.ref p)))) ys (clearTo B top col q i) := RowsL.but hy2 k1 But.refl.upd
            exact paired_set ⟨p, rfl, by rw [upd_ne nt.symm]; exact hp⟩ i k2
        · refine step0 fun z => c2 ?_
          have : V.int ((B.getD i []).getD col 0) ≠ V.int 0 := fun y => z.2 (V.int.inj y)
          simpa using this
      · refine ite2 (fun c => absurd c (by decide)) (fun _ => step0 fun z => c1 ?_)
        have : V.int (0 + (i : Nat)) ≠ V.int (top : Nat) := fun y => z.1 (by have := V.int.inj y; omega)
        simpa using this
    · rintro σ H' ⟨hb, hT, y, z, rfl⟩
      refine hQ H' hb ?_
      have : ((xs.length : Int)).toNat = B.length := by omega
      rw [this] at hT
      exact hT
end
end K16

set_option Elab.async false
set_option linter.all false
set_option maxRecDepth 100000
set_option maxHeartbeats 4000000
/-! InvalidNumber.__init__, reduced. -/
namespace K16
open PySem PySem.Spec PyProof.Rows L2
/-- the error's class, at C; its __init__, at fI -/
structure ExcAt (K : PySem.W.Frag) (mg : Str → Option Value) (C fI : Addr) : Prop where
  gC : mg "InvalidNumber" = some (.ref C)
  oex : OexC K C
  xf : XfC K C
  noV : PySem.W.findIn K (.ref C) "value" = some none
  iC : PySem.W.findIn K (.ref C) "__init__" = some (some (.ref fI))
  tI : PySem.W.typeIn K (.ref fI) = some (.type "function")
  te : PySem.W.exmOne K (.ref C) (.ref C) = some true
  fn : ∃ fd, FnP K "__init__" "InvalidNumber.__init__" sInit fI fd
section
variable {P : Program} {w : World} {K : PySem.W.Frag} {mg : Str → Option Value} {base : Heap} {C fI : Addr}
theorem scX : FnScope ["self", "value"] ["self", "value"] (defScope sInit) := ⟨rfl, rfl, rfl, by decide +kernel, rfl, by decide +kernel, by decide +kernel⟩
def spInit (C : Addr) : Sp := fun vs H Q _ => ∃ (a : Addr) (v : V), vs = [.ref a, v] ∧ H a = some (exo a C none) ∧ ∀ dx, H dx = none → dx ≠ a → Q .non (upd (upd H dx (exd dx [("value", v)])) a (exo a C (some dx)))
theorem ok_init (T : ExcAt K mg C fI) {fd : FuncData} (F : FnP K "__init__" "InvalidNumber.__init__" sInit fI fd) : FnOk P w K mg base CX0 1 fI fd ["self", "value"] (spInit C) := by
  refine FunD.ok F scX (fun vs H Q E h => ?_) (fun cdv A outer s H vs Q E hr h => ?_)
  · obtain ⟨a, v, rfl, _⟩ := h
    rfl
  · obtain ⟨a, v, rfl, ha, hQ⟩ := h
    refine ⟨_, PSs.nox (pss_one (ps_ost (pv 0) (pv 1))), ?_⟩
    exact ⟨_, rfl, _, rfl, a, C, rfl, T.oex, T.noV, .inl ⟨ha, fun dx h1 h2 => hQ dx h1 h2⟩⟩
/-- how the error comes -/
def Told (C : Addr) (E : XK) (H : Hp) (v : V) : Prop := ∀ (d : Addr) (H' : Hp), H d = none → Same H H' → H' d = some (.xd [("value", v)]) → E (.ref C) (some d) H'
theorem made_ok {Q : XK} {H : Hp} {v : V} (h : Told C Q H v) (a : Addr) (na : H a = none) : spInit C [.ref a, v] (upd H a (exo a C none))
    (fun u H2 => u = .non ∧ ∃ (d : Addr) (fs : List (Str × V)), H2 a = some (exo a C (some d)) ∧ H2 d = some (exd d fs) ∧ H d = none ∧ Q (.ref C) (some d) (upd (del H2 a) d (.xd fs))) (fun _ _ _ => False) := by
  refine ⟨a, v, rfl, upd_same, fun dx nd ne => ⟨rfl, dx, [("value", v)], upd_same, by rw [upd_ne ne, upd_same], by rw [upd_ne ne] at nd; exact nd, ?_⟩⟩
  rw [upd_ne ne] at nd
  refine h dx _ nd (fun b o e => ?_) upd_same
  have n1 : b ≠ dx := ne_of_none e nd
  have n2 : b ≠ a := ne_of_none e na
  rw [upd_ne n1, del_ne n2, upd_ne n2, upd_ne n1, upd_ne n2]
  exact e
/-! ### reduced -/
theorem scR : FnScope ["rows", "prime", "table", "top", "column", "pivot", "lead", "row"] ["rows", "prime"] (defScope sReduced) := ⟨rfl, rfl, rfl, by decide +kernel, rfl, by decide +kernel, by decide +kernel⟩
/-- the rows that are passed: a list or a tuple of tuples of ints -/
structure Given (K : PySem.W.Frag) (H : Hp) (a : Addr) (xs : List V) (q : Int) (many : Nat) (B : List (List Int)) : Prop where
  seq : SqL K H a xs ∨ SqT K H a xs
  rows : RowsT K H xs B
  ne : B ≠ []
  row : ∀ r ∈ B, Row q (many + 1) r
  small : many ≤ 100 ∧ B.length ≤ 100
theorem Given.keep {H H' : Hp} {a : Addr} {xs : List V} {q : Int} {many : Nat} {B : List (List Int)} (g : Given K H a xs q many B) (s : Same H H') : Given K H' a xs q many B :=
  ⟨g.seq.imp (fun h => s.seq h) (fun h => same_tup s h), g.rows.same s, g.ne, g.row, g.small⟩
def spReduced (K : PySem.W.Frag) (C : Addr) : Sp := fun vs H Q E => ∃ (a : Addr) (p : V) (b : Bool), vs = [.ref a, p] ∧ NumOf K H p b ∧ ((isPr p = false ∧ Told C E H p) ∨
  ∃ (q : Int) (many : Nat) (B : List (List Int)) (xs : List V), p = .int q ∧ q ∈ primes ∧ Given K H a xs q many B ∧
    ∀ (H' : Hp) (o : Addr) (ys : List V) (R : List (List Int)) (L : List Nat), Same H H' → H o = none → H' o = some (.lst ys) → RowsF H' ys R → Like q many B R → Red q (many + 1) R L → Q (.ref o) H')
theorem ok_reduced (T : Txt mg) (X : ExcAt K mg C fI) (F : FnAt K mg "reduced" sReduced ["rows", "prime"]) (GP : DefOk P w K mg base CX0 2 "is_prime" ["value"] (spPrime K)) (GV : DefOk P w K mg base CX0 1 "_pivot_row" ["table", "top", "column"] spPivot)
    (GI : DefOk P w K mg base CX0 1 "_inverse_of" ["piece", "prime"] spInv) (GS : DefOk P w K mg base CX0 1 "_scaled" ["row", "factor", "prime"] (spScaled K)) (GC : DefOk P w K mg base CX0 2 "_clear_column" ["table", "top", "column", "prime"] spClear) :
    DefOk P w K mg base (L2.CX P w) 3 "reduced" ["rows", "prime"] (spReduced K C) := by
  obtain ⟨fdI, FI⟩ := X.fn
  have F1 : FnOk P w K mg base CX0 1 fI fdI ["self", "value"] (spInit C) := ok_init X FI
  have b1 : L2.Binds K fdI ["self", "value"] [] := FunD.bindsN FI fun _ _ _ _ _ _ us hl => match us, hl with | [_, _], _ => rfl
  refine mkX F scR (fun vs H Q E h => ?_) (fun f cdv A outer s H vs Q E hr h => ?_)
  · obtain ⟨a, p, b, rfl, _⟩ := h
    rfl
  · obtain ⟨a, p, b, rfl, hn, h⟩ := h
    rcases h with ⟨hp, hE⟩ | ⟨q, many, B, xs, rfl, hq, G, hQ⟩
    · -- not a prime: the error
      refine ⟨_, pss_cons (ps_if (pt_not (pt_val (pe_callD GP hr pass0 (pa_cons (pv 1) pa_nil))))
        (pss_one (ps_raise rfl (takes_of rfl rfl rfl rfl) (pmk_oex X.oex X.iC X.tI F1 hr b1 .nil (fun _ _ _ _ _ _ _ z => z.elim) (by rfl) X.gC (pa_cons (pv 1) pa_nil)))) pss_nil) pss_never, ?_⟩
      refine ⟨_, rfl, p, b, rfl, hn, _, rfl, ?_⟩
      rw [hp]
      refine iteT ⟨_, rfl, (by show 1 ≤ 1000; decide), fun x nx => made_ok hE x nx⟩
    · have hp := prime_pos hq
      have hq0 : 0 < q := by omega
      refine ⟨_, pss_cons (ps_if (pt_not (pt_val (pe_callD GP hr pass0 (pa_cons (pv 1) pa_nil)))) pss_never pss_nil) (PSs.nox
        (Evl.pss_cut (ps_setLc (i := 2) (own := [("row", 7)]) (g := gName 7) (tt := tYes) rfl scR.nd rfl rfl (sw_true rfl rfl rfl (by decide +kernel)) (pi_vseq (pv 0)) (blkOk_by (N := ["rows", "prime", "table", "top", "column", "pivot", "lead", "row"]) (sc := defScope sReduced) (by decide +kernel))
          (fun _ _ _ _ _ => pg_name (i := 7) scR.nd rfl (Or.inl rfl)) (fun _ _ _ _ _ => pts_nil) (fun _ _ _ _ _ => pe_callTy (r := rListOf K) call_listOf (by rfl) T.list_ bt_list (pa_cons (pv 7) pa_nil)))
        (pss_cons (ps_if (pt_not (pt_truth (pv 2) (by intro _; rfl))) pss_never pss_nil)
        (pss_cons (ps_set (i := 3) scR.nd rfl (.inl rfl) pe_int)
        (pss_cons (ps_for PassesOwn.never rfl (pi_range1 (by rfl) T.range_ (pa_cons (pe_callB call_len_seq (by rfl) T.len_ boot_len (pa_cons (pe_ix ix_list (pv 2) pe_int (fun _ _ => rfl)) pa_nil)) pa_nil)) (pg_name (i := 4) scR.nd rfl (.inl rfl))
          (pss_cons (ps_set (i := 5) scR.nd rfl (.inl rfl) (pe_callD GV (hr.mono (by decide)) pass0 (pa_cons (pv 2) (pa_cons (pv 3) (pa_cons (pv 4) pa_nil)))))
          (pss_one (ps_if (pt_cmpR op_notN (pv 5) pe_non (nomark _))
            (pss_cons (ps_set (i := 6) scR.nd rfl (.inl rfl) (pe_ix ix_list (pv 2) (pv 5) (fun _ _ => rfl)))
            (pss_cons (ps_asg (pe_ix ix_list (pv 2) (pv 3) (fun _ _ => rfl)) (pg_sub (pv 2) (pv 5) set_list))
            (pss_cons (ps_asg (pe_callD GS (hr.mono (by decide)) pass0 (pa_cons (pv 6) (pa_cons (pe_callD GI (hr.mono (by decide)) pass0 (pa_cons (pe_ix ix_list (pv 6) (pv 4) (fun _ _ => rfl)) (pa_cons (pv 1) pa_nil))) (pa_cons (pv 1) pa_nil)))) (pg_sub (pv 2) (pv 3) set_list))
            (pss_cons (ps_expr (pe_callD GC hr pass0 (pa_cons (pv 2) (pa_cons (pv 3) (pa_cons (pv 4) (pa_cons (pv 1) pa_nil))))))
            (pss_one (ps_aug (i := 3) scR.nd rfl (.inl rfl) pe_int ip_add)))))) pss_nil))))
        (pss_one (ps_ret (pe_lc (own := [("row", 7)]) (g := gName 7) (tt := tYes) rfl scR.nd (pi_list (pe_slice sl_list (pv 2) po_none (po_some (pv 3)))) (blkOk_by (N := ["rows", "prime", "table", "top", "column", "pivot", "lead", "row"]) (sc := defScope sReduced) (by decide +kernel))
          (fun _ _ _ _ _ => pg_name (i := 7) scR.nd rfl (Or.inl rfl)) (fun _ _ _ _ _ => pts_nil) (fun _ _ _ _ _ => pe_callTy (r := rTupF K) call_tupF (by rfl) T.tuple_ bt_tuple (pa_cons (pv 7) pa_nil)))))))))), ?_⟩
      have hpr : isPr (.int q) = true := by simpa [isPr] using hq
      refine ⟨_, rfl, .int q, b, rfl, hn, _, rfl, ?_⟩
      rw [hpr]
      refine iteF ?_
      have hxl : xs.length = B.length := paired_len G.rows
      have hbl : 0 < B.length := (by cases e : B with | nil => exact absurd e G.ne | cons _ _ => simp)
      have hsm := G.small
      -- table = [list(row) for row in rows]
      have mk : ∀ (J : It) (w : Walk J xs.length (Same H) (YAt xs)) (D : Addr) (nD : H D = none) (Qd : Hp → Prop), (∀ H', Same H H' → Tab H' D B → Qd H') →
          ∃ W : Nat → Nat → Hp → Prop, (∃ m, W 0 m (upd H D (.lst []))) ∧ ∀ i m H, W i m H →
            (J.stop i H ∧ Qd H) ∨ (J.go i H ∧ ∃ Nx : Hp → Prop, (∀ H', Nx H' → ∃ m', m' < m ∧ W (i + 1) m' H') ∧ ∀ x H', J.yld i H x H' → gName 7 x (wipe (start ["rows", "prime", "table", "top", "column", "pivot", "lead", "row"] [.ref a, .int q]) [7]) H' fun σ2 H2 => wipe σ2 [7] = wipe (start ["rows", "prime", "table", "top", "column", "pivot", "lead", "row"] [.ref a, .int q]) [7] ∧ tYes σ2 H2 fun b H3 =>
              if b = true then tCB (rListOf K) (tCons (tVar 7) tNil) σ2 H3 fun y H4 => ∃ acc, H4 D = some (.lst acc) ∧ acc.length < sizeLine ∧ Nx (upd H4 D (.lst (acc ++ [y]))) else Nx H3) := by
        intro J w D nD Qd hd
        refine lc_it w (fun i H' => Same H H' ∧ Tab H' D (B.take i)) ⟨same_upd nD, [], upd_same, .nil⟩ (fun i H' _ h => h.1) ?_ ?_
        · rintro i x H' H2 hi ⟨sm, zs, hz, hZ⟩ ⟨rfl, hx⟩
          have hib : i < B.length := by omega
          obtain ⟨v, hv, c, rfl, hc⟩ := paired_get G.rows hib []
          rw [hx] at hv
          cases hv
          refine ⟨rfl, _, rfl, c, _, rfl, .inr (same_tup sm hc), fun l nl => ?_⟩
          have nlD : D ≠ l := ne_of_none hz nl
          have e0 : (upd H2 l (.lst ((B.getD i []).map V.int))) D = some (.lst zs) := by rw [upd_ne nlD]; exact hz
          refine ⟨zs, e0, ?_, same_mut (Same.trans sm (same_upd nl)) nD, zs ++ [.ref l], upd_same, ?_⟩
          · have := paired_len hZ
            rw [this, List.length_take]
            exact line_gt (by omega)
          · rw [take_snoc hib []]
            have k1 : RowsL (upd H2 l (.lst ((B.getD i []).map V.int))) zs (B.take i) := hZ.same (same_upd nl)
            exact paired_snoc (RowsL.but e0 k1 But.refl.upd) ⟨l, rfl, by rw [upd_ne nlD.symm, upd_same]⟩
        · rintro H' ⟨sm, hT⟩
          rw [hxl, List.take_length] at hT
          exact hd H' sm hT
      refine ⟨fun σ' H1 => ∃ D, σ' = [some (.ref a), some (.int q), some (.ref D), none, none, none, none, none] ∧ H D = none ∧ Same H H1 ∧ Tab H1 D B, ⟨a, rfl, ?_⟩, ?_⟩
      · rcases G.seq with hs | hs
        · exact .inl ⟨⟨_, hs⟩, fun D nD => mk _ (walk_list.mono (fun H' (s : Same H H') => s.seq hs) (fun i H x H' _ _ h => h)) D nD _ (fun H1 sm hT => ⟨D, rfl, nD, sm, hT⟩)⟩
        · exact .inr ⟨⟨_, hs⟩, fun D nD => mk _ (walk_tup.mono (fun H' (s : Same H H') => same_tup s hs) (fun i H x H' _ _ h => h)) D nD _ (fun H1 sm hT => ⟨D, rfl, nD, sm, hT⟩)⟩
      · rintro σ' H1 ⟨D, rfl, nD, sm, zs, hz, hZ⟩
        have hzl : zs.length = B.length := paired_len hZ
        -- if not table
        refine ⟨_, rfl, !zs.isEmpty, .inl ⟨zs, SqL.of hz, rfl⟩, ?_⟩
        have hne : zs.isEmpty = false := by
          cases e : zs with
          | nil => rw [e] at hzl; simp at hzl; omega
          | cons _ _ => rfl
        rw [hne]
        refine iteF ?_
        -- the columns
        obtain ⟨v0, hv0, a0, rfl, ha0⟩ := paired_get hZ hbl []
        have hr0 : (B.getD 0 []).length = many + 1 := (row_ix G.row hbl).1
        refine ⟨_, rfl, D, zs, 0, .ref a0, rfl, rfl, SqL.of hz, atI_nat (j := 0) hv0, a0, _, rfl, .inl (SqL.of ha0), _, rfl, by rw [List.length_map, hr0]; omega, by rw [List.length_map, hr0]; omega, ?_⟩
        refine for_range (lo := 0) (n := ((((B.getD 0 []).map V.int).length : Nat) : Int).toNat) (fun c σ H' => ∃ (top : Nat) (B2 : List (List Int)) (L : List Nat) (y1 y2 y3 : Option V), σ = [some (.ref a), some (.int q), some (.ref D), some (.int top), y1, y2, y3, none] ∧
          Same H H' ∧ Tab H' D B2 ∧ B2.length = B.length ∧ RedInv q (many + 1) B2 top c L ∧ Like q many B B2) ⟨0, B, [], none, none, none, rfl, sm, ⟨zs, hz, hZ⟩, rfl, RedInv.start G.row, Like.refl⟩ ?_ ?_
        · rintro c σ H' hc ⟨top, B2, L, y1, y2, y3, rfl, sm2, ⟨us, hu, hU⟩, hl2, I, lk⟩
          have hc2 : c < many + 1 := by rw [List.length_map, hr0] at hc; omega
          have e1 : ((0 : Int) + (c : Nat)) = ((c : Nat) : Int) := by omega
          have hul : us.length = B2.length := paired_len hU
          refine ⟨_, rfl, _, rfl, _, rfl, D, top, c, many + 1, B2, by rw [e1], ⟨us, hu, hU⟩, fun r hr => (I.rows r hr).1, hc2, by omega, I.le, by omega, fun p p1 p2 p3 => ?_, fun hno => ?_⟩
          · refine ⟨_, rfl, rfl, _, rfl, iteT ?_⟩
            obtain ⟨vp, hvp, ap, rfl, hap⟩ := paired_get hU p2 []
            obtain ⟨vt, hvt, at_, rfl, hat⟩ := paired_get hU (by omega : top < B2.length) []
            have nap : ap ≠ D := RowsL.ne hu hU p ap hvp
            have hpl : (B2.getD p []).length = many + 1 := (row_ix I.rows p2).1
            have pcp := at2_pc (q := q) hq0 I.rows p c
            have pinv := pw_pc (p := at2 B2 p c) (q := q) hp.1 (q - 2).toNat
            -- lead = table[pivot]; table[pivot] = table[top]
            refine ⟨_, rfl, _, rfl, D, us, _, _, rfl, rfl, SqL.of hu, atI_nat hvp, ?_⟩
            refine ⟨_, rfl, _, rfl, D, us, _, _, rfl, rfl, SqL.of hu, atI_nat hvt, _, rfl, _, rfl, D, us, _, p, rfl, rfl, hu, ixN_nat (by omega), ?_⟩
            have hu1 : (upd H' D (.lst (us.set p (.ref at_)))) D = some (.lst (us.set p (.ref at_))) := upd_same
            have hU1 : RowsL (upd H' D (.lst (us.set p (.ref at_)))) (us.set p (.ref at_)) (B2.set p (B2.getD top [])) :=
              paired_set ⟨at_, rfl, by rw [upd_ne (RowsL.ne hu hU top at_ hvt)]; exact hat⟩ p (RowsL.but hu hU But.refl.upd)
            have hap1 : (upd H' D (.lst (us.set p (.ref at_)))) ap = some (.lst ((B2.getD p []).map V.int)) := by rw [upd_ne nap]; exact hap
            -- table[top] = _scaled(..)
            refine ⟨_, rfl, _, rfl, _, rfl, ap, _, _, _, rfl, rfl, SqL.of hap1, by rw [e1]; exact atI_nat (ints_at (by rw [hpl]; exact hc2)), _, rfl, _, q, rfl, hp.1, hp.2, ?_⟩
            refine ⟨_, rfl, ap, B2.getD p [], inv (at2 B2 p c) q, q, rfl, SqL.of hap1, by omega, ⟨by have := pinv.1; show _ < pw (at2 B2 p c) q (q - 2).toNat; omega, by have := pinv.2; show pw (at2 B2 p c) q (q - 2).toNat < _; omega⟩, hq0, fun o1 H3 sm3 np1 hp1 => ?_⟩
            have nD1 : D ≠ o1 := ne_of_none hu1 np1
            have hu3 : H3 D = some (.lst (us.set p (.ref at_))) := sm3 _ _ hu1
            refine ⟨_, rfl, _, rfl, D, _, _, top, rfl, rfl, hu3, ixN_nat (by rw [List.length_set]; omega), ?_⟩
            have hU3 : RowsL H3 (us.set p (.ref at_)) (B2.set p (B2.getD top [])) := hU1.same sm3
            have hU4 : RowsL (upd H3 D (.lst ((us.set p (.ref at_)).set top (.ref o1)))) ((us.set p (.ref at_)).set top (.ref o1)) ((B2.set p (B2.getD top [])).set top (scaledL (B2.getD p []) (inv (at2 B2 p c) q) q)) :=
              paired_set ⟨o1, rfl, by rw [upd_ne nD1.symm]; exact hp1⟩ top (RowsL.but hu3 hU3 But.refl.upd)
            have hrow1 : ∀ r ∈ (B2.set p (B2.getD top [])).set top (scaledL (B2.getD p []) (inv (at2 B2 p c) q) q), Row q (many + 1) r := set_rows (set_rows I.rows (row_ix I.rows (by omega))) (scaled_row hq0 (row_ix I.rows p2) _)
            refine ⟨_, rfl, _, rfl, _, rfl, _, rfl, D, top, c, many + 1, q, _, by rw [e1], ⟨_, upd_same, hU4⟩, hrow1, hc2, by omega, by rw [List.length_set, List.length_set]; omega, by rw [List.length_set, List.length_set]; omega, hq0, hp.2, fun H4 b4 hT4 => ?_⟩
            have U := cleared_turned (n := many + 1) hq I p1 p2 (col := c)
            refine ⟨_, rfl, (top : Int), 1, rfl, rfl, ?_⟩
            refine ⟨top + 1, cleared B2 top p c q, L ++ [c], _, _, _, rfl, ?_, hT4, by rw [U.len]; exact hl2, I.turn hq p1 p2 p3 U, lk.trans (U.like hq I p1 p2 p3)⟩
            intro z o hz2
            have nz : z ≠ D := ne_of_none hz2 nD
            refine b4 z o nz ?_
            rw [upd_ne nz]
            refine sm3 z o ?_
            rw [upd_ne nz]
            exact sm2 z o hz2
          · refine ⟨_, rfl, rfl, _, rfl, iteF ?_⟩
            exact ⟨top, B2, L, _, _, _, rfl, sm2, ⟨us, hu, hU⟩, hl2, I.skip hno, lk⟩
        · rintro σ H' ⟨top, B2, L, y1, y2, y3, rfl, sm2, ⟨us, hu, hU⟩, hl2, I, lk⟩
          have hN : ((((B.getD 0 []).map V.int).length : Nat) : Int).toNat = many + 1 := by rw [List.length_map, hr0]; omega
          rw [hN] at I
          have hul : us.length = B2.length := paired_len hU
          refine ⟨_, rfl, _, rfl, (top : Int), rfl, D, us, rfl, SqL.of hu, fun s1 ns1 => ?_⟩
          rw [cut_take]
          refine ⟨s1, rfl, ⟨_, SqL.of upd_same⟩, fun D2 nD2 => ?_⟩
          have n12 : s1 ≠ D2 := ne_of_none upd_same nD2
          have nD2' : H' D2 = none := by rw [upd_ne n12.symm] at nD2; exact nD2
          have hU5 : RowsL (upd H' s1 (.lst (us.take top))) (us.take top) (B2.take top) := RowsL.same (paired_take top hU) (same_upd ns1)
          have htl : (us.take top).length = (B2.take top).length := paired_len hU5
          refine lc_list (K := K) (a := s1) (xs := us.take top) (fun i H2 => Same (upd H' s1 (.lst (us.take top))) H2 ∧ ∃ ys, H2 D2 = some (.lst ys) ∧ RowsF H2 ys ((B2.take top).take i)) ⟨same_upd nD2, [], upd_same, .nil⟩ (fun i H2 _ h => h.1.seq (SqL.of upd_same)) ?_ ?_
          · rintro i x H2 hx ⟨sm5, ys, hy, hY⟩
            have hi : i < (us.take top).length := (List.getElem?_eq_some_iff.mp hx).1
            have hi2 : i < (B2.take top).length := by omega
            obtain ⟨v, hv, c, rfl, hc⟩ := paired_get hU5 hi2 []
            rw [hx] at hv
            cases hv
            have hc2 := sm5 _ _ hc
            refine ⟨rfl, _, rfl, c, _, rfl, SqL.of hc2, fun l o nl ho => ?_⟩
            have nlD : D2 ≠ l := ne_of_none hy nl
            have e0 : (upd H2 l (.frz o (.tup (((B2.take top).getD i []).map V.int)))) D2 = some (.lst ys) := by rw [upd_ne nlD]; exact hy
            refine ⟨ys, e0, ?_, same_mut (Same.trans sm5 (same_upd nl)) nD2, ys ++ [.ref l], upd_same, ?_⟩
            · have := paired_len hY
              rw [this, List.length_take, List.length_take]
              exact line_gt (by omega)
            · rw [take_snoc hi2 []]
              have k1 : RowsF (upd H2 l (.frz o (.tup (((B2.take top).getD i []).map V.int)))) ys ((B2.take top).take i) := hY.same (same_upd nl)
              exact paired_snoc (k1.list e0) ⟨l, rfl, o, by rw [upd_ne nlD.symm, upd_same], ho⟩
          · rintro H2 ⟨sm5, ys, hy, hY⟩
            rw [htl, List.take_length] at hY
            refine hQ H2 D2 ys (B2.take top) L (Same.trans sm2 (Same.trans (same_upd ns1) sm5)) (Same.free sm2 nD2') hy hY (lk.trans I.like) I.red
end
end K16

set_option Elab.async false
set_option linter.all false
set_option maxRecDepth 100000
set_option maxHeartbeats 4000000
/-! solved. -/
namespace K16
open PySem PySem.Spec PyProof.Rows L2
theorem getD_some {r : List Int} {j : Nat} (h : j < r.length) : r[j]? = some (r.getD j 0) := by rw [getD_lt 0 h, List.getElem?_eq_getElem h]
/-! ### the unknowns, row by row -/
/-- behind i rows of the reduced form: no leading place is the last one, each unknown told is its row's last piece, the others are 0 -/
structure Filled (q : Int) (many : Nat) (R : List (List Int)) (L : List Nat) (i : Nat) (x : List Int) : Prop where
  row : Row q many x
  low : ∀ k l, k < i → L[k]? = some l → l ≠ many
  at_ : ∀ k l, k < i → L[k]? = some l → x.getD l 0 = at2 R k many
  oth : ∀ c, c < many → (∀ k, k < i → L[k]? ≠ some c) → x.getD c 0 = 0
theorem Filled.start {q : Int} {many : Nat} {R : List (List Int)} {L : List Nat} (hq : 0 < q) : Filled q many R L 0 (List.replicate many 0) := by
  refine ⟨⟨by simp, fun p hp => ?_⟩, fun k l h => by omega, fun k l h => by omega, fun c hc _ => ?_⟩
  · have := (List.mem_replicate.mp hp).2
    rw [this]; exact ⟨Int.le_refl 0, hq⟩
  · rw [getD_lt 0 (by simpa using hc)]; simp
theorem Filled.more {q : Int} {many i l : Nat} {R : List (List Int)} {L : List Nat} {x : List Int} (hq : 0 < q) (D : Red q (many + 1) R L) (F : Filled q many R L i x) (hi : L[i]? = some l) (hl : l ≠ many) : Filled q many R L (i + 1) (x.set l (at2 R i many)) := by
  obtain ⟨h1, h2, h3, h4⟩ := D.lead i l hi
  have hlm : l < many := by omega
  have hx := F.row.1
  have e : ∀ c, c < many → (x.set l (at2 R i many)).getD c 0 = if l = c then at2 R i many else x.getD c 0 := fun c hc => by
    rw [getD_lt 0 (by simpa [hx] using hc), List.getElem_set, getD_lt 0 (by omega : c < x.length)]
  refine ⟨⟨by simpa using hx, fun p hp => ?_⟩, fun k m hk hm => ?_, fun k m hk hm => ?_, fun c hc ho => ?_⟩
  · rcases List.mem_or_eq_of_mem_set hp with z | z
    · exact F.row.2 p z
    · rw [z]; exact at2_pc hq D.rows i many
  · by_cases c : k = i
    · rw [c, hi] at hm
      cases hm
      exact hl
    · exact F.low k m (by omega) hm
  · obtain ⟨g1, g2, g3, g4⟩ := D.lead k m hm
    by_cases c : k = i
    · rw [c, hi] at hm
      cases hm
      rw [e l hlm, if_pos rfl, c]
    · have hm2 := F.low k m (by omega) hm
      rw [e m (by omega), if_neg, F.at_ k m (by omega) hm]
      intro z
      have := g4 i (fun y => c y.symm)
      rw [← z, h2] at this
      omega
  · have c1 : l ≠ c := fun z => ho i (by omega) (by rw [hi, z])
    rw [e c hc, if_neg c1]
    exact F.oth c hc fun k hk => ho k (by omega)
theorem Filled.done {q : Int} {many : Nat} {R : List (List Int)} {L : List Nat} {x : List Int} (D : Red q (many + 1) R L) (F : Filled q many R L R.length x) : Ans q many R (some x) := by
  refine Red.canon D (fun h => ?_) F.row (fun i l h => ?_) (fun c hc h => F.oth c hc fun k _ e => h (List.mem_of_getElem? e))
  · obtain ⟨i, hi, e⟩ := List.mem_iff_getElem.mp h
    exact F.low i many (by rw [← D.len]; exact hi) (by rw [List.getElem?_eq_getElem hi, e]) rfl
  · exact F.at_ i l (by rw [← D.len]; exact (List.getElem?_eq_some_iff.mp h).1) h
/-! ### solved -/
/-- an answer as a value: None, or a tuple of the unknowns -/
def AnsV (K : PySem.W.Frag) (H : Hp) (v : V) : Option (List Int) → Prop
  | none => v = .non
  | some x => ∃ o, v = .ref o ∧ SqT K H o (x.map V.int)
theorem AnsV.same {K : PySem.W.Frag} {H H' : Hp} {v : V} (s : Same H H') : ∀ {a : Option (List Int)}, AnsV K H v a → AnsV K H' v a
  | none, h => h
  | some x, ⟨o, e, h⟩ => ⟨o, e, same_tup s h⟩
section
variable {P : Program} {w : World} {K : PySem.W.Frag} {mg : Str → Option Value} {base : Heap} {C fI : Addr}
theorem scV2 : FnScope ["rows", "prime", "form", "many", "unknowns", "row", "lead"] ["rows", "prime"] (defScope sSolved) := ⟨rfl, rfl, rfl, by decide +kernel, rfl, by decide +kernel, by decide +kernel⟩
def spSolved (K : PySem.W.Frag) (C : Addr) : Sp := fun vs H Q E => ∃ (a : Addr) (p : V) (b : Bool), vs = [.ref a, p] ∧ NumOf K H p b ∧ ((isPr p = false ∧ Told C E H p) ∨
  ∃ (q : Int) (many : Nat) (B : List (List Int)) (xs : List V), p = .int q ∧ q ∈ primes ∧ Given K H a xs q many B ∧ ∀ (H' : Hp) (v : V) (ans : Option (List Int)), Same H H' → Ans q many B ans → AnsV K H' v ans → Q v H')
theorem rep_flat (n : Nat) (v : V) : (List.replicate n [v]).flatten = List.replicate n v := by
  induction n with
  | zero => rfl
  | succ n ih => rw [List.replicate_succ, List.replicate_succ, List.flatten_cons, ih]; rfl
theorem ok_solved (T : Txt mg) (F : FnAt K mg "solved" sSolved ["rows", "prime"]) (GR : DefOk P w K mg base (L2.CX P w) 3 "reduced" ["rows", "prime"] (spReduced K C)) : DefP P w K mg base (L2.CX P w) 4 "solved" sSolved ["rows", "prime"] (spSolved K C) := by
  refine mkXP F scV2 (fun vs H Q E h => ?_) (fun f cdv A outer s H vs Q E hr h => ?_)
  · obtain ⟨a, p, b, rfl, _⟩ := h
    rfl
  · obtain ⟨a, p, b, rfl, hn, h⟩ := h
    refine ⟨_, pss_cons (ps_set (i := 2) scV2.nd rfl (.inl rfl) (pe_callD (E := E) GR hr (passes_call (takes_of rfl rfl rfl rfl) (fun _ _ _ _ h => h)) (pa_cons (pv 0) (pa_cons (pv 1) pa_nil)))) (PSs.nox
      (pss_cons (ps_set (i := 3) scV2.nd rfl (.inl rfl) (pe_op op_sub (pe_callB call_len_seq (by rfl) T.len_ boot_len (pa_cons (pe_ix ix_seq (pv 0) pe_int (fun _ _ => rfl)) pa_nil)) pe_int))
      (pss_cons (ps_set (i := 4) scV2.nd rfl (.inl rfl) (pe_op op_rep (pe_lst (pa_cons pe_int pa_nil)) (pv 3)))
      (pss_cons (ps_for PassesOwn.never rfl (pi_list (pv 2)) (pg_name (i := 5) scV2.nd rfl (.inl rfl))
        (pss_cons (ps_set (i := 6) scV2.nd rfl (.inl rfl) (pe_tix (pv 5) pe_int))
        (pss_cons (ps_if (pt_cmpR op_eq (pv 6) (pv 3) (nomark _)) (pss_one (ps_ret pe_non)) pss_nil)
        (pss_one (ps_asg (pe_ix ix_tup (pv 5) (pv 3) (fun _ _ => rfl)) (pg_sub (pv 4) (pv 6) set_list))))))
      (pss_one (ps_ret (pe_callTy call_tuple_of (by rfl) T.tuple_ bt_tuple (pa_cons (pv 4) pa_nil)))))))), ?_⟩
    rcases h with ⟨hp, hE⟩ | ⟨q, many, B, xs, rfl, hq, G, hQ⟩
    · exact ⟨_, rfl, _, rfl, a, p, b, rfl, hn, .inl ⟨hp, hE⟩⟩
    · have hp := prime_pos hq
      have hq0 : 0 < q := by omega
      have hsm := G.small
      refine ⟨_, rfl, _, rfl, a, _, b, rfl, hn, .inr ⟨q, many, B, xs, rfl, hq, G, fun H1 o ys R L sm no ho hO lk D => ?_⟩⟩
      have G1 := G.keep sm
      have hbl : 0 < B.length := (by cases e : B with | nil => exact absurd e G.ne | cons _ _ => simp)
      obtain ⟨v0, hv0, c0, rfl, hc0⟩ := paired_get G1.rows hbl []
      have hr0 : (B.getD 0 []).length = many + 1 := (row_ix G.row hbl).1
      -- many = len(rows[0]) - 1
      have ixQ : ∀ Qx : VK, Qx (.ref c0) H1 → rIx K (.ref a) (.int 0) H1 Qx := fun Qx h => by
        rcases G1.seq with z | z
        · exact .inl ⟨a, xs, 0, .ref c0, rfl, rfl, z, atI_nat (j := 0) hv0, h⟩
        · exact .inr (.inl ⟨a, xs, 0, .ref c0, rfl, rfl, z, atI_nat (j := 0) hv0, h⟩)
      refine ⟨_, rfl, ixQ _ ⟨c0, _, rfl, .inr hc0, _, 1, rfl, rfl, ?_⟩⟩
      have em : ((((B.getD 0 []).map V.int).length : Nat) : Int) - 1 = ((many : Nat) : Int) := by rw [List.length_map, hr0]; omega
      dsimp only
      rw [em]
      -- unknowns = [0] * many
      refine ⟨(by show 1 ≤ sizeLine; exact line_ge (by decide)), fun p1 n1 => ⟨_, rfl, p1, (many : Int), _, rfl, rfl, upd_same, by omega, by omega, by show 1 * ((many : Int)).toNat ≤ sizeLine; exact line_ge (by omega), fun u nu => ?_⟩⟩
      have nu1 : p1 ≠ u := ne_of_none upd_same nu
      have nuH : H1 u = none := by rw [upd_ne nu1.symm] at nu; exact nu
      have smU : Same H1 (upd (upd H1 p1 (.lst [.int 0])) u (.lst (List.replicate ((many : Int)).toNat [V.int 0]).flatten)) := (same_upd n1).trans (same_upd nu)
      have hol : ys.length = R.length := paired_len hO
      refine ⟨_, rfl, o, rfl, ⟨_, SqL.of (smU _ _ ho)⟩, for_list (K := K) (a := o) (xs := ys) (fun i σ H' => Same H1 H' ∧ ∃ (x : List Int) (y z : Option V), σ = [some (.ref a), some (.int q), some (.ref o), some (.int many), some (.ref u), y, z] ∧ H' u = some (.lst (x.map V.int)) ∧ Filled q many R L i x)
        ⟨smU, List.replicate many 0, none, none, rfl, ?_, Filled.start hq0⟩ (fun i σ H' _ h => h.1.seq (SqL.of ho)) ?_ ?_⟩
      · rw [upd_same, rep_flat]
        simp
      · rintro i v σ H' hv ⟨sm2, x, y, z, rfl, hu, Fl⟩
        have hi : i < R.length := by rw [← hol]; exact (List.getElem?_eq_some_iff.mp hv).1
        obtain ⟨v', hv', c, rfl, hc⟩ := paired_get (hO.same sm2) hi []
        rw [hv] at hv'
        cases hv'
        have hLi : i < L.length := by rw [D.len]; exact hi
        have hl : L[i]? = some L[i] := List.getElem?_eq_getElem hLi
        obtain ⟨l1, l2, l3, l4⟩ := D.lead i _ hl
        have hrl : (R.getD i []).length = many + 1 := (row_ix D.rows hi).1
        refine ⟨_, rfl, c, R.getD i [], rfl, hc, 1, L[i], rfl, hc, ?_, ?_, ?_⟩
        · rw [getD_some (show L[i] < (R.getD i []).length by omega)]
          exact congrArg some l2
        · intro m hm e
          have : (R.getD i []).getD m 0 = 0 := l3 m hm
          rw [List.getD_eq_getElem?_getD, e] at this
          simp at this
        · refine ⟨_, rfl, _, rfl, rfl, _, rfl, ite2 (fun c1 => ?_) (fun c1 => ?_)⟩
          · have e2 : L[i] = many := by
              have := V.int.inj (of_decide_eq_true c1)
              omega
            have hA : Ans q many R none := Red.none hp.1 D (by rw [← e2]; exact List.getElem_mem hLi)
            exact hQ H' .non none (sm.trans sm2) (hA.like lk.symm) rfl
          · have e2 : L[i] ≠ many := fun z => c1 (by rw [z]; exact decide_eq_true rfl)
            have hxl := Fl.row.1
            refine ⟨_, rfl, _, rfl, c, _, _, _, rfl, rfl, hc.sq, atI_nat (ints_at (by omega : many < (R.getD i []).length)), _, rfl, _, rfl, u, _, _, L[i], rfl, rfl, hu, ixN_nat (by rw [List.length_map]; omega), ?_⟩
            refine ⟨?_, x.set L[i] (at2 R i many), _, _, rfl, ?_, Fl.more hq0 D hl e2⟩
            · exact same_mut sm2 nuH
            · rw [upd_same, List.map_set]
              rfl
      · rintro σ H' ⟨sm2, x, y, z, rfl, hu, Fl⟩
        rw [hol] at Fl
        have hA : Ans q many R (some x) := Fl.done D
        refine ⟨_, rfl, u, _, rfl, .inl ⟨SqL.of hu, fun o2 no2 => ?_⟩⟩
        exact hQ _ _ (some x) ((sm.trans sm2).trans (same_upd no2)) (hA.like lk.symm) ⟨o2, rfl, SqT.of upd_same⟩
/-! ### solved, called by keywords -/
def kwOrd {α : Type} : List α → List α
  | [p, r] => [r, p]
  | _ => []
theorem kw_solved {f : Addr} {fd : FuncData} (F : FnP K "solved" "solved" sSolved f fd) : KBn K fd ["rows", "prime"] 0 ["prime", "rows"] (fun _ ws => kwOrd ws) (fun _ zs => kwOrd zs) := by
  obtain ⟨oc, od, dV, kV, doc, pm, an, cdv, ct, osl, rfl, lk, hcd, hD, hK⟩ := F.ex
  rcases hD with ⟨_, rfl⟩ | ⟨e, _⟩
  · refine ⟨fun s us ws X l1 l2 => ?_, fun {vs us zs ws} r1 r2 => ?_⟩
    · match us, ws, l1, l2 with
      | [], [p, r], _, _ => exact BindsTo.of_eq rfl
    · cases r2 with
      | nil => exact .nil
      | cons a r3 =>
        cases r3 with
        | nil => exact .nil
        | cons b r4 =>
          cases r4 with
          | nil => exact .cons b (.cons a .nil)
          | cons _ _ => exact .nil
  · exact absurd rfl e
end
end K16

set_option Elab.async false
set_option linter.all false
set_option maxRecDepth 100000
set_option maxHeartbeats 4000000
/-! The law's bag: _law_bag, _law_draw, _law_of, _law_primes. -/
namespace K16
open PySem PySem.Spec PyProof.Rows L2
/-! ### the bag: a list at b, its cells a list at c -/
structure Good (b c : Addr) (H : Hp) : Prop where
  ex : ∃ (ns : List Int) (i l s k : Int), H c = some (.lst (ns.map V.int)) ∧ H b = some (.lst [.ref c, .int i, .int l, .int s, .int k]) ∧ ns.length ≤ 63 ∧ 0 ≤ i ∧ 0 ≤ l ∧ 0 ≤ s ∧ s < 2147483477
theorem Good.ne {b c : Addr} {H : Hp} (g : Good b c H) : c ≠ b := by
  obtain ⟨ns, i, l, s, k, h1, h2, _⟩ := g.ex
  intro e
  rw [e, h2] at h1
  cases ns with
  | nil => simp at h1
  | cons n r => simp at h1
theorem Good.at_b {b c : Addr} {H : Hp} (g : Good b c H) : ∃ xs, H b = some (.lst xs) := by
  obtain ⟨ns, i, l, s, k, h1, h2, _⟩ := g.ex
  exact ⟨_, h2⟩
theorem Good.off {b c l : Addr} {H : Hp} (g : Good b c H) (h : H l = none) : l ≠ b ∧ l ≠ c := by
  obtain ⟨ns, i, l, s, k, h1, h2, _⟩ := g.ex
  refine ⟨fun e => ?_, fun e => ?_⟩
  · rw [e, h2] at h
    cases h
  · rw [e, h1] at h
    cases h
theorem Good.keep {b c : Addr} {H H' : Hp} (g : Good b c H) (h1 : ∀ o, H b = some o → H' b = some o) (h2 : ∀ o, H c = some o → H' c = some o) : Good b c H' := by
  obtain ⟨ns, i, l, s, k, e1, e2, r⟩ := g.ex
  exact ⟨ns, i, l, s, k, h2 _ e1, h1 _ e2, r⟩
/-- draws were made: the bag may have changed, all else that stood stands -/
structure Ext (b c : Addr) (H H' : Hp) : Prop where
  g0 : Good b c H
  g1 : Good b c H'
  but : But b H H'
section
variable {b c : Addr} {H H1 H2 : Hp}
theorem Ext.refl (g : Good b c H) : Ext b c H H := ⟨g, g, But.refl⟩
theorem Ext.trans (x : Ext b c H H1) (y : Ext b c H1 H2) : Ext b c H H2 := ⟨x.g0, y.g1, x.but.trans y.but⟩
theorem Ext.same (x : Ext b c H H1) (s : Same H1 H2) : Ext b c H H2 := ⟨x.g0, x.g1.keep (fun o h => s _ _ h) (fun o h => s _ _ h), x.but.trans (But.of s)⟩
theorem Ext.of (g : Good b c H) (s : Same H H1) : Ext b c H H1 := (Ext.refl g).same s
theorem Ext.free {l : Addr} (x : Ext b c H H1) (h : H1 l = none) : H l = none := by
  cases e : H l with
  | none => rfl
  | some o =>
    obtain ⟨n1, n2⟩ := x.g1.off h
    rw [x.but l o n1 e] at h
    cases h
theorem Ext.mut {l : Addr} {o : HO} (x : Ext b c H H1) (h : H l = none) : Ext b c H (upd H1 l o) := by
  obtain ⟨n1, n2⟩ := x.g0.off h
  refine ⟨x.g0, x.g1.keep (fun o h => by rw [upd_ne n1.symm]; exact h) (fun o h => by rw [upd_ne n2.symm]; exact h), fun a u na e => ?_⟩
  rw [upd_ne (ne_of_none e h)]
  exact x.but a u na e
theorem Ext.tup {K : PySem.W.Frag} {a : Addr} {xs : List V} (x : Ext b c H H1) (h : SqT K H a xs) : SqT K H1 a xs := by
  obtain ⟨ys, hb⟩ := x.g0.at_b
  rcases h with (h | ⟨o, h⟩) | h
  · exact .inl (.inl (x.but _ _ (ne_of h hb (by intro z; cases z)) h))
  · exact .inl (.inr ⟨o, x.but _ _ (ne_of h hb (by intro z; cases z)) h⟩)
  · exact .inr h
theorem Ext.rowsT {K : PySem.W.Frag} {vs : List V} {T : List (List Int)} (x : Ext b c H H1) (h : RowsT K H vs T) : RowsT K H1 vs T := paired_imp (fun _ _ ⟨a, e, k⟩ => ⟨a, e, x.tup k⟩) h
/-- a list of ints is not the bag -/
theorem Good.ints {a : Addr} {r : List Int} (g : Good b c H) (h : H a = some (.lst (r.map V.int))) : a ≠ b := by
  obtain ⟨ns, i, l, s, k, h1, h2, _⟩ := g.ex
  intro e
  rw [e, h2] at h
  cases r with
  | nil => simp at h
  | cons n r => simp at h
theorem Ext.ints {a : Addr} {r : List Int} (x : Ext b c H H1) (h : H a = some (.lst (r.map V.int))) : H1 a = some (.lst (r.map V.int)) := x.but _ _ (x.g0.ints h) h
theorem Ext.rowsL {vs : List V} {T : List (List Int)} (x : Ext b c H H1) (h : RowsL H vs T) : RowsL H1 vs T := paired_imp (fun _ _ ⟨a, e, k⟩ => ⟨a, e, x.ints k⟩) h
end
section
variable {P : Program} {w : World} {K : PySem.W.Frag} {mg : Str → Option Value} {base : Heap}
/-! ### _law_bag -/
theorem scBag : FnScope ["_law_script", "_law_seed", "_law_cell"] ["_law_script"] (defScope sBag) := ⟨rfl, rfl, rfl, by decide +kernel, rfl, by decide +kernel, by decide +kernel⟩
def spBag (K : PySem.W.Frag) : Sp := fun vs H Q _ => ∃ (a : Addr) (ns : List Int), vs = [.ref a] ∧ SqL K H a (ns.map V.int) ∧ ns.length ≤ 63 ∧ ∀ b c H', Same H H' → H b = none → Good b c H' → Q (.ref b) H'
theorem ok_bag (T : Txt mg) (F : FnAt K mg "_law_bag" sBag ["_law_script"]) : DefOk P w K mg base CX0 1 "_law_bag" ["_law_script"] (spBag K) := by
  refine mk0 F scBag (fun vs H Q E h => ?_) (fun f cdv A outer s H vs Q E hr h => ?_)
  · obtain ⟨a, ns, rfl, _⟩ := h
    rfl
  · obtain ⟨a, ns, rfl, hS, hl, hQ⟩ := h
    refine ⟨_, (pss_cons (ps_set (i := 1) scBag.nd rfl (.inl rfl) pe_int)
      (pss_cons (ps_for PassesOwn.never rfl (pi_list (pe_slice sl_list (pv 0) po_none (po_some pe_int))) (pg_name (i := 2) scBag.nd rfl (.inl rfl))
      (pss_one (ps_set (i := 1) scBag.nd rfl (.inl rfl) (pe_op op_mod (pe_callTy call_int1 (by rfl) T.int_ bt_int (pa_cons (pe_op op_add (pe_op op_add (pe_op op_mul (pv 1) pe_int) (pe_op op_mod (pe_callTy call_int1 (by rfl) T.int_ bt_int (pa_cons (pv 2) pa_nil)) pe_int)) pe_int) pa_nil)) pe_int))))
      (pss_one (ps_ret (pe_lst (pa_cons (pe_callTy call_list_of (by rfl) T.list_ bt_list (pa_cons (pe_slice sl_list (pv 0) po_none (po_some pe_int)) pa_nil)) (pa_cons pe_int (pa_cons pe_int (pa_cons (pv 1) (pa_cons pe_int pa_nil)))))))))), ?_⟩
    have cut : cutV (ns.map V.int) none (some (63 : Int)) = ns.map V.int := by
      rw [show (63 : Int) = ((63 : Nat) : Int) from rfl, cut_take, List.take_of_length_le (by rw [List.length_map]; exact hl)]
    refine ⟨_, rfl, _, rfl, a, _, rfl, hS, fun p np => ?_⟩
    rw [cut]
    refine ⟨p, rfl, ⟨_, SqL.of upd_same⟩, for_list (K := K) (a := p) (xs := ns.map V.int) (fun i σ H' => H' = upd H p (.lst (ns.map V.int)) ∧ ∃ (sd : Int) (y : Option V), σ = [some (.ref a), some (.int sd), y] ∧ 0 ≤ sd ∧ sd < 2147483477)
      ⟨rfl, 1397016, none, rfl, by decide, by decide⟩ (fun i σ H' _ h => by rw [h.1]; exact SqL.of upd_same) ?_ ?_⟩
    · rintro i x σ H' hx ⟨rfl, sd, y, rfl, s0, s1⟩
      obtain ⟨hi, rfl⟩ := ints_of hx
      refine ⟨_, rfl, _, _, rfl, rfl, .inl ⟨by omega, by omega⟩, _, rfl, .inl ⟨_, rfl, _, _, rfl, rfl, (by show (0 : Int) < 2147483587; decide), _, _, rfl, rfl, _, _, rfl, rfl, .inl ⟨_, rfl, _, _, rfl, rfl, (by show (0 : Int) < 2147483477; decide), ?_⟩⟩⟩
      exact ⟨rfl, _, _, rfl, Int.emod_nonneg _ (by decide), Int.emod_lt_of_pos _ (by decide)⟩
    · rintro σ H' ⟨rfl, sd, y, rfl, s0, s1⟩
      have sm1 : Same H (upd H p (.lst (ns.map V.int))) := same_upd np
      refine ⟨_, rfl, _, rfl, a, _, rfl, sm1.seq hS, fun p2 np2 => ?_⟩
      rw [cut]
      refine ⟨p2, _, rfl, .inl (SqL.of upd_same), fun cc ncc => ⟨_, rfl, (by show 5 ≤ sizeLine; exact line_ge (by decide)), fun bb nbb => ?_⟩⟩
      have sm2 : Same H (upd (upd H p (.lst (ns.map V.int))) p2 (.lst (ns.map V.int))) := sm1.trans (same_upd np2)
      have sm3 : Same H (upd (upd (upd H p (.lst (ns.map V.int))) p2 (.lst (ns.map V.int))) cc (.lst (ns.map V.int))) := sm2.trans (same_upd ncc)
      refine hQ bb cc _ (sm3.trans (same_upd nbb)) (Same.free sm3 nbb) ⟨ns, 0, 0, sd, 0, ?_, upd_same, hl, by decide, by decide, s0, s1⟩
      have : cc ≠ bb := ne_of_none upd_same nbb
      rw [upd_ne this, upd_same]
/-! ### _law_draw -/
theorem scDraw : FnScope ["_law_bag_here", "_law_limit", "_law_cell", "_law_digit", "_law_seed"] ["_law_bag_here", "_law_limit"] (defScope sDraw) := ⟨rfl, rfl, rfl, by decide +kernel, rfl, by decide +kernel, by decide +kernel⟩
def spDraw : Sp := fun vs H Q _ => ∃ (b c : Addr) (n : Int), vs = [.ref b, .int n] ∧ Good b c H ∧ 0 < n ∧ n < 1000000 ∧ ∀ (d : Int) (H' : Hp), 0 ≤ d → d < n → Ext b c H H' → Q (.int d) H'
/-- the bag's five fields -/
def Bg (b c : Addr) (ns : List Int) (i l s k : Int) (H : Hp) : Prop := H c = some (.lst (ns.map V.int)) ∧ H b = some (.lst [.ref c, .int i, .int l, .int s, .int k]) ∧ c ≠ b
theorem Bg.put {b c : Addr} {ns : List Int} {i l s k i2 l2 s2 k2 : Int} {H : Hp} (h : Bg b c ns i l s k H) : Bg b c ns i2 l2 s2 k2 (upd H b (.lst [.ref c, .int i2, .int l2, .int s2, .int k2])) :=
  ⟨by rw [upd_ne h.2.2]; exact h.1, upd_same, h.2.2⟩
theorem ok_draw (T : Txt mg) (F : FnAt K mg "_law_draw" sDraw ["_law_bag_here", "_law_limit"]) : DefOk P w K mg base CX0 1 "_law_draw" ["_law_bag_here", "_law_limit"] spDraw := by
  refine mk0 F scDraw (fun vs H Q E h => ?_) (fun f cdv A outer s H vs Q E hr h => ?_)
  · obtain ⟨b, c, n, rfl, _⟩ := h
    rfl
  · obtain ⟨b, c, n, rfl, G, n0, n1, hQ⟩ := h
    refine ⟨_, (pss_cons (ps_asg (pe_op op_add (pe_ix ix_list (pv 0) pe_int (fun _ _ => rfl)) pe_int) (pg_sub (pv 0) pe_int set_list))
      (Evl.pss_cut (ps_if (PW.pt (pw_and (pt_cmpR op_eq (pe_ix ix_list (pv 0) pe_int (fun _ _ => rfl)) pe_int (nomark _)) (pw_and1 (pt_cmpR op_lt (pe_ix ix_list (pv 0) pe_int (fun _ _ => rfl)) (pe_callB call_len_seq (by rfl) T.len_ boot_len (pa_cons (pe_ix ix_list (pv 0) pe_int (fun _ _ => rfl)) pa_nil)) (nomark _))))) (pss_cons (ps_set (i := 2) scDraw.nd rfl (.inl rfl) (pe_callTy call_int1 (by rfl) T.int_ bt_int (pa_cons (pe_ix ix_list (pe_ix ix_list (pv 0) pe_int (fun _ _ => rfl)) (pe_ix ix_list (pv 0) pe_int (fun _ _ => rfl)) (fun _ _ => rfl)) pa_nil)))
      (pss_cons (ps_asg (pe_op op_add (pe_ix ix_list (pv 0) pe_int (fun _ _ => rfl)) pe_int) (pg_sub (pv 0) pe_int set_list))
      (pss_one (ps_if (pt_cmpR op_ge (pv 2) (pe_op op_pow pe_int pe_int) (nomark _)) (pss_one (ps_asg (pv 2) (pg_sub (pv 0) pe_int set_list))) (pss_one (ps_asg (pe_op op_mod (pe_callTy call_int1 (by rfl) T.int_ bt_int (pa_cons (pe_op op_add (pe_op op_add (pe_op op_mul (pe_ix ix_list (pv 0) pe_int (fun _ _ => rfl)) pe_int) (pe_op op_mul (pe_op op_mod (pe_callTy call_int1 (by rfl) T.int_ bt_int (pa_cons (pv 2) pa_nil)) pe_int) pe_int)) pe_int) pa_nil)) pe_int) (pg_sub (pv 0) pe_int set_list))))))) pss_nil)
      (pss_cons (ps_if (pt_cmpR op_gt (pe_ix ix_list (pv 0) pe_int (fun _ _ => rfl)) pe_int (nomark _)) (pss_cons (ps_set (i := 3) scDraw.nd rfl (.inl rfl) (pe_op op_mod (pe_callTy call_int1 (by rfl) T.int_ bt_int (pa_cons (pe_ix ix_list (pv 0) pe_int (fun _ _ => rfl)) pa_nil)) (pv 1)))
      (pss_cons (ps_asg (pe_op op_fdiv (pe_ix ix_list (pv 0) pe_int (fun _ _ => rfl)) (pv 1)) (pg_sub (pv 0) pe_int set_list))
      (pss_one (ps_ret (pv 3))))) pss_nil)
      (pss_cons (ps_set (i := 4) scDraw.nd rfl (.inl rfl) (pe_callTy call_int1 (by rfl) T.int_ bt_int (pa_cons (pe_ix ix_list (pv 0) pe_int (fun _ _ => rfl)) pa_nil)))
      (pss_cons (ps_asg (pe_op op_mod (pe_callTy call_int1 (by rfl) T.int_ bt_int (pa_cons (pe_op op_add (pe_op op_add (pe_op op_add (pe_op op_pow (pv 4) pe_int) (pe_op op_mul (pv 4) pe_int)) (pe_op op_mul (pe_ix ix_list (pv 0) pe_int (fun _ _ => rfl)) pe_int)) pe_int) pa_nil)) pe_int) (pg_sub (pv 0) pe_int set_list))
      (pss_one (ps_ret (pe_op op_mod (pe_callTy call_int1 (by rfl) T.int_ bt_int (pa_cons (pe_op op_add (pe_op op_fdiv (pe_ix ix_list (pv 0) pe_int (fun _ _ => rfl)) pe_int) (pe_op op_mul (pe_op op_mod (pe_callTy call_int1 (by rfl) T.int_ bt_int (pa_cons (pe_ix ix_list (pv 0) pe_int (fun _ _ => rfl)) pa_nil)) pe_int) pe_int)) pa_nil)) (pv 1))))))))), ?_⟩
    obtain ⟨ns, i, l, sd, k, h1, h2, hl, i0, l0, s0, s1⟩ := G.ex
    have B0 : Bg b c ns i l sd k H := ⟨h1, h2, G.ne⟩
    -- bag[4] = bag[4] + 1
    refine ⟨_, rfl, b, _, 4, _, rfl, rfl, SqL.of h2, atI_nat (j := 4) rfl, _, _, rfl, rfl, _, rfl, b, _, 4, 4, rfl, rfl, h2, ixN_nat (j := 4) (by show 4 < 5; decide), ?_⟩
    have B1 : Bg b c ns i l sd (k + 1) (upd H b (.lst [.ref c, .int i, .int l, .int sd, .int (k + 1)])) := B0.put
    have but1 : But b H (upd H b (.lst [.ref c, .int i, .int l, .int sd, .int (k + 1)])) := But.refl.upd
    refine ⟨fun σ' H' => ∃ (i l sd k : Int) (y : Option V), σ' = [some (.ref b), some (.int n), y, none, none] ∧ Bg b c ns i l sd k H' ∧ But b H H' ∧ 0 ≤ i ∧ 0 ≤ l ∧ 0 ≤ sd ∧ sd < 2147483477, ?_, ?_⟩
    · have hb := B1.2.1
      have hc := B1.1
      refine ⟨_, rfl, b, _, 2, _, rfl, rfl, SqL.of hb, atI_nat (j := 2) rfl, rfl, _, rfl, ite2 (fun c1 => ?_) (fun c1 => ?_)⟩
      · refine ⟨_, rfl, b, _, 1, _, rfl, rfl, SqL.of hb, atI_nat (j := 1) rfl, _, rfl, b, _, 0, _, rfl, rfl, SqL.of hb, atI_nat (j := 0) rfl, c, _, rfl, .inl (SqL.of hc), _, _, rfl, rfl, _, rfl, ite2 (fun c2 => ?_) (fun c2 => ?_)⟩
        · have hi : i < (ns.length : Int) := by
            have := of_decide_eq_true c2
            rw [List.length_map] at this
            exact this
          have hin : i.toNat < ns.length := by omega
          refine ⟨_, rfl, b, _, 0, _, rfl, rfl, SqL.of hb, atI_nat (j := 0) rfl, _, rfl, b, _, 1, _, rfl, rfl, SqL.of hb, atI_nat (j := 1) rfl, c, _, _, _, rfl, rfl, SqL.of hc, at_of (j := i.toNat) (by omega) (ints_at hin), .inl ⟨_, rfl, ?_⟩⟩
          refine ⟨_, rfl, b, _, 1, _, rfl, rfl, SqL.of hb, atI_nat (j := 1) rfl, _, _, rfl, rfl, _, rfl, b, _, 1, 1, rfl, rfl, hb, ixN_nat (j := 1) (by show 1 < 5; decide), ?_⟩
          have B2 : Bg b c ns (i + 1) l sd (k + 1) (upd (upd H b (.lst [.ref c, .int i, .int l, .int sd, .int (k + 1)])) b (.lst [.ref c, .int (i + 1), .int l, .int sd, .int (k + 1)])) := B1.put
          have hb2 := B2.2.1
          refine ⟨_, rfl, _, _, rfl, rfl, ⟨by decide, by decide, by decide⟩, _, _, rfl, rfl, _, rfl, ite2 (fun c3 => ?_) (fun c3 => ?_)⟩
          · have hl2 : (0 : Int) ≤ ns.getD i.toNat 0 := by
              have := of_decide_eq_true c3
              have e : (10 : Int) ^ (18 : Int).toNat = 1000000000000000000 := by decide
              rw [e] at this
              omega
            exact ⟨_, rfl, _, rfl, b, _, 2, 2, rfl, rfl, hb2, ixN_nat (j := 2) (by show 2 < 5; decide), i + 1, ns.getD i.toNat 0, sd, k + 1, _, rfl, B2.put, (But.upd but1).upd, by omega, hl2, s0, s1⟩
          · refine ⟨_, rfl, b, _, 3, _, rfl, rfl, SqL.of hb2, atI_nat (j := 3) rfl, _, _, rfl, rfl, .inr ⟨by decide, by decide⟩, _, rfl, .inl ⟨_, rfl, _, _, rfl, rfl, (by show (0 : Int) < 2147483563; decide), _, _, rfl, rfl, .inr ⟨by decide, by decide⟩, _, _, rfl, rfl, _, _, rfl, rfl, .inl ⟨_, rfl, _, _, rfl, rfl, (by show (0 : Int) < 2147483477; decide), _, rfl, b, _, 3, 3, rfl, rfl, hb2, ixN_nat (j := 3) (by show 3 < 5; decide), ?_⟩⟩⟩
            exact ⟨i + 1, l, _, k + 1, _, rfl, B2.put, (But.upd but1).upd, by omega, l0, Int.emod_nonneg _ (by decide), Int.emod_lt_of_pos _ (by decide)⟩
        · exact ⟨i, l, sd, k + 1, _, rfl, B1, but1, i0, l0, s0, s1⟩
      · exact iteF ⟨i, l, sd, k + 1, _, rfl, B1, but1, i0, l0, s0, s1⟩
    · clear i0 l0 s0 s1 B1 but1 B0
      rintro σ' H' ⟨i, l, sd, k, y, rfl, B1, but1, i0, l0, s0, s1⟩
      have hb := B1.2.1
      refine ⟨_, rfl, b, _, 2, _, rfl, rfl, SqL.of hb, atI_nat (j := 2) rfl, _, _, rfl, rfl, _, rfl, ite2 (fun c1 => ?_) (fun c1 => ?_)⟩
      · refine ⟨_, rfl, b, _, 2, _, rfl, rfl, SqL.of hb, atI_nat (j := 2) rfl, .inl ⟨_, rfl, _, rfl, _, _, rfl, rfl, n0, ?_⟩⟩
        refine ⟨_, rfl, b, _, 2, _, rfl, rfl, SqL.of hb, atI_nat (j := 2) rfl, _, rfl, _, _, rfl, rfl, ⟨n0, by omega⟩, _, rfl, b, _, 2, 2, rfl, rfl, hb, ixN_nat (j := 2) (by show 2 < 5; decide), _, rfl, ?_⟩
        have B2 : Bg b c ns i (l / n) sd k (upd H' b (.lst [.ref c, .int i, .int (l / n), .int sd, .int k])) := B1.put
        exact hQ _ _ (Int.emod_nonneg _ (by omega)) (Int.emod_lt_of_pos _ n0) ⟨G, ⟨ns, i, l / n, sd, k, B2.1, B2.2.1, hl, i0, Int.ediv_nonneg l0 (by omega), s0, s1⟩, but1.upd⟩
      · refine ⟨_, rfl, b, _, 3, _, rfl, rfl, SqL.of hb, atI_nat (j := 3) rfl, .inl ⟨_, rfl, ?_⟩⟩
        refine ⟨_, rfl, _, _, rfl, rfl, ⟨by decide, by decide, by omega⟩, _, rfl, _, _, rfl, rfl, .inr ⟨by decide, by decide⟩, _, _, rfl, rfl, _, rfl, b, _, 4, _, rfl, rfl, SqL.of hb, atI_nat (j := 4) rfl, _, _, rfl, rfl, .inr ⟨by decide, by decide⟩, _, _, rfl, rfl, _, _, rfl, rfl, .inl ⟨_, rfl, _, _, rfl, rfl, (by show (0 : Int) < 2147483477; decide), _, rfl, b, _, 3, 3, rfl, rfl, hb, ixN_nat (j := 3) (by show 3 < 5; decide), ?_⟩⟩
        have B2 := B1.put (i2 := i) (l2 := l) (s2 := (sd ^ (3 : Int).toNat + sd * 30011 + k * 1299689 + 70001) % 2147483477) (k2 := k)
        have hb2 := B2.2.1
        refine ⟨_, rfl, b, _, 3, _, rfl, rfl, SqL.of hb2, atI_nat (j := 3) rfl, _, _, rfl, rfl, ⟨by decide, by decide⟩, _, rfl, b, _, 3, _, rfl, rfl, SqL.of hb2, atI_nat (j := 3) rfl, .inl ⟨_, rfl, _, _, rfl, rfl, (by show (0 : Int) < 7919; decide), _, _, rfl, rfl, .inr ⟨by decide, by decide⟩, _, _, rfl, rfl, .inl ⟨_, rfl, _, rfl, _, _, rfl, rfl, n0, ?_⟩⟩⟩
        exact hQ _ _ (Int.emod_nonneg _ (by omega)) (Int.emod_lt_of_pos _ n0) ⟨G, ⟨ns, i, l, _, k, B2.1, B2.2.1, hl, i0, l0, Int.emod_nonneg _ (by decide), Int.emod_lt_of_pos _ (by decide)⟩, but1.upd⟩
end
end K16

set_option Elab.async false
set_option linter.all false
set_option maxRecDepth 100000
set_option maxHeartbeats 4000000
/-! _law_of, _law_primes, _law_turned, _law_like. -/
namespace K16
open PySem PySem.Spec PyProof.Rows L2
section
variable {P : Program} {w : World} {K : PySem.W.Frag} {mg : Str → Option Value} {base : Heap}
/-! ### _law_of -/
theorem scOf : FnScope ["_law_bag_here", "_law_things"] ["_law_bag_here", "_law_things"] (defScope sOf) := ⟨rfl, rfl, rfl, by decide +kernel, rfl, by decide +kernel, by decide +kernel⟩
def spOf : Sp := fun vs H Q _ => ∃ (b c a : Addr) (xs : List V), vs = [.ref b, .ref a] ∧ Good b c H ∧ a ≠ b ∧ H a = some (.lst xs) ∧ 0 < xs.length ∧ xs.length ≤ 1000 ∧ ∀ (i : Nat) (x : V) (H' : Hp), xs[i]? = some x → Ext b c H H' → Q x H'
theorem ok_of (T : Txt mg) (F : FnAt K mg "_law_of" sOf ["_law_bag_here", "_law_things"]) (GD : DefOk P w K mg base CX0 1 "_law_draw" ["_law_bag_here", "_law_limit"] spDraw) : DefOk P w K mg base CX0 2 "_law_of" ["_law_bag_here", "_law_things"] spOf := by
  refine mk0 F scOf (fun vs H Q E h => ?_) (fun f cdv A outer s H vs Q E hr h => ?_)
  · obtain ⟨b, c, a, xs, rfl, _⟩ := h
    rfl
  · obtain ⟨b, c, a, xs, rfl, G, nab, ha, h0, h1, hQ⟩ := h
    refine ⟨_, (pss_one (ps_ret (pe_ix ix_list (pv 1) (pe_callD GD hr pass0 (pa_cons (pv 0) (pa_cons (pe_callB call_len_seq (by rfl) T.len_ boot_len (pa_cons (pv 1) pa_nil)) pa_nil))) (fun _ _ => rfl)))), ?_⟩
    refine ⟨_, rfl, _, rfl, _, rfl, a, xs, rfl, .inl (SqL.of ha), b, c, (xs.length : Int), rfl, G, by omega, by omega, fun d H' d0 d1 x => ?_⟩
    have hd : d.toNat < xs.length := by omega
    exact ⟨a, xs, d, xs[d.toNat], rfl, rfl, SqL.of (x.but _ _ nab ha), at_of (j := d.toNat) (by omega) (List.getElem?_eq_getElem hd), hQ d.toNat _ H' (List.getElem?_eq_getElem hd) x⟩
/-! ### _law_primes -/
theorem scPs : FnScope [] [] (defScope sPrimes) := ⟨rfl, rfl, rfl, by decide +kernel, rfl, by decide +kernel, by decide +kernel⟩
def spPrimes : Sp := fun vs H Q _ => vs = [] ∧ ∀ p H', Same H H' → H p = none → H' p = some (.lst (primes.map V.int)) → Q (.ref p) H'
theorem ok_primes (F : FnAt K mg "_law_primes" sPrimes []) : DefOk P w K mg base CX0 1 "_law_primes" [] spPrimes := by
  refine mk0 F scPs (fun vs H Q E h => ?_) (fun f cdv A outer s H vs Q E hr h => ?_)
  · obtain ⟨rfl, _⟩ := h
    rfl
  · obtain ⟨rfl, hQ⟩ := h
    refine ⟨_, (pss_one (ps_ret (pe_lst (pa_cons pe_int (pa_cons pe_int (pa_cons pe_int (pa_cons pe_int (pa_cons pe_int (pa_cons pe_int (pa_cons pe_int (pa_cons pe_int (pa_cons pe_int (pa_cons pe_int (pa_cons pe_int pa_nil)))))))))))))), ?_⟩
    exact ⟨(by show 11 ≤ sizeLine; exact line_ge (by decide)), fun p np => hQ p _ (same_upd np) np upd_same⟩
/-! ### _law_turned -/
theorem scTu : FnScope ["_law_bag_here", "_law_things", "_law_rest", "_law_found", "_law_k"] ["_law_bag_here", "_law_things"] (defScope sTurned) := ⟨rfl, rfl, rfl, by decide +kernel, rfl, by decide +kernel, by decide +kernel⟩
def spTurned : Sp := fun vs H Q _ => ∃ (b c a : Addr) (xs : List V) (B : List (List Int)), vs = [.ref b, .ref a] ∧ Good b c H ∧ a ≠ b ∧ H a = some (.lst xs) ∧ RowsL H xs B ∧ B.length ≤ 1000 ∧
  ∀ (H' : Hp) (p : Addr) (ys : List V) (B2 : List (List Int)), Ext b c H H' → H p = none → H' p = some (.lst ys) → RowsL H' ys B2 → B2.length = B.length → (∀ r, r ∈ B2 ↔ r ∈ B) → Q (.ref p) H'
theorem mem_erase {α : Type} (d x : α) : ∀ {l : List α} {j : Nat}, j < l.length → (x ∈ l ↔ x = l.getD j d ∨ x ∈ l.eraseIdx j)
  | [], j, h => by simp at h
  | a :: l, 0, h => by simp
  | a :: l, j + 1, h => by
    have ih := mem_erase d x (l := l) (j := j) (by simpa using h)
    rw [List.eraseIdx_cons_succ, List.mem_cons, List.mem_cons, show (a :: l).getD (j + 1) d = l.getD j d from rfl, ih]
    constructor
    · rintro (h | h | h)
      · exact .inr (.inl h)
      · exact .inl h
      · exact .inr (.inr h)
    · rintro (h | h | h)
      · exact .inr (.inl h)
      · exact .inl h
      · exact .inr (.inr h)
theorem RowsL.upd2 {H : Hp} {l : Addr} {vs us : List V} {T : List (List Int)} {r : List V} (h : RowsL H vs T) (hl : H l = some (.lst us)) (hr : ∀ a ∈ vs, a ≠ .ref l) : RowsL (upd H l (.lst r)) vs T := by
  have key : ∀ (ws : List V) (B : List (List Int)), (∀ v ∈ ws, v ≠ .ref l) → RowsL H ws B → RowsL (upd H l (.lst r)) ws B := by
    intro ws B hm hb
    induction hb with
    | nil => exact .nil
    | cons q t ih =>
      obtain ⟨a, rfl, ha⟩ := q
      exact .cons ⟨a, rfl, by rw [upd_ne (fun e => hm _ List.mem_cons_self (by rw [e]))]; exact ha⟩ (ih fun v hv => hm v (List.mem_cons_of_mem _ hv))
  exact key vs T hr h
/-- rows that stood ahead of a new list are other objects -/
theorem RowsL.old {H H' : Hp} {l : Addr} {vs : List V} {T : List (List Int)} (h : RowsL H vs T) (hn : H l = none) : ∀ a ∈ vs, a ≠ .ref l := by
  intro v hv e
  obtain ⟨i, hi, q⟩ := List.mem_iff_getElem.mp hv
  obtain ⟨x, hx, a, rfl, ha⟩ := paired_get h (by rw [← paired_len h]; exact hi : i < T.length) []
  rw [List.getElem?_eq_getElem hi] at hx
  have e2 := Option.some.inj hx
  rw [q, e] at e2
  have e3 : l = a := V.ref.inj e2
  rw [← e3, hn] at ha
  cases ha
theorem ok_turned (T : Txt mg) (F : FnAt K mg "_law_turned" sTurned ["_law_bag_here", "_law_things"]) (GD : DefOk P w K mg base CX0 1 "_law_draw" ["_law_bag_here", "_law_limit"] spDraw) : DefOk P w K mg base CX0 2 "_law_turned" ["_law_bag_here", "_law_things"] spTurned := by
  refine mk0 F scTu (fun vs H Q E h => ?_) (fun f cdv A outer s H vs Q E hr h => ?_)
  · obtain ⟨b, c, a, xs, B, rfl, _⟩ := h
    rfl
  · obtain ⟨b, c, a, xs, B, rfl, G, nab, ha, hB, hl, hQ⟩ := h
    refine ⟨_, (pss_cons (ps_par (i := 2) (j := 3) rfl scTu.nd rfl rfl (by decide) rfl rfl (pa_cons (pe_callTy call_list_of (by rfl) T.list_ bt_list (pa_cons (pv 1) pa_nil)) (pa_cons (pe_lst pa_nil) pa_nil)) (by rfl))
      (pss_cons (ps_for PassesOwn.never rfl (pi_range1 (by rfl) T.range_ (pa_cons (pe_callB call_len_seq (by rfl) T.len_ boot_len (pa_cons (pv 1) pa_nil)) pa_nil)) (pg_name (i := 4) scTu.nd rfl (.inl rfl))
      (pss_one (ps_expr (pe_bm PySem.F.plainAttrs_list PySem.F.slot_list_append PySem.F.type_list_append mt_append (pv 3) (pa_cons (pe_bm PySem.F.plainAttrs_list PySem.F.slot_list_pop PySem.F.type_list_pop mt_popAt (pv 2) (pa_cons (pe_callD GD hr pass0 (pa_cons (pv 0) (pa_cons (pe_callB call_len_seq (by rfl) T.len_ boot_len (pa_cons (pv 2) pa_nil)) pa_nil))) pa_nil)) pa_nil)))))
      (pss_one (ps_ret (pv 3))))), ?_⟩
    have hxl : xs.length = B.length := paired_len hB
    refine ⟨_, rfl, a, xs, rfl, .inl (SqL.of ha), fun p np => ⟨(by show 0 ≤ sizeLine; exact Nat.zero_le _), fun g ng => ⟨_, _, rfl, ?_⟩⟩⟩
    have npg : p ≠ g := ne_of_none upd_same ng
    have ng0 : H g = none := by rw [upd_ne npg.symm] at ng; exact ng
    have sm1 : Same H (upd (upd H p (.lst xs)) g (.lst [])) := (same_upd np).trans (same_upd ng)
    refine ⟨_, rfl, a, xs, rfl, .inl (SqL.of (sm1 _ _ ha)), (xs.length : Int), rfl, by omega, by omega, ?_⟩
    refine for_range (lo := 0) (n := ((xs.length : Int)).toNat) (fun k σ H' => Ext b c H H' ∧ ∃ (vr vf : List V) (Br Bf : List (List Int)) (y : Option V), σ = [some (.ref b), some (.ref a), some (.ref p), some (.ref g), y] ∧ H' p = some (.lst vr) ∧ H' g = some (.lst vf) ∧ RowsL H' vr Br ∧ RowsL H' vf Bf ∧
      Br.length + k = B.length ∧ Bf.length = k ∧ (∀ v ∈ vr, v ≠ .ref p ∧ v ≠ .ref g) ∧ (∀ v ∈ vf, v ≠ .ref p ∧ v ≠ .ref g) ∧ ∀ r, r ∈ B ↔ r ∈ Br ∨ r ∈ Bf) ⟨Ext.of G sm1, xs, [], B, [], none, rfl, by rw [upd_ne npg, upd_same], upd_same, hB.same sm1, .nil, by omega, rfl, fun v hv => ⟨RowsL.old (H' := H) hB np v hv, RowsL.old (H' := H) hB ng0 v hv⟩, (fun v hv => by cases hv), fun r => by simp⟩ ?_ ?_
    · rintro k σ H' hk ⟨x, vr, vf, Br, Bf, y, rfl, hp, hg, hBr, hBf, l1, l2, n1, n2, mm⟩
      have hrl : vr.length = Br.length := paired_len hBr
      refine ⟨_, rfl, .inl ⟨rfl, _, SqL.of hg⟩, ?_⟩
      refine ⟨_, rfl, .inl ⟨rfl, _, SqL.of hp⟩, ?_⟩
      refine ⟨_, rfl, _, rfl, p, vr, rfl, .inl (SqL.of hp), b, c, (vr.length : Int), rfl, x.g1, by omega, by omega, fun d H2 d0 d1 x2 => ?_⟩
      have npb : p ≠ b := (G.off np).1
      have ngb : g ≠ b := (G.off ng0).1
      have hp2 := x2.but _ _ npb hp
      have hg2 := x2.but _ _ ngb hg
      have hd : d.toNat < Br.length := by omega
      obtain ⟨v, hv, o, rfl, ho⟩ := paired_get (x2.rowsL hBr) hd []
      have hmem : V.ref o ∈ vr := List.mem_of_getElem? hv
      obtain ⟨no1, no2⟩ := n1 _ hmem
      refine ⟨p, vr, d, d.toNat, .ref o, rfl, rfl, hp2, by omega, by omega, ?_, hv, ?_⟩
      · have e : d = ((d.toNat : Nat) : Int) := by omega
        have := (ixN_seq (ixN_nat (n := vr.length) (j := d.toNat) (by omega))).1
        rw [← e] at this
        exact this
      · have hg3 : (upd H2 p (.lst (vr.eraseIdx d.toNat))) g = some (.lst vf) := by rw [upd_ne npg.symm]; exact hg2
        refine ⟨g, vf, .ref o, rfl, rfl, hg3, ?_, ?_⟩
        · have := paired_len hBf
          rw [this]
          exact line_gt (by omega)
        · have sub : ∀ v ∈ vr.eraseIdx d.toNat, v ∈ vr := fun v hv => List.mem_of_mem_eraseIdx hv
          have k1 : RowsL (upd H2 p (.lst (vr.eraseIdx d.toNat))) (vr.eraseIdx d.toNat) (Br.eraseIdx d.toNat) := RowsL.upd2 (paired_erase d.toNat (x2.rowsL hBr)) hp2 fun v hv => (n1 v (sub v hv)).1
          have k2 : RowsL (upd H2 p (.lst (vr.eraseIdx d.toNat))) vf Bf := RowsL.upd2 (x2.rowsL hBf) hp2 fun v hv => (n2 v hv).1
          refine ⟨((x.trans x2).mut np).mut ng0, vr.eraseIdx d.toNat, vf ++ [.ref o], Br.eraseIdx d.toNat, Bf ++ [Br.getD d.toNat []], _, rfl, by rw [upd_ne npg, upd_same], upd_same, RowsL.upd2 k1 hg3 fun v hv => (n1 v (sub v hv)).2, ?_, ?_, ?_, fun v hv => n1 v (sub v hv), fun v hv => ?_, fun r => ?_⟩
          · refine paired_snoc (RowsL.upd2 k2 hg3 fun v hv => (n2 v hv).2) ⟨o, rfl, ?_⟩
            rw [upd_ne (fun e => no2 (by rw [e])), upd_ne (fun e => no1 (by rw [e]))]
            exact ho
          · rw [List.length_eraseIdx, if_pos hd]; omega
          · rw [List.length_append, l2]; rfl
          · rcases List.mem_append.mp hv with z | z
            · exact n2 v z
            · have : v = .ref o := by simpa using z
              rw [this]; exact ⟨no1, no2⟩
          · rw [mm r, mem_erase [] r hd, List.mem_append, List.mem_singleton]
            constructor
            · rintro ((h | h) | h)
              · exact .inr (.inr h)
              · exact .inl h
              · exact .inr (.inl h)
            · rintro (h | h | h)
              · exact .inl (.inr h)
              · exact .inr h
              · exact .inl (.inl h)
    · rintro σ H' ⟨x, vr, vf, Br, Bf, y, rfl, hp, hg, hBr, hBf, l1, l2, n1, n2, mm⟩
      have e0 : Br = [] := by
        cases e : Br with
        | nil => rfl
        | cons z r => rw [e] at l1; simp at l1; omega
      refine ⟨_, rfl, hQ H' g vf Bf x ng0 hg hBf (by omega) fun r => ?_⟩
      rw [mm r, e0]
      simp
end
end K16

set_option Elab.async false
set_option linter.all false
set_option maxRecDepth 100000
set_option maxHeartbeats 4000000
/-! _law_like. -/
namespace K16
open PySem PySem.Spec PyProof.Rows L2
/-! ### kinds -/
inductive Kd (K : PySem.W.Frag) (H : Hp) : V → String → Prop
  | non : Kd K H .non "NoneType"
  | int (i : Int) : Kd K H (.int i) "int"
  | bl (b : Bool) : Kd K H (.bl b) "bool"
  | str (x : Str) : Kd K H (.str x) "str"
  | lst {a : Addr} {xs : List V} (h : SqL K H a xs) : Kd K H (.ref a) "list"
  | tup {a : Addr} {xs : List V} (h : SqT K H a xs) : Kd K H (.ref a) "tuple"
  | dct {a : Addr} {kvs : List (Key × V)} (h : H a = some (.dK kvs)) : Kd K H (.ref a) "dict"
theorem Kd.same {K : PySem.W.Frag} {H H' : Hp} {x : V} {T : String} (s : Same H H') (k : Kd K H x T) : Kd K H' x T := by
  cases k with
  | non => exact .non
  | int i => exact .int i
  | bl b => exact .bl b
  | str x => exact .str x
  | lst h => exact .lst (s.seq h)
  | tup h => exact .tup (same_tup s h)
  | dct h => exact .dct (s _ _ h)
theorem Kd.ty {K : PySem.W.Frag} {H : Hp} {x : V} {T : String} (k : Kd K H x T) : TyX K H x (.type T) := by
  cases k with
  | non => exact .base .non
  | int i => exact .base (.int i)
  | bl b => exact .base (.bl b)
  | str x => exact .base (.str x)
  | lst h =>
    rcases h with (h | ⟨o, h⟩) | ⟨o, its, n, h1, h2, _⟩
    · exact .base (.lst h)
    · exact .base (.frz h)
    · exact .kList h1 h2
  | tup h =>
    rcases h with (h | ⟨o, h⟩) | ⟨o, its, n, h1, h2, _⟩
    · exact .base (.tup h)
    · exact .fTuple h
    · exact .kTuple h1 h2
  | dct h => exact .base (.dK h)
theorem Kd.names {K : PySem.W.Frag} {H : Hp} {x : V} {T : String} (k : Kd K H x T) : T ∈ ["NoneType", "int", "bool", "str", "list", "tuple", "dict"] := by cases k <;> decide
/-- whether a value is of a kind -/
theorem kit_kd {K : PySem.W.Frag} {T U : String} (h : T ∈ ["NoneType", "int", "bool", "str", "list", "tuple", "dict"]) (hu : U ∈ ["int", "bool", "str", "list", "tuple", "dict"]) : ∃ b, PySem.W.kitOne K (.type T) (.type U) = some b := by
  have all : (["NoneType", "int", "bool", "str", "list", "tuple", "dict"].all fun T => ["int", "bool", "str", "list", "tuple", "dict"].all fun U => (kitB T U).isSome) = true := by decide +kernel
  have a := List.all_eq_true.mp (List.all_eq_true.mp all T h) U hu
  obtain ⟨b, e⟩ := Option.isSome_iff_exists.mp a
  exact ⟨b, kit_ty e⟩
def isSeq (T : String) : Bool := T == "list" || T == "tuple"
theorem kit_seq {K : PySem.W.Frag} {T : String} (h : T ∈ ["NoneType", "int", "bool", "str", "list", "tuple", "dict"]) : PySem.W.kitAny K (.type T) [.type "list", .type "tuple"] = some (isSeq T) := by
  have key : ∀ b1 b2 : Bool, kitB T "list" = some b1 → kitB T "tuple" = some b2 → (b1 || b2) = isSeq T → PySem.W.kitAny K (.type T) [.type "list", .type "tuple"] = some (isSeq T) := fun b1 b2 h1 h2 e => by
    refine kitAny_cons (kit_ty h1) (fun e1 => ?_) (fun e1 => by rw [← e, e1]; rfl)
    refine kitAny_cons (kit_ty h2) (fun e2 => ?_) (fun e2 => by rw [← e, e2, Bool.or_true])
    rw [← e, e1, e2]
    exact kitAny_nil
  have all : (["NoneType", "int", "bool", "str", "list", "tuple", "dict"].all fun T => (match kitB T "list", kitB T "tuple" with
    | some b1, some b2 => (b1 || b2) == isSeq T
    | _, _ => false)) = true := by decide +kernel
  have a := List.all_eq_true.mp all T h
  cases e1 : kitB T "list" with
  | none => rw [e1] at a; cases a
  | some b1 =>
    cases e2 : kitB T "tuple" with
    | none => rw [e1, e2] at a; cases a
    | some b2 =>
      rw [e1, e2] at a
      exact key b1 b2 e1 e2 (eq_of_beq a)
/-! ### alike -/
/-- equal things that hold no others -/
def Flat0 (H : Hp) (x y : V) : Prop := x = y ∧ (x = .non ∨ (∃ i, x = .int i) ∨ (∃ b, x = .bl b) ∨ (∃ s, x = .str s) ∨ ∃ a, x = .ref a ∧ H a = some (.dK [(.inl 2, .int 2)]))
/-- two lists, two tuples of things that are E -/
def SeqA (K : PySem.W.Frag) (H : Hp) (E : V → V → Prop) (x y : V) : Prop :=
  ∃ a b xs ys, x = .ref a ∧ y = .ref b ∧ ((SqL K H a xs ∧ SqL K H b ys) ∨ (SqT K H a xs ∧ SqT K H b ys)) ∧ Paired E xs ys ∧ xs.length ≤ 1000
def Alike (K : PySem.W.Frag) (H : Hp) : Nat → V → V → Prop
  | 0 => fun _ _ => False
  | n + 1 => fun x y => Flat0 H x y ∨ SeqA K H (Alike K H n) x y
theorem Alike.same {K : PySem.W.Frag} {H H' : Hp} (s : Same H H') : ∀ {n : Nat} {x y : V}, Alike K H n x y → Alike K H' n x y
  | 0, _, _, h => h
  | n + 1, x, y, h => by
    rcases h with ⟨e, h⟩ | ⟨a, b, xs, ys, e1, e2, h, p, l⟩
    · refine .inl ⟨e, ?_⟩
      rcases h with h | h | h | h | ⟨a, h1, h2⟩
      · exact .inl h
      · exact .inr (.inl h)
      · exact .inr (.inr (.inl h))
      · exact .inr (.inr (.inr (.inl h)))
      · exact .inr (.inr (.inr (.inr ⟨a, h1, s _ _ h2⟩)))
    · refine .inr ⟨a, b, xs, ys, e1, e2, ?_, paired_imp (fun _ _ h => Alike.same s h) p, l⟩
      rcases h with ⟨h1, h2⟩ | ⟨h1, h2⟩
      · exact .inl ⟨s.seq h1, s.seq h2⟩
      · exact .inr ⟨same_tup s h1, same_tup s h2⟩
theorem Flat0.kind {K : PySem.W.Frag} {H : Hp} {x y : V} (h : Flat0 H x y) : ∃ T, Kd K H x T ∧ isSeq T = false := by
  rcases h.2 with rfl | ⟨i, rfl⟩ | ⟨b, rfl⟩ | ⟨s, rfl⟩ | ⟨a, rfl, hd⟩
  · exact ⟨_, .non, rfl⟩
  · exact ⟨_, .int i, rfl⟩
  · exact ⟨_, .bl b, rfl⟩
  · exact ⟨_, .str s, rfl⟩
  · exact ⟨_, .dct hd, rfl⟩
section
variable {P : Program} {w : World} {K : PySem.W.Frag} {mg : Str → Option Value} {base : Heap}
theorem scLi : FnScope ["_law_told", "_law_due_here", "_law_a", "_law_b"] ["_law_told", "_law_due_here"] (defScope sLike) := ⟨rfl, rfl, rfl, by decide +kernel, rfl, by decide +kernel, by decide +kernel⟩
def spLike (K : PySem.W.Frag) (n : Nat) : Sp := fun vs H Q _ => ∃ x y, vs = [x, y] ∧ Alike K H n x y ∧ ∀ H', Same H H' → Q (.bl true) H'
/-- two things of one kind -/
theorem ne_kind {σ : St} {H : Hp} {x y : V} {T U : String} {Q : VK} (h0 : σ[0]? = some (some x)) (h1 : σ[1]? = some (some y)) (kx : Kd K H x T) (ky : Kd K H y T) (hu : U ∈ ["int", "bool", "str", "list", "tuple", "dict"]) (q : Q (.bl false) H) :
    tOp rNe (tCB (rIsi K) (tCons (tVar 0) (tCons (tC (.ty U)) tNil))) (tCB (rIsi K) (tCons (tVar 1) (tCons (tC (.ty U)) tNil))) σ H Q := by
  obtain ⟨b, hb⟩ := kit_kd (K := K) kx.names hu
  exact ⟨x, h0, x, .ty U, .type T, .type U, b, rfl, .ty U, kx.ty, hb, y, h1, y, .ty U, .type T, .type U, b, rfl, .ty U, ky.ty, hb, rfl, by rw [decide_eq_true rfl]; exact q⟩
theorem ok_like (T : Txt mg) (F : FnAt K mg "_law_like" sLike ["_law_told", "_law_due_here"]) : ∀ n, DefOk P w K mg base CX0 (1 + n) "_law_like" ["_law_told", "_law_due_here"] (spLike K n)
  | 0 => by
    refine mk0 F scLi (fun vs H Q E h => ?_) (fun f cdv A outer s H vs Q E hr h => ?_)
    · obtain ⟨x, y, rfl, _⟩ := h
      rfl
    · obtain ⟨x, y, rfl, hA, _⟩ := h
      exact hA.elim
  | n + 1 => by
    have GL := ok_like T F n
    refine mk0 (k := 1 + n) F scLi (fun vs H Q E h => ?_) (fun f cdv A outer s H vs Q E hr h => ?_)
    · obtain ⟨x, y, rfl, _⟩ := h
      rfl
    · obtain ⟨x, y, rfl, hA, hQ⟩ := h
      refine ⟨_, (pss_cons (ps_if (PW.pt (pw_or (pt_cmpR op_isN (pv 1) pe_non (nomark _)) (pw_or1 (pt_cmpR op_isN (pv 0) pe_non (nomark _))))) (pss_one (ps_ret (pe_and (pe_cmpR op_isN (pv 1) pe_non (nomark _)) (pe_one (pe_cmpR op_isN (pv 0) pe_non (nomark _)))))) pss_nil)
      (pss_cons (ps_if (pt_val (pe_callB call_isiT (by rfl) T.isi bb_isi (pa_cons (pv 1) (pa_cons (pe_tup (pa_cons (pe_ty T.list_ bt_list) (pa_cons (pe_ty T.tuple_ bt_tuple) pa_nil))) pa_nil)))) (pss_cons (ps_if (PW.pt (pw_or (pt_cmpR op_ne (pe_callB call_isi (by rfl) T.isi bb_isi (pa_cons (pv 0) (pa_cons (pe_ty T.list_ bt_list) pa_nil))) (pe_callB call_isi (by rfl) T.isi bb_isi (pa_cons (pv 1) (pa_cons (pe_ty T.list_ bt_list) pa_nil))) (nomark _)) (pw_or1 (pt_cmpR op_ne (pe_callB call_isi (by rfl) T.isi bb_isi (pa_cons (pv 0) (pa_cons (pe_ty T.tuple_ bt_tuple) pa_nil))) (pe_callB call_isi (by rfl) T.isi bb_isi (pa_cons (pv 1) (pa_cons (pe_ty T.tuple_ bt_tuple) pa_nil))) (nomark _))))) (pss_one (ps_ret pe_bl)) pss_nil)
      (pss_one (ps_ret (pe_and (pe_cmpR op_eq (pe_callB call_len_seq (by rfl) T.len_ boot_len (pa_cons (pv 0) pa_nil)) (pe_callB call_len_seq (by rfl) T.len_ boot_len (pa_cons (pv 1) pa_nil)) (nomark _)) (pe_one (pe_callB (cr_all rfl) (by rfl) T.all_ bb_all (pa_cons (pe_lc (own := [("_law_a", 2), ("_law_b", 3)]) (g := (gTup K 2 (gCons (gName 2) (gCons (gName 3) gNil)))) (tt := tYes) rfl scLi.nd (RZ.pi_zipA (by rfl) T.zip_ (pa_cons (pv 0) (pa_cons (pv 1) pa_nil))) (blkOk_by (N := ["_law_told", "_law_due_here", "_law_a", "_law_b"]) (sc := defScope sLike) (by decide +kernel)) (fun _ _ _ _ _ => (pg_tup rfl (by exact pgs_cons (by exact pg_name (i := 2) scLi.nd rfl (Or.inl rfl)) (by exact pgs_cons (by exact pg_name (i := 3) scLi.nd rfl (Or.inl rfl)) pgs_nil)))) (fun _ _ _ _ _ => pts_nil) (fun _ _ _ _ _ => (pe_callD GL hr pass0 (pa_cons (pv 2) (pa_cons (pv 3) pa_nil))))) pa_nil))))))) pss_nil)
      (pss_cons (ps_if (PW.pt (pw_or (pt_val (pe_callB call_isiT (by rfl) T.isi bb_isi (pa_cons (pv 0) (pa_cons (pe_tup (pa_cons (pe_ty T.list_ bt_list) (pa_cons (pe_ty T.tuple_ bt_tuple) pa_nil))) pa_nil)))) (pw_or1 (pt_cmpR op_ne (pe_callB call_isi (by rfl) T.isi bb_isi (pa_cons (pv 0) (pa_cons (pe_ty T.bool_ bt_bool) pa_nil))) (pe_callB call_isi (by rfl) T.isi bb_isi (pa_cons (pv 1) (pa_cons (pe_ty T.bool_ bt_bool) pa_nil))) (nomark _))))) (pss_one (ps_ret pe_bl)) pss_nil)
      (pss_cons (ps_if (PW.pt (pw_or (pt_cmpR op_ne (pe_callB call_isi (by rfl) T.isi bb_isi (pa_cons (pv 0) (pa_cons (pe_ty T.str_ bt_str) pa_nil))) (pe_callB call_isi (by rfl) T.isi bb_isi (pa_cons (pv 1) (pa_cons (pe_ty T.str_ bt_str) pa_nil))) (nomark _)) (pw_or1 (pt_cmpR op_ne (pe_callB call_isi (by rfl) T.isi bb_isi (pa_cons (pv 0) (pa_cons (pe_ty T.int_ bt_int) pa_nil))) (pe_callB call_isi (by rfl) T.isi bb_isi (pa_cons (pv 1) (pa_cons (pe_ty T.int_ bt_int) pa_nil))) (nomark _))))) (pss_one (ps_ret pe_bl)) pss_nil)
      (pss_cons (ps_if (pt_cmpR op_ne (pe_callB call_isi (by rfl) T.isi bb_isi (pa_cons (pv 0) (pa_cons (pe_ty T.dict_ bt_dict) pa_nil))) (pe_callB call_isi (by rfl) T.isi bb_isi (pa_cons (pv 1) (pa_cons (pe_ty T.dict_ bt_dict) pa_nil))) (nomark _)) (pss_one (ps_ret pe_bl)) pss_nil)
      (pss_one (ps_ret (pe_callTy call_bool1 (by rfl) T.bool_ bt_bool (pa_cons (pe_cmpR (OpR.or op_eq (op_eqV hr.units)) (pv 0) (pv 1) (nomark _)) pa_nil))))))))), ?_⟩
      rcases hA with hF | ⟨a, b, xs, ys, rfl, rfl, hS, hP, hl⟩
      · obtain ⟨Tn, k0, nseq⟩ := hF.kind (K := K)
        obtain ⟨rfl, hc⟩ := hF
        by_cases hx : x = .non
        · subst hx
          refine ⟨_, rfl, rfl, _, rfl, ?_⟩
          refine iteT (iteT ⟨_, rfl, rfl, _, rfl, iteT ⟨_, rfl, rfl, hQ H (Same.refl H)⟩⟩)
        · have dn : decide (x = V.non) = false := decide_eq_false hx
          refine ⟨_, rfl, rfl, _, rfl, ?_⟩
          rw [dn]
          refine iteF ⟨_, rfl, rfl, _, rfl, ?_⟩
          rw [dn]
          refine iteF ?_
          -- no list, no tuple
          refine ⟨_, rfl, (by show 2 ≤ sizeLine; exact line_ge (by decide)), fun p np => ⟨_, p, [.ty "list", .ty "tuple"], .type Tn, [.type "list", .type "tuple"], isSeq Tn, rfl, upd_same, .cons (.ty _) (.cons (.ty _) .nil), (k0.same (same_upd np)).ty, kit_seq k0.names, _, rfl, ?_⟩⟩
          rw [nseq]
          refine iteF ?_
          have s1 : Same H (upd H p (.tup [.ty "list", .ty "tuple"])) := same_upd np
          refine ⟨_, rfl, (by show 2 ≤ sizeLine; exact line_ge (by decide)), fun p2 np2 => ⟨_, p2, [.ty "list", .ty "tuple"], .type Tn, [.type "list", .type "tuple"], isSeq Tn, rfl, upd_same, .cons (.ty _) (.cons (.ty _) .nil), ((k0.same s1).same (same_upd np2)).ty, kit_seq k0.names, _, rfl, ?_⟩⟩
          rw [nseq]
          have s2 : Same H (upd (upd H p (.tup [.ty "list", .ty "tuple"])) p2 (.tup [.ty "list", .ty "tuple"])) := s1.trans (same_upd np2)
          have k2 := k0.same s2
          refine iteF (ne_kind rfl rfl k2 k2 (by decide) ⟨_, rfl, iteF ?_⟩)
          refine ne_kind rfl rfl k2 k2 (by decide) ⟨_, rfl, iteF (ne_kind rfl rfl k2 k2 (by decide) ⟨_, rfl, iteF ?_⟩)⟩
          refine ne_kind rfl rfl k2 k2 (by decide) ⟨_, rfl, iteF ?_⟩
          refine ⟨_, rfl, _, rfl, ?_⟩
          have fin : Q (.bl true) (upd (upd H p (.tup [.ty "list", .ty "tuple"])) p2 (.tup [.ty "list", .ty "tuple"])) := hQ _ s2
          have dt : decide (x = x) = true := decide_eq_true rfl
          rcases hc with rfl | ⟨i, rfl⟩ | ⟨b, rfl⟩ | ⟨s, rfl⟩ | ⟨a, rfl, hd⟩
          · exact absurd rfl hx
          · exact .inl ⟨rfl, .inr ⟨true, by rw [dt], fin⟩⟩
          · exact .inl ⟨rfl, .inr ⟨true, by rw [dt], fin⟩⟩
          · exact .inl ⟨rfl, .inr ⟨true, by rw [dt], fin⟩⟩
          · refine .inr ⟨1, by decide, .inr ⟨a, a, _, _, rfl, rfl, s2 _ _ hd, s2 _ _ hd, rfl, fun q hq => ?_⟩, .inr ⟨true, rfl, fin⟩⟩
            have e : q = (.inl 2, .int 2) := by simpa using hq
            subst e
            exact ⟨.int 2, by decide, .inl ⟨rfl, rfl⟩⟩
      · obtain ⟨Tn, ka, kb, seq⟩ : ∃ Tn, Kd K H (.ref a) Tn ∧ Kd K H (.ref b) Tn ∧ isSeq Tn = true := by
          rcases hS with ⟨h1, h2⟩ | ⟨h1, h2⟩
          · exact ⟨_, .lst h1, .lst h2, rfl⟩
          · exact ⟨_, .tup h1, .tup h2, rfl⟩
        have hxy : xs.length = ys.length := paired_len hP
        refine ⟨_, rfl, rfl, _, rfl, iteF ⟨_, rfl, rfl, _, rfl, iteF ?_⟩⟩
        refine ⟨_, rfl, (by show 2 ≤ sizeLine; exact line_ge (by decide)), fun p np => ⟨_, p, [.ty "list", .ty "tuple"], .type Tn, [.type "list", .type "tuple"], isSeq Tn, rfl, upd_same, .cons (.ty _) (.cons (.ty _) .nil), (kb.same (same_upd np)).ty, kit_seq kb.names, _, rfl, ?_⟩⟩
        rw [seq]
        refine iteT ?_
        have s1 : Same H (upd H p (.tup [.ty "list", .ty "tuple"])) := same_upd np
        generalize hH1 : upd H p (.tup [.ty "list", .ty "tuple"]) = H1 at s1 ⊢
        refine ne_kind rfl rfl (ka.same s1) (kb.same s1) (by decide) ⟨_, rfl, iteF (ne_kind rfl rfl (ka.same s1) (kb.same s1) (by decide) ⟨_, rfl, iteF ?_⟩)⟩
        have hS1 : (SqL K H1 a xs ∧ SqL K H1 b ys) ∨ (SqT K H1 a xs ∧ SqT K H1 b ys) := hS.imp (fun h => ⟨s1.seq h.1, s1.seq h.2⟩) (fun h => ⟨same_tup s1 h.1, same_tup s1 h.2⟩)
        refine ⟨_, rfl, a, xs, rfl, hS1.imp (·.1) (·.1), _, rfl, b, ys, rfl, hS1.imp (·.2) (·.2), rfl, _, rfl, ?_⟩
        rw [hxy, decide_eq_true rfl]
        refine iteT ?_
        have mk : ∀ (J : It) (w : Walk J xs.length (Same H1) (YPair (fun i => xs[i]?) (fun i => ys[i]?))) (D : Addr) (nD : H1 D = none) (Qd : Hp → Prop), (∀ H', Same H1 H' → H' D = some (.lst ((List.replicate xs.length true).map V.bl)) → Qd H') →
            ∃ W : Nat → Nat → Hp → Prop, (∃ m, W 0 m (upd H1 D (.lst []))) ∧ ∀ i m H, W i m H →
              (J.stop i H ∧ Qd H) ∨ (J.go i H ∧ ∃ Nx : Hp → Prop, (∀ H', Nx H' → ∃ m', m' < m ∧ W (i + 1) m' H') ∧ ∀ x H', J.yld i H x H' → gTup K 2 (gCons (gName 2) (gCons (gName 3) gNil)) x (wipe (start ["_law_told", "_law_due_here", "_law_a", "_law_b"] [.ref a, .ref b]) [2, 3]) H' fun σ2 H2 => wipe σ2 [2, 3] = wipe (start ["_law_told", "_law_due_here", "_law_a", "_law_b"] [.ref a, .ref b]) [2, 3] ∧ tYes σ2 H2 fun b H3 =>
                if b = true then tCallD (spLike K n) E0 (tCons (tVar 2) (tCons (tVar 3) tNil)) σ2 H3 fun y H4 => ∃ acc, H4 D = some (.lst acc) ∧ acc.length < sizeLine ∧ Nx (upd H4 D (.lst (acc ++ [y]))) else Nx H3) := by
          intro J w D nD Qd hd
          refine lc_it w (fun i H' => Same H1 H' ∧ H' D = some (.lst ((List.replicate i true).map V.bl))) ⟨same_upd nD, upd_same⟩ (fun i H' _ h => h.1) ?_ ?_
          · rintro i v H' H2 hi ⟨sm, hz⟩ ⟨q, u, z, rfl, nq, rfl, ex, ey⟩
            have al : Alike K H n u z := paired_at hP ex ey
            have s3 : Same H1 (upd H' q (.tup [u, z])) := Same.trans sm (same_upd nq)
            refine ⟨q, _, rfl, SqT.of upd_same, rfl, _, _, rfl, _, _, rfl, rfl, rfl, _, rfl, _, rfl, u, z, rfl, Alike.same (s1.trans s3) al, fun H3 sm3 => ?_⟩
            have hD3 : H3 D = some (.lst ((List.replicate i true).map V.bl)) := sm3 _ _ (by rw [upd_ne (ne_of_none hz nq)]; exact hz)
            refine ⟨_, hD3, ?_, same_mut (Same.trans s3 sm3) nD, ?_⟩
            · rw [List.length_map, List.length_replicate]
              exact line_gt (by omega)
            · rw [upd_same, List.replicate_succ', List.map_append]
              rfl
          · rintro H' ⟨sm, hz⟩
            exact hd H' sm hz
        have fin : ∀ (D : Addr) (H' : Hp), Same H1 H' → H' D = some (.lst ((List.replicate xs.length true).map V.bl)) → rAll K [.ref D] H' Q := fun D H' sm hz => by
          refine ⟨D, _, rfl, SqL.of hz, ?_⟩
          have : (List.replicate xs.length true).all id = true := by simp
          rw [this]
          exact hQ H' (s1.trans sm)
        refine ⟨_, rfl, _, rfl, a, b, xs, ys, rfl, ?_⟩
        rcases hS1 with ⟨h1, h2⟩ | ⟨h1, h2⟩
        · exact .inl ⟨h1, h2, fun D nD => mk _ ((walk_zip (n := xs.length) (by omega)).mono (fun H' (s : Same H1 H') => ⟨s.seq h1, s.seq h2⟩) (fun i H x H' _ _ h => h)) D nD _ (fun H' sm hz => fin D H' sm hz)⟩
        · exact .inr ⟨h1, h2, fun D nD => mk _ ((walk_zipT (n := xs.length) (by omega)).mono (fun H' (s : Same H1 H') => ⟨same_tup s h1, same_tup s h2⟩) (fun i H x H' _ _ h => h)) D nD _ (fun H' sm hz => fin D H' sm hz)⟩
end
end K16

set_option Elab.async false
set_option linter.all false
set_option maxRecDepth 100000
set_option maxHeartbeats 4000000
/-! _law_all, _law_meets, _law_last. -/
namespace K16
open PySem PySem.Spec PyProof.Rows L2
/-! ### all tuples -/
theorem row_snoc {q : Int} {k : Nat} {r : List Int} : Row q (k + 1) r ↔ ∃ s y, Row q k s ∧ Pc q y ∧ r = s ++ [y] := by
  constructor
  · intro h
    have hne : r ≠ [] := fun e => by rw [e] at h; exact absurd h.1 (by simp)
    refine ⟨r.dropLast, r.getLast hne, ⟨by rw [List.length_dropLast, h.1]; rfl, fun p hp => h.2 p (List.dropLast_subset r hp)⟩, h.2 _ (List.getLast_mem hne), (List.dropLast_concat_getLast hne).symm⟩
  · rintro ⟨s, y, hs, hy, rfl⟩
    refine ⟨by rw [List.length_append, hs.1]; rfl, fun p hp => ?_⟩
    rcases List.mem_append.mp hp with z | z
    · exact hs.2 p z
    · have : p = y := by simpa using z
      rw [this]; exact hy
/-- the longer ones: by the last pieces below x -/
def Longer (L : List (List Int)) (x : Nat) (M : List (List Int)) : Prop := (∀ r, r ∈ M ↔ ∃ s y, s ∈ L ∧ y < x ∧ r = s ++ [((y : Nat) : Int)]) ∧ M.length = x * L.length
theorem Longer.zero {L : List (List Int)} : Longer L 0 [] := ⟨fun r => ⟨fun h => (by cases h), fun ⟨s, y, _, h, _⟩ => by omega⟩, by simp⟩
theorem Longer.more {L M : List (List Int)} {x : Nat} (h : Longer L x M) : Longer L (x + 1) (M ++ L.map fun s => s ++ [((x : Nat) : Int)]) := by
  refine ⟨fun r => ?_, by rw [List.length_append, List.length_map, h.2, Nat.add_mul, Nat.one_mul]⟩
  rw [List.mem_append, h.1, List.mem_map]
  constructor
  · rintro (⟨s, y, h1, h2, h3⟩ | ⟨s, h1, h2⟩)
    · exact ⟨s, y, h1, by omega, h3⟩
    · exact ⟨s, x, h1, by omega, h2.symm⟩
  · rintro ⟨s, y, h1, h2, h3⟩
    by_cases e : y = x
    · exact .inr ⟨s, h1, by rw [← e]; exact h3.symm⟩
    · exact .inl ⟨s, y, h1, by omega, h3⟩
theorem Longer.done {q : Nat} {k : Nat} {L M : List (List Int)} (hL : ∀ x, x ∈ L ↔ Row q k x) (h : Longer L q M) : ∀ x, x ∈ M ↔ Row q (k + 1) x := fun x => by
  rw [h.1, row_snoc]
  constructor
  · rintro ⟨s, y, h1, h2, h3⟩
    exact ⟨s, y, (hL s).mp h1, ⟨by omega, by omega⟩, h3⟩
  · rintro ⟨s, y, h1, h2, h3⟩
    have := h2.1
    have := h2.2
    exact ⟨s, y.toNat, (hL s).mpr h1, by omega, by rw [h3, show ((y.toNat : Nat) : Int) = y by omega]⟩
theorem RowsT.list {K : PySem.W.Frag} {H : Hp} {D : Addr} {us ws vs : List V} {T : List (List Int)} (h : RowsT K H vs T) (hd : H D = some (.lst us)) : RowsT K (upd H D (.lst ws)) vs T :=
  paired_imp (fun _ _ ⟨a, e, k⟩ => ⟨a, e, by
    rcases k with (k | ⟨o, k⟩) | k
    · exact .inl (.inl (by rw [upd_ne (ne_of k hd (by intro z; cases z))]; exact k))
    · exact .inl (.inr ⟨o, by rw [upd_ne (ne_of k hd (by intro z; cases z))]; exact k⟩)
    · exact .inr k⟩) h
section
variable {P : Program} {w : World} {K : PySem.W.Frag} {mg : Str → Option Value} {base : Heap}
theorem scAl : FnScope ["_law_q", "_law_many", "_law_found", "_law_k", "_law_longer", "_law_x", "_law_some"] ["_law_q", "_law_many"] (defScope sAll) := ⟨rfl, rfl, rfl, by decide +kernel, rfl, by decide +kernel, by decide +kernel⟩
def spAll (K : PySem.W.Frag) : Sp := fun vs H Q _ => ∃ q many : Nat, vs = [.int q, .int many] ∧ 1 ≤ q ∧ q ≤ 31 ∧ many ≤ 100 ∧ q ^ many ≤ 1000 ∧
  ∀ (H' : Hp) (p : Addr) (ys : List V) (L : List (List Int)), Same H H' → H p = none → H' p = some (.lst ys) → RowsT K H' ys L → (∀ x, x ∈ L ↔ Row q many x) → L.length ≤ 1000 → Q (.ref p) H'
theorem ok_all (T : Txt mg) (F : FnAt K mg "_law_all" sAll ["_law_q", "_law_many"]) : DefOk P w K mg base CX0 1 "_law_all" ["_law_q", "_law_many"] (spAll K) := by
  refine mk0 F scAl (fun vs H Q E h => ?_) (fun f cdv A outer s H vs Q E hr h => ?_)
  · obtain ⟨q, many, rfl, _⟩ := h
    rfl
  · obtain ⟨q, many, rfl, q1, q31, hm, hs, hQ⟩ := h
    refine ⟨_, (pss_cons (ps_set (i := 2) scAl.nd rfl (.inl rfl) (pe_lst (pa_cons (pe_tup pa_nil) pa_nil)))
      (pss_cons (ps_for PassesOwn.never rfl (pi_range1 (by rfl) T.range_ (pa_cons (pv 1) pa_nil)) (pg_name (i := 3) scAl.nd rfl (.inl rfl))
      (pss_cons (ps_set (i := 4) scAl.nd rfl (.inl rfl) (pe_lst pa_nil))
      (pss_cons (ps_for PassesOwn.never rfl (pi_range1 (by rfl) T.range_ (pa_cons (pv 0) pa_nil)) (pg_name (i := 5) scAl.nd rfl (.inr rfl))
      (pss_one (ps_set (i := 4) scAl.nd rfl (.inl rfl) (pe_op op_cat (pv 4) (pe_lc (own := [("_law_some", 6)]) (g := (gName 6)) (tt := tYes) rfl scAl.nd (pi_list (pv 2)) (blkOk_by (N := ["_law_q", "_law_many", "_law_found", "_law_k", "_law_longer", "_law_x", "_law_some"]) (sc := defScope sAll) (by decide +kernel)) (fun _ _ _ _ _ => (by exact pg_name (i := 6) scAl.nd rfl (Or.inl rfl))) (fun _ _ _ _ _ => pts_nil) (fun _ _ _ _ _ => (pe_op (r := rCatA K) op_catA (pv 6) (pe_tup (pa_cons (pv 5) pa_nil)))))))))
      (pss_one (ps_set (i := 2) scAl.nd rfl (.inl rfl) (pv 4))))))
      (pss_one (ps_ret (pv 2))))), ?_⟩
    -- found = [()]
    refine ⟨(by show 0 ≤ sizeLine; exact Nat.zero_le _), fun p0 n0 => ⟨(by show 1 ≤ sizeLine; exact line_ge (by decide)), fun g ng => ?_⟩⟩
    have npg : p0 ≠ g := ne_of_none upd_same ng
    have ng0 : H g = none := by rw [upd_ne npg.symm] at ng; exact ng
    refine ⟨_, rfl, (many : Int), rfl, by omega, by omega, ?_⟩
    refine for_range (lo := 0) (n := ((many : Int)).toNat) (fun k σ H' => Same H H' ∧ ∃ (g : Addr) (ys : List V) (L : List (List Int)) (y1 y2 y3 : Option V), σ = [some (.int q), some (.int many), some (.ref g), y1, y2, y3, none] ∧ H g = none ∧ H' g = some (.lst ys) ∧ RowsT K H' ys L ∧ (∀ x, x ∈ L ↔ Row q k x) ∧ L.length = q ^ k)
      ⟨(same_upd n0).trans (same_upd ng), g, [.ref p0], [[]], none, none, none, rfl, ng0, upd_same, .cons ⟨p0, rfl, SqT.of (by rw [upd_ne npg, upd_same]; rfl)⟩ .nil, fun x => ?_, by simp⟩ ?_ ?_
    · constructor
      · intro h
        have : x = [] := by simpa using h
        rw [this]; exact ⟨rfl, fun p hp => by cases hp⟩
      · intro h
        have : x = [] := List.length_eq_zero_iff.mp h.1
        rw [this]; simp
    · rintro k σ H' hk ⟨sm, g, ys, L, y1, y2, y3, rfl, ng0, hg, hL, mL, lL⟩
      have hyl : ys.length = L.length := paired_len hL
      have hkm : k + 1 ≤ many := by omega
      have hpow : q ^ k * q ≤ 1000 := by rw [← Nat.pow_succ]; exact Nat.le_trans (Nat.pow_le_pow_right q1 hkm) hs
      -- longer = []
      refine ⟨(by show 0 ≤ sizeLine; exact Nat.zero_le _), fun l nl => ?_⟩
      have sm1 : Same H (upd H' l (.lst [])) := Same.trans sm (same_upd nl)
      refine ⟨_, rfl, (q : Int), rfl, by omega, by omega, ?_⟩
      refine for_range (lo := 0) (n := ((q : Int)).toNat) (fun x σ H2 => Same (upd H' l (.lst [])) H2 ∧ ∃ (l : Addr) (zs : List V) (M : List (List Int)) (y3 : Option V), σ = [some (.int q), some (.int many), some (.ref g), some (.int (0 + (k : Nat))), some (.ref l), y3, none] ∧ H l = none ∧ H2 l = some (.lst zs) ∧ RowsT K H2 zs M ∧ Longer L x M)
        ⟨Same.refl _, l, [], [], _, rfl, Same.free sm nl, upd_same, .nil, Longer.zero⟩ ?_ ?_
      · rintro x σ H2 hx ⟨sm2, l2, zs, M, y3, rfl, nl2, hz, hM, lo⟩
        have hxq : x + 1 ≤ q := by omega
        have hzl : zs.length = M.length := paired_len hM
        have e1 : ((0 : Int) + (x : Nat)) = ((x : Nat) : Int) := by omega
        have sm3 : Same H' H2 := (same_upd nl).trans sm2
        have hg2 : H2 g = some (.lst ys) := sm3 _ _ hg
        have hL2 : RowsT K H2 ys L := hL.same sm3
        refine ⟨_, rfl, _, rfl, g, rfl, ⟨_, SqL.of hg2⟩, fun D nD => ?_⟩
        have hML : x * L.length + L.length ≤ 1000 := by
          have : (x + 1) * L.length ≤ q * L.length := Nat.mul_le_mul_right _ hxq
          rw [Nat.add_mul, Nat.one_mul, lL, Nat.mul_comm q] at this
          rw [lL]
          omega
        refine lc_list (K := K) (a := g) (xs := ys) (fun i H3 => Same H2 H3 ∧ ∃ us, H3 D = some (.lst us) ∧ RowsT K H3 us ((L.take i).map fun s => s ++ [((x : Nat) : Int)])) ⟨same_upd nD, [], upd_same, .nil⟩ (fun i H3 _ h => h.1.seq (SqL.of hg2)) ?_ ?_
        · rintro i v H3 hv ⟨sm4, us, hu, hU⟩
          have hi : i < L.length := by rw [← hyl]; exact (List.getElem?_eq_some_iff.mp hv).1
          obtain ⟨v', hv', a, rfl, ha⟩ := paired_get hL2 hi []
          rw [hv] at hv'
          cases hv'
          have ha3 : SqT K H3 a ((L.getD i []).map V.int) := same_tup sm4 ha
          have hul : us.length = i := by
            have := paired_len hU
            rw [this, List.length_map, List.length_take]; omega
          have hrl : (L.getD i []).length = k := ((mL _).mp (by rw [getD_lt [] hi]; exact List.getElem_mem hi)).1
          refine ⟨rfl, _, rfl, _, rfl, (by show 1 ≤ sizeLine; exact line_ge (by decide)), fun b nb => ?_⟩
          have sb : Same H3 (upd H3 b (.tup [.int (0 + (x : Nat))])) := same_upd nb
          have hub : (upd H3 b (.tup [.int (0 + (x : Nat))])) D = some (.lst us) := sb _ _ hu
          have fin : ∀ (o : Addr) (H4 : Hp), Same (upd H3 b (.tup [.int (0 + (x : Nat))])) H4 → SqT K H4 o (((L.getD i []) ++ [((x : Nat) : Int)]).map V.int) →
              ∃ acc, H4 D = some (.lst acc) ∧ acc.length < sizeLine ∧ Same H2 (upd H4 D (.lst (acc ++ [V.ref o]))) ∧ ∃ us, (upd H4 D (.lst (acc ++ [V.ref o]))) D = some (.lst us) ∧ RowsT K (upd H4 D (.lst (acc ++ [V.ref o]))) us ((L.take (i + 1)).map fun s => s ++ [((x : Nat) : Int)]) := fun o H4 s4 ho => by
            have h4 : H4 D = some (.lst us) := s4 _ _ hub
            refine ⟨us, h4, line_gt (by omega), same_mut (Same.trans sm4 (sb.trans s4)) nD, us ++ [.ref o], upd_same, ?_⟩
            rw [take_snoc hi [], List.map_append]
            exact RowsT.list (paired_snoc (hU.same (sb.trans s4)) ⟨o, rfl, ho⟩) h4
          refine ⟨a, b, _, _, rfl, rfl, same_tup sb ha3, SqT.of upd_same, ?_, fun e0 => ?_, fun _ z => absurd z (by simp), fun e0 _ o no => ?_⟩
          · rw [List.length_map, hrl]
            show k + 1 ≤ sizeLine
            exact line_ge (by omega)
          · refine fin b _ (Same.refl _) ?_
            rw [List.map_append, e0, e1]
            exact SqT.of upd_same
          · refine fin o _ (same_upd no) ?_
            rw [List.map_append, e1]
            exact SqT.of upd_same
        · rintro H3 ⟨sm4, us, hu, hU⟩
          rw [hyl, List.take_length] at hU
          have hul : us.length = L.length := by rw [paired_len hU, List.length_map]
          have hz3 : H3 l2 = some (.lst zs) := sm4 _ _ hz
          refine ⟨l2, D, zs, us, rfl, rfl, hz3, hu, ?_, fun o no => ?_⟩
          · have := lo.2
            exact line_ge (by omega)
          · have so : Same H3 (upd H3 o (.lst (zs ++ us))) := same_upd no
            refine ⟨Same.trans sm2 (Same.trans sm4 so), o, zs ++ us, M ++ L.map fun s => s ++ [((x : Nat) : Int)], _, rfl, ?_, upd_same, ?_, lo.more⟩
            · exact Same.free (Same.trans sm3 sm4 |> Same.trans sm) no
            · exact paired_app ((hM.same sm4).same so) (hU.same so)
      · rintro σ H2 ⟨sm2, l2, zs, M, y3, rfl, nl2, hz, hM, lo⟩
        have eq : ((q : Int)).toNat = q := by omega
        rw [eq] at lo
        refine ⟨_, rfl, ?_⟩
        exact ⟨sm1.trans sm2, l2, zs, M, _, _, _, rfl, nl2, hz, hM, Longer.done mL lo, by rw [lo.2, lL, Nat.pow_succ, Nat.mul_comm]⟩
    · rintro σ H' ⟨sm, g, ys, L, y1, y2, y3, rfl, ng0, hg, hL, mL, lL⟩
      have e0 : ((many : Int)).toNat = many := by omega
      rw [e0] at mL lL
      exact ⟨_, rfl, hQ H' g ys L sm ng0 hg hL mL (by omega)⟩
end
end K16

set_option Elab.async false
set_option linter.all false
set_option maxRecDepth 100000
set_option maxHeartbeats 4000000
/-! _law_meets, _law_last. -/
namespace K16
open PySem PySem.Spec PyProof.Rows L2
def prods (x r : List Int) : List Int := (x.zip r).map fun p => p.1 * p.2
theorem prods_len {x r : List Int} (h : x.length ≤ r.length) : (prods x r).length = x.length := by simp [prods]; omega
theorem prods_getD {x r : List Int} {j : Nat} (h : x.length ≤ r.length) (hj : j < x.length) : (prods x r).getD j 0 = x.getD j 0 * r.getD j 0 := by
  unfold prods
  rw [getD_lt 0 (by rw [List.length_map, List.length_zip]; omega), getD_lt 0 hj, getD_lt 0 (by omega), List.getElem_map, List.getElem_zip]
theorem prods_sum : ∀ {x r : List Int}, x.length ≤ r.length → (prods x r).sum = dot x r
  | [], _, _ => rfl
  | a :: x, [], h => by simp at h
  | a :: x, b :: r, h => by
    have ih := prods_sum (x := x) (r := r) (by simpa using h)
    show a * b + (prods x r).sum = a * b + dot x r
    rw [ih]
theorem meets_iff {q : Int} {many : Nat} {x r : List Int} (hq : 0 < q) (hx : x.length = many) (hr : Row q (many + 1) r) : dot x r % q = r.getD many 0 ↔ q ∣ res x r := by
  unfold res
  rw [hx]
  have pr := getD_pc hq hr many
  constructor
  · intro h
    rw [← h]
    exact dvd_mod q _
  · intro h
    have pm := Pc.mod hq (dot x r)
    refine dvd_eq (q := q) ?_ pm.1 pm.2 pr.1 pr.2
    have := Int.dvd_add (dvd_mod' q (dot x r)) h
    rwa [show dot x r % q - dot x r + (dot x r - r.getD many 0) = dot x r % q - r.getD many 0 by omega] at this
/-- the places at which two tuples differ, behind i of them -/
def diffs (x y : List Int) (i : Nat) : List Int := ((List.range i).filter fun k => x.getD k 0 != y.getD k 0).map fun k => ((k : Nat) : Int)
theorem diffs_yes {x y : List Int} {i : Nat} (h : x.getD i 0 ≠ y.getD i 0) : diffs x y (i + 1) = diffs x y i ++ [((i : Nat) : Int)] := by
  unfold diffs
  rw [List.range_succ, List.filter_append, List.map_append, List.filter_cons, if_pos (show (x.getD i 0 != y.getD i 0) = true from by rw [bne_iff_ne]; exact h)]
  rfl
theorem diffs_no {x y : List Int} {i : Nat} (h : x.getD i 0 = y.getD i 0) : diffs x y (i + 1) = diffs x y i := by
  unfold diffs
  rw [List.range_succ, List.filter_append, List.map_append, List.filter_cons, if_neg (show ¬ (x.getD i 0 != y.getD i 0) = true from by rw [bne_iff_ne]; exact fun z => z h)]
  exact List.append_nil _
theorem diffs_len (x y : List Int) (i : Nat) : (diffs x y i).length ≤ i := by
  unfold diffs
  rw [List.length_map]
  exact Nat.le_trans (List.length_filter_le _ _) (by simp)
theorem diffs_last {x y : List Int} {n : Nat} {m : Int} (h1 : m ∈ -1 :: diffs x y n) (h2 : ∀ z ∈ -1 :: diffs x y n, z ≤ m) : IsLast n x y m := by
  refine ⟨?_, fun k hk hd => h2 _ (List.mem_cons_of_mem _ ?_)⟩
  · rcases List.mem_cons.mp h1 with h | h
    · exact .inl h
    · obtain ⟨k, hk, e⟩ := List.mem_map.mp h
      obtain ⟨k1, k2⟩ := List.mem_filter.mp hk
      exact .inr ⟨k, e.symm, List.mem_range.mp k1, by simpa using k2⟩
  · exact List.mem_map.mpr ⟨k, List.mem_filter.mpr ⟨List.mem_range.mpr hk, by simpa using hd⟩, rfl⟩
section
variable {P : Program} {w : World} {K : PySem.W.Frag} {mg : Str → Option Value} {base : Heap}
/-! ### _law_meets -/
theorem scMe : FnScope ["_law_some", "_law_grid", "_law_q", "_law_row", "_law_x", "_law_y"] ["_law_some", "_law_grid", "_law_q"] (defScope sMeets) := ⟨rfl, rfl, rfl, by decide +kernel, rfl, by decide +kernel, by decide +kernel⟩
def spMeets (K : PySem.W.Frag) : Sp := fun vs H Q _ => ∃ (s g : Addr) (q : Int) (many : Nat) (x : List Int) (ys : List V) (B : List (List Int)), vs = [.ref s, .ref g, .int q] ∧ SqT K H s (x.map V.int) ∧ SqL K H g ys ∧ RowsT K H ys B ∧ Row q many x ∧ (∀ r ∈ B, Row q (many + 1) r) ∧ 2 ≤ q ∧ q ≤ 31 ∧ many ≤ 100 ∧
  ∀ (H' : Hp) (b : Bool), Same H H' → (b = true ↔ Sat q B x) → Q (.bl b) H'
theorem ok_meets (T : Txt mg) (F : FnAt K mg "_law_meets" sMeets ["_law_some", "_law_grid", "_law_q"]) : DefOk P w K mg base CX0 1 "_law_meets" ["_law_some", "_law_grid", "_law_q"] (spMeets K) := by
  refine mk0 F scMe (fun vs H Q E h => ?_) (fun f cdv A outer s H vs Q E hr h => ?_)
  · obtain ⟨s, g, q, many, x, ys, B, rfl, _⟩ := h
    rfl
  · obtain ⟨s, g, q, many, x, ys, B, rfl, hS, hg, hB, hx, hrow, q2, q31, hm, hQ⟩ := h
    refine ⟨_, (pss_cons (ps_for PassesOwn.never rfl (pi_list (pv 1)) (pg_name (i := 3) scMe.nd rfl (.inl rfl))
      (pss_one (ps_if (pt_cmpR op_ne (pe_op op_mod (pe_callTy call_int1 (by rfl) T.int_ bt_int (pa_cons (pe_callB (cr_sum rfl) (by rfl) T.sum_ bb_sum (pa_cons (pe_lc (own := [("_law_x", 4), ("_law_y", 5)]) (g := (gTup K 2 (gCons (gName 4) (gCons (gName 5) gNil)))) (tt := tYes) rfl scMe.nd (RZ.pi_zipA (by rfl) T.zip_ (pa_cons (pv 0) (pa_cons (pv 3) pa_nil))) (blkOk_by (N := ["_law_some", "_law_grid", "_law_q", "_law_row", "_law_x", "_law_y"]) (sc := defScope sMeets) (by decide +kernel)) (fun _ _ _ _ _ => (pg_tup rfl (by exact pgs_cons (by exact pg_name (i := 4) scMe.nd rfl (Or.inl rfl)) (by exact pgs_cons (by exact pg_name (i := 5) scMe.nd rfl (Or.inl rfl)) pgs_nil)))) (fun _ _ _ _ _ => pts_nil) (fun _ _ _ _ _ => (pe_op op_mul (pv 4) (pv 5)))) pa_nil)) pa_nil)) (pv 2)) (pe_ix ix_tup (pv 3) (pe_callB call_len_seq (by rfl) T.len_ boot_len (pa_cons (pv 0) pa_nil)) (fun _ _ => rfl)) (nomark _)) (pss_one (ps_ret pe_bl)) pss_nil)))
      (pss_one (ps_ret pe_bl))), ?_⟩
    have hq0 : 0 < q := by omega
    have hyl : ys.length = B.length := paired_len hB
    refine ⟨_, rfl, g, rfl, ⟨_, hg⟩, for_list (K := K) (a := g) (xs := ys) (fun i σ H' => Same H H' ∧ (∃ y, σ = [some (.ref s), some (.ref g), some (.int q), y, none, none]) ∧ Sat q (B.take i) x) ⟨Same.refl H, ⟨none, rfl⟩, fun r hr => by simp at hr⟩ (fun i σ H' _ h => h.1.seq hg) ?_ ?_⟩
    · rintro i v σ H' hv ⟨sm, ⟨y, rfl⟩, hs⟩
      have hi : i < B.length := by rw [← hyl]; exact (List.getElem?_eq_some_iff.mp hv).1
      obtain ⟨v', hv', a, rfl, ha⟩ := paired_get (hB.same sm) hi []
      rw [hv] at hv'
      cases hv'
      have hr1 : Row q (many + 1) (B.getD i []) := row_ix hrow hi
      have hle : x.length ≤ (B.getD i []).length := by rw [hx.1, hr1.1]; omega
      have hS2 := same_tup sm hS
      refine ⟨_, rfl, _, rfl, s, a, _, _, rfl, .inr ⟨hS2, ha, fun D nD => ?_⟩⟩
      refine lc_it (walk_zipT (K := K) (a := s) (b := a) (xs := x.map V.int) (ys := (B.getD i []).map V.int) (n := x.length) (by rw [List.length_map, List.length_map]; omega)) (fun j H2 => Same H' H2 ∧ H2 D = some (.lst (((prods x (B.getD i [])).take j).map V.int))) ⟨same_upd nD, upd_same⟩ (fun j H2 _ h => ⟨same_tup h.1 hS2, same_tup h.1 ha⟩) ?_ ?_
      · rintro j u H2 H3 hj ⟨sm2, hd⟩ ⟨p, z1, z2, rfl, np, rfl, ex, ey⟩
        obtain ⟨j1, rfl⟩ := ints_of ex
        obtain ⟨j2, rfl⟩ := ints_of ey
        have p1 := getD_pc hq0 hx j
        have nD2 : D ≠ p := ne_of_none hd np
        refine ⟨p, _, rfl, SqT.of upd_same, rfl, _, _, rfl, _, _, rfl, rfl, rfl, _, rfl, _, rfl, _, _, rfl, rfl, .inl ⟨by have := p1.1; omega, by have := p1.2; omega⟩, ((prods x (B.getD i [])).take j).map V.int, ?_, ?_, ?_, ?_⟩
        · rw [upd_ne nD2]; exact hd
        · rw [List.length_map, List.length_take, prods_len hle, hx.1]
          exact line_gt (by omega)
        · exact same_mut (Same.trans sm2 (same_upd np)) nD
        · rw [upd_same, map_take_snoc (by rw [prods_len hle]; exact hj), prods_getD hle hj]
      · rintro H2 ⟨sm2, hd⟩
        have e0 : (prods x (B.getD i [])).take x.length = prods x (B.getD i []) := List.take_of_length_le (by rw [prods_len hle]; exact Nat.le_refl _)
        rw [e0] at hd
        have sm3 : Same H H2 := Same.trans sm sm2
        refine ⟨D, _, rfl, SqL.of hd, .inl ⟨_, rfl, _, rfl, _, _, rfl, rfl, hq0, ?_⟩⟩
        refine ⟨_, rfl, _, rfl, s, _, rfl, .inr (same_tup sm3 hS), a, _, _, .int ((B.getD i []).getD many 0), rfl, rfl, same_tup sm2 ha, ?_, rfl, _, rfl, ?_⟩
        · rw [List.length_map, hx.1]
          exact atI_nat (ints_at (by rw [hr1.1]; omega))
        · rw [prods_sum hle]
          refine ite2 (fun c1 => ?_) (fun c1 => ?_)
          · have c : dot x (B.getD i []) % q ≠ (B.getD i []).getD many 0 := fun z => ne_true c1 (congrArg V.int z)
            refine hQ H2 false sm3 ⟨fun z => Bool.noConfusion z, fun z => absurd ?_ c⟩
            exact (meets_iff hq0 hx.1 hr1).mpr (z _ (by rw [getD_lt [] hi]; exact List.getElem_mem hi))
          · have c : dot x (B.getD i []) % q = (B.getD i []).getD many 0 := V.int.inj (ne_false c1)
            refine ⟨sm3, ⟨_, rfl⟩, ?_⟩
            rw [take_snoc hi []]
            intro r hr
            rcases List.mem_append.mp hr with z | z
            · exact hs r z
            · have : r = B.getD i [] := by simpa using z
              rw [this]
              exact (meets_iff hq0 hx.1 hr1).mp c
    · rintro σ H' ⟨sm, ⟨y, rfl⟩, hs⟩
      rw [hyl, List.take_length] at hs
      exact hQ H' true sm ⟨fun _ => hs, fun _ => rfl⟩
/-! ### _law_last -/
theorem scLa : FnScope ["_law_one", "_law_two", "_law_at"] ["_law_one", "_law_two"] (defScope sLast) := ⟨rfl, rfl, rfl, by decide +kernel, rfl, by decide +kernel, by decide +kernel⟩
def spLast (K : PySem.W.Frag) : Sp := fun vs H Q _ => ∃ (a b : Addr) (n : Nat) (x y : List Int), vs = [.ref a, .ref b] ∧ SqT K H a (x.map V.int) ∧ SqT K H b (y.map V.int) ∧ x.length = n ∧ y.length = n ∧ n ≤ 100 ∧ ∀ (H' : Hp) (m : Int), Same H H' → IsLast n x y m → Q (.int m) H'
theorem ok_last (T : Txt mg) (F : FnAt K mg "_law_last" sLast ["_law_one", "_law_two"]) : DefOk P w K mg base CX0 1 "_law_last" ["_law_one", "_law_two"] (spLast K) := by
  refine mk0 F scLa (fun vs H Q E h => ?_) (fun f cdv A outer s H vs Q E hr h => ?_)
  · obtain ⟨a, b, n, x, y, rfl, _⟩ := h
    rfl
  · obtain ⟨a, b, n, x, y, rfl, hA, hB, hx, hy, hn, hQ⟩ := h
    refine ⟨_, (pss_one (ps_ret (pe_callB (cr_max rfl) (by rfl) T.max_ bb_max (pa_cons (pe_op op_cat (pe_lst (pa_cons (pe_un un_neg pe_int) pa_nil)) (pe_lc (own := [("_law_at", 2)]) (g := (gName 2)) rfl scLa.nd (pi_range1 (by rfl) T.range_ (pa_cons (pe_callB call_len_seq (by rfl) T.len_ boot_len (pa_cons (pv 0) pa_nil)) pa_nil)) (blkOk_by (N := ["_law_one", "_law_two", "_law_at"]) (sc := defScope sLast) (by decide +kernel)) (fun _ _ _ _ _ => (by exact pg_name (i := 2) scLa.nd rfl (Or.inl rfl))) (fun _ _ _ _ _ => pts_one (pt_cmpR op_ne (pe_ix (r := rIxT K) ix_tup (pv 0) (pv 2) (fun _ _ => rfl)) (pe_ix (r := rIxT K) ix_tup (pv 1) (pv 2) (fun _ _ => rfl)) (nomark _))) (fun _ _ _ _ _ => (pv 2)))) pa_nil)))), ?_⟩
    refine ⟨1, rfl, (by show 1 ≤ sizeLine; exact line_ge (by decide)), fun p np => ?_⟩
    have s1 : Same H (upd H p (.lst [.int (-1)])) := same_upd np
    have hA1 := same_tup s1 hA
    have hB1 := same_tup s1 hB
    refine ⟨_, rfl, a, _, rfl, .inr hA1, _, rfl, by rw [List.length_map]; omega, by rw [List.length_map]; omega, fun D nD => ?_⟩
    have npD : p ≠ D := ne_of_none upd_same nD
    refine lc_range (lo := 0) (n := (((x.map V.int).length : Nat) : Int).toNat) (fun i H' => Same (upd H p (.lst [.int (-1)])) H' ∧ H' D = some (.lst ((diffs x y i).map V.int))) ⟨same_upd nD, upd_same⟩ ?_ ?_
    · rintro i H' hi ⟨sm, hd⟩
      have hi2 : i < n := by rw [List.length_map] at hi; omega
      have e1 : ((0 : Int) + (i : Nat)) = ((i : Nat) : Int) := by omega
      refine ⟨rfl, _, rfl, _, rfl, a, _, _, _, rfl, rfl, same_tup sm hA1, by rw [e1]; exact atI_nat (ints_at (by omega)), _, rfl, _, rfl, b, _, _, _, rfl, rfl, same_tup sm hB1, by rw [e1]; exact atI_nat (ints_at (by omega)), rfl, _, rfl, ?_⟩
      refine ite2 (fun c1 => ?_) (fun c1 => ?_)
      · have c : x.getD i 0 ≠ y.getD i 0 := fun z => ne_true c1 (congrArg V.int z)
        refine ⟨_, rfl, _, hd, ?_, same_mut sm nD, ?_⟩
        · rw [List.length_map]
          have := diffs_len x y i
          exact line_gt (by omega)
        · rw [upd_same, diffs_yes c, List.map_append, e1]
          rfl
      · have c : x.getD i 0 = y.getD i 0 := V.int.inj (ne_false c1)
        refine ⟨sm, ?_⟩
        rw [diffs_no c]
        exact hd
    · rintro H' ⟨sm, hd⟩
      have e0 : (((x.map V.int).length : Nat) : Int).toNat = n := by rw [List.length_map]; omega
      rw [e0] at hd
      have hp : H' p = some (.lst [.int (-1)]) := sm _ _ upd_same
      have := diffs_len x y n
      refine ⟨p, D, _, _, rfl, rfl, hp, hd, ?_, fun o no => ⟨o, -1 :: diffs x y n, rfl, SqL.of upd_same, by simp, fun m h1 h2 => ?_⟩⟩
      · rw [List.length_map]
        show 1 + _ ≤ sizeLine
        exact line_ge (by omega)
      · exact hQ _ m (s1.trans (Same.trans sm (same_upd no))) (diffs_last h1 h2)
end
end K16

set_option Elab.async false
set_option linter.all false
set_option maxRecDepth 100000
set_option maxHeartbeats 4000000
/-! _law_due: the answer by trying all. -/
namespace K16
open PySem PySem.Spec PyProof.Rows L2
/-- [x for x in a list of tuples if ..] -/
theorem lc_keep {K : PySem.W.Frag} {a D : Addr} {xs : List V} {L : List (List Int)} {p : List Int → Bool} {j : Nat} {σ : St} {vs : List Nat} {H1 : Hp} {tt : TT} {Qd : Hp → Prop} (hL : RowsT K H1 xs L) (ha : SqL K H1 a xs) (nD : H1 D = none) (hw : ∀ v, wipe ((wipe σ vs).set j (some v)) vs = wipe σ vs) (hj : j < σ.length) (hsz : L.length ≤ 1000)
    (ht : ∀ (i : Nat) (v : V) (H2 : Hp) (k : Bool → Hp → Prop), i < L.length → xs[i]? = some v → Same H1 H2 → (∀ H3, Same H2 H3 → k (p (L.getD i [])) H3) → tt ((wipe σ vs).set j (some v)) H2 k)
    (hd : ∀ H2 ws, Same H1 H2 → H2 D = some (.lst ws) → RowsT K H2 ws (L.filter p) → Qd H2) :
    ∃ W : Nat → Nat → Hp → Prop, (∃ m, W 0 m (upd H1 D (.lst []))) ∧ ∀ i m H, W i m H →
      ((Itl K a).stop i H ∧ Qd H) ∨ ((Itl K a).go i H ∧ ∃ Nx : Hp → Prop, (∀ H2, Nx H2 → ∃ m2, m2 < m ∧ W (i + 1) m2 H2) ∧ ∀ x H2, (Itl K a).yld i H x H2 → gName j x (wipe σ vs) H2 fun σ2 H2 => wipe σ2 vs = wipe σ vs ∧ tt σ2 H2 fun b H3 =>
        if b = true then tVar j σ2 H3 fun y H4 => ∃ acc, H4 D = some (.lst acc) ∧ acc.length < sizeLine ∧ Nx (upd H4 D (.lst (acc ++ [y]))) else Nx H3) := by
  have hxl : xs.length = L.length := paired_len hL
  refine lc_list (K := K) (a := a) (xs := xs) (fun i H2 => Same H1 H2 ∧ ∃ ws, H2 D = some (.lst ws) ∧ RowsT K H2 ws ((L.take i).filter p)) ⟨same_upd nD, [], upd_same, .nil⟩ (fun i H2 _ h => h.1.seq ha) ?_ ?_
  · rintro i v H2 hv ⟨sm, ws, hz, hW⟩
    have hi : i < L.length := by rw [← hxl]; exact (List.getElem?_eq_some_iff.mp hv).1
    refine ⟨hw v, ht i v H2 _ hi hv sm fun H3 sm3 => ?_⟩
    have hz3 := sm3 _ _ hz
    have hW3 := hW.same sm3
    have e : (L.take (i + 1)).filter p = (L.take i).filter p ++ (if p (L.getD i []) = true then [L.getD i []] else []) := by
      rw [take_snoc hi [], List.filter_append, List.filter_cons]
      rfl
    cases hp : p (L.getD i []) with
    | true =>
      obtain ⟨v2, hv2, o, rfl, ho⟩ := paired_get (hL.same (Same.trans sm sm3)) hi []
      rw [hv] at hv2
      cases hv2
      rw [hp, if_pos rfl] at e
      refine iteT ⟨_, ?_, ws, hz3, ?_, same_mut (Same.trans sm sm3) nD, ws ++ [.ref o], upd_same, ?_⟩
      · rw [List.getElem?_set_self (by rw [wipe_length]; exact hj)]
      · have h1 := paired_len hW
        have h2 := List.length_filter_le p (L.take i)
        rw [List.length_take] at h2
        exact line_gt (by omega)
      · rw [e]
        exact RowsT.list (paired_snoc hW3 ⟨o, rfl, ho⟩) hz3
    | false =>
      rw [hp, if_neg (by decide), List.append_nil] at e
      refine iteF ⟨Same.trans sm sm3, ws, hz3, ?_⟩
      rw [e]
      exact hW3
  · rintro H2 ⟨sm, ws, hz, hW⟩
    rw [hxl, List.take_length] at hW
    exact hd H2 ws sm hz hW
noncomputable def satB (q : Int) (B : List (List Int)) (x : List Int) : Bool := @decide (Sat q B x) (Classical.propDecidable _)
theorem satB_iff {q : Int} {B : List (List Int)} {x : List Int} : satB q B x = true ↔ Sat q B x := by
  unfold satB
  exact @decide_eq_true_iff _ (Classical.propDecidable _)
section
variable {P : Program} {w : World} {K : PySem.W.Frag} {mg : Str → Option Value} {base : Heap}
theorem scDu : FnScope ["_law_grid", "_law_q", "_law_many", "_law_found", "_law_loose", "_law_at", "_law_some"] ["_law_grid", "_law_q", "_law_many"] (defScope sDue) := ⟨rfl, rfl, rfl, by decide +kernel, rfl, by decide +kernel, by decide +kernel⟩
def spDue (K : PySem.W.Frag) : Sp := fun vs H Q _ => ∃ (g : Addr) (q : Int) (many : Nat) (ys : List V) (B : List (List Int)), vs = [.ref g, .int q, .int many] ∧ SqL K H g ys ∧ RowsT K H ys B ∧ (∀ r ∈ B, Row q (many + 1) r) ∧ q ∈ primes ∧ many ≤ 100 ∧ q.toNat ^ many ≤ 1000 ∧
  ∀ (H' : Hp) (v : V) (ans : Option (List Int)), Same H H' → Ans q many B ans → AnsV K H' v ans → Q v H'
theorem ok_due (T : Txt mg) (F : FnAt K mg "_law_due" sDue ["_law_grid", "_law_q", "_law_many"]) (GA : DefOk P w K mg base CX0 1 "_law_all" ["_law_q", "_law_many"] (spAll K)) (GM : DefOk P w K mg base CX0 1 "_law_meets" ["_law_some", "_law_grid", "_law_q"] (spMeets K))
    (GZ : DefOk P w K mg base CX0 1 "_law_last" ["_law_one", "_law_two"] (spLast K)) : DefOk P w K mg base CX0 2 "_law_due" ["_law_grid", "_law_q", "_law_many"] (spDue K) := by
  refine mk0 F scDu (fun vs H Q E h => ?_) (fun f cdv A outer s H vs Q E hr h => ?_)
  · obtain ⟨g, q, many, ys, B, rfl, _⟩ := h
    rfl
  · obtain ⟨g, q, many, ys, B, rfl, hg, hB, hrow, hq, hm, hpow, hQ⟩ := h
    refine ⟨_, (pss_cons (ps_set (i := 3) scDu.nd rfl (.inr rfl) (pe_lc (own := [("_law_some", 6)]) (g := (gName 6)) rfl scDu.nd (pi_list (pe_callD GA (hr.mono (by decide)) pass0 (pa_cons (pv 1) (pa_cons (pv 2) pa_nil)))) (blkOk_by (N := ["_law_grid", "_law_q", "_law_many", "_law_found", "_law_loose", "_law_at", "_law_some"]) (sc := defScope sDue) (by decide +kernel)) (fun _ _ _ _ _ => (by exact pg_name (i := 6) scDu.nd rfl (Or.inl rfl))) (fun _ _ _ _ _ => pts_one (pt_val (pe_callD GM (hr.mono (by decide)) pass0 (pa_cons (pv 6) (pa_cons (pv 0) (pa_cons (pv 1) pa_nil)))))) (fun _ _ _ _ _ => (pv 6))))
      (pss_cons (ps_if (pt_not (pt_truth (pv 3) (by intro _; rfl))) (pss_one (ps_ret pe_non)) pss_nil)
      (pss_cons (ps_setLc (i := 4) (own := [("_law_some", 6)]) (g := (gName 6)) (tt := tYes) rfl scDu.nd rfl rfl (sw_true rfl rfl rfl (by decide +kernel)) (pi_list (pv 3)) (blkOk_by (N := ["_law_grid", "_law_q", "_law_many", "_law_found", "_law_loose", "_law_at", "_law_some"]) (sc := defScope sDue) (by decide +kernel)) (fun _ _ _ _ _ => (by exact pg_name (i := 6) scDu.nd rfl (Or.inl rfl))) (fun _ _ _ _ _ => pts_nil) (fun _ _ _ _ _ => (pe_callD GZ (hr.mono (by decide)) pass0 (pa_cons (pv 6) (pa_cons (pe_ix (r := rIxL K) ix_list (pv 3) pe_int (fun _ _ => rfl)) pa_nil)))))
      (pss_cons (ps_for PassesOwn.never rfl (pi_range1 (by rfl) T.range_ (pa_cons (pv 2) pa_nil)) (pg_name (i := 5) scDu.nd rfl (.inr rfl))
      (pss_one (ps_if (pt_cmpR op_in_seq (pv 5) (pv 4) (by rfl)) (pss_one (ps_set (i := 3) scDu.nd rfl (.inr rfl) (pe_lc (own := [("_law_some", 6)]) (g := (gName 6)) rfl scDu.nd (pi_list (pv 3)) (blkOk_by (N := ["_law_grid", "_law_q", "_law_many", "_law_found", "_law_loose", "_law_at", "_law_some"]) (sc := defScope sDue) (by decide +kernel)) (fun _ _ _ _ _ => (by exact pg_name (i := 6) scDu.nd rfl (Or.inl rfl))) (fun _ _ _ _ _ => pts_one (pt_cmpR op_eq (pe_ix (r := rIxT K) ix_tup (pv 6) (pv 5) (fun _ _ => rfl)) pe_int (nomark _))) (fun _ _ _ _ _ => (pv 6))))) pss_nil)))
      (pss_one (ps_ret (pe_ix ix_list (pv 3) pe_int (fun _ _ => rfl)))))))), ?_⟩
    have hp := prime_pos hq
    have hqn : ((q.toNat : Nat) : Int) = q := by omega
    -- found = [.. for .. in _law_all(q, many) if ..]
    refine ⟨_, rfl, _, rfl, q.toNat, many, by rw [hqn], by omega, by omega, hm, hpow, fun H1 p xs L sm np hpp hL mL lL => ?_⟩
    rw [hqn] at mL
    refine ⟨p, rfl, ⟨_, SqL.of hpp⟩, fun D nD => ?_⟩
    refine lc_keep (p := satB q B) hL (SqL.of hpp) nD (fun v => rfl) (by show 6 < 7; decide) lL ?_ ?_
    · intro i v H2 k hi hv sm2 hk
      obtain ⟨v2, hv2, o, rfl, ho⟩ := paired_get (hL.same sm2) hi []
      rw [hv] at hv2
      cases hv2
      have smh := Same.trans sm sm2
      refine ⟨_, rfl, _, rfl, _, rfl, o, g, q, many, L.getD i [], ys, B, rfl, ho, smh.seq hg, hB.same smh, (mL _).mp (by rw [getD_lt [] hi]; exact List.getElem_mem hi), hrow, hp.1, hp.2, hm, fun H3 b sm3 hb => ⟨b, rfl, ?_⟩⟩
      have : b = satB q B (L.getD i []) := by rw [Bool.eq_iff_iff, hb, satB_iff]
      rw [this]
      exact hk H3 sm3
    · intro H2 ws sm2 hz hW
      have smh : Same H H2 := Same.trans sm sm2
      have nD0 : H D = none := Same.free sm nD
      generalize hF : L.filter (satB q B) = F0 at hW
      have mF : ∀ x, x ∈ F0 ↔ InS q many B x := fun x => by
        rw [← hF, List.mem_filter, mL, satB_iff]
        exact Iff.rfl
      have lF : F0.length ≤ 1000 := by
        rw [← hF]
        exact Nat.le_trans (List.length_filter_le _ _) lL
      have hwl : ws.length = F0.length := paired_len hW
      -- if not found
      refine ⟨_, rfl, !ws.isEmpty, .inl ⟨ws, SqL.of hz, rfl⟩, ?_⟩
      cases hf : F0 with
      | nil =>
        have e : ws = [] := by
          rw [hf] at hwl
          exact List.length_eq_zero_iff.mp hwl
        rw [e]
        refine iteT ?_
        refine hQ H2 .non none smh (fun x hx => ?_) rfl
        have := (mF x).mpr hx
        rw [hf] at this
        cases this
      | cons f0 F1 =>
        have e : ws.isEmpty = false := by
          cases hws : ws with
          | nil => rw [hws, hf] at hwl; simp at hwl
          | cons _ _ => rfl
        rw [e]
        refine iteF ?_
        have h00 : 0 < F0.length := by rw [hf]; simp
        have e00 : F0.getD 0 [] = f0 := by rw [hf]; rfl
        obtain ⟨v0, hv0, o0, rfl, ho0⟩ := paired_get hW h00 []
        rw [e00] at ho0
        have m0 : f0 ∈ F0 := by rw [hf]; exact List.mem_cons_self
        have i0 := (mF f0).mp m0
        -- loose
        refine ⟨_, rfl, D, rfl, ⟨_, SqL.of hz⟩, fun D2 nD2 => ?_⟩
        refine lc_list (K := K) (a := D) (xs := ws) (fun i H3 => Same H2 H3 ∧ ∃ Z : List Int, H3 D2 = some (.lst (Z.map V.int)) ∧ Z.length = i ∧ ∀ j, j < i → IsLast many (F0.getD j []) f0 (Z.getD j 0)) ⟨same_upd nD2, [], upd_same, rfl, fun j h => by omega⟩ (fun i H3 _ h => h.1.seq (SqL.of hz)) ?_ ?_
        · rintro i v H3 hv ⟨sm3, Z, hZ, lZ, mZ⟩
          have hi : i < F0.length := by rw [← hwl]; exact (List.getElem?_eq_some_iff.mp hv).1
          obtain ⟨v2, hv2, o, rfl, ho⟩ := paired_get (hW.same sm3) hi []
          rw [hv] at hv2
          cases hv2
          have ii := (mF (F0.getD i [])).mp (by rw [getD_lt [] hi]; exact List.getElem_mem hi)
          refine ⟨rfl, _, rfl, _, rfl, D, ws, _, _, rfl, rfl, SqL.of (sm3 _ _ hz), atI_nat (j := 0) hv0, o, o0, many, _, f0, rfl, ho, same_tup sm3 ho0, ii.1.1, i0.1.1, hm, fun H4 m sm4 hl => ?_⟩
          have hZ4 := sm4 _ _ hZ
          refine ⟨Z.map V.int, hZ4, by rw [List.length_map, lZ]; exact line_gt (by omega), same_mut (Same.trans sm3 sm4) nD2, Z ++ [m], ?_, by rw [List.length_append, lZ]; rfl, fun j hj => ?_⟩
          · rw [upd_same, List.map_append]
            rfl
          · by_cases c : j = i
            · have : (Z ++ [m]).getD j 0 = m := by rw [getD_lt 0 (by rw [List.length_append, lZ, c]; simp), List.getElem_append_right (by omega)]; simp
              rw [this, c]
              exact hl
            · have : (Z ++ [m]).getD j 0 = Z.getD j 0 := by rw [getD_lt 0 (by rw [List.length_append, lZ]; simp; omega), List.getElem_append_left (by omega), getD_lt 0 (by omega)]
              rw [this]
              exact mZ j (by omega)
        · rintro H3 ⟨sm3, Z, hZ, lZ, mZ⟩
          rw [hwl] at lZ mZ
          have nD20 : H D2 = none := Same.free smh nD2
          have hz2 : ∀ s ∈ F0, ∃ m ∈ Z, IsLast many s f0 m := fun s hs => by
            obtain ⟨i, hi, e⟩ := List.mem_iff_getElem.mp hs
            refine ⟨Z.getD i 0, by rw [getD_lt 0 (by omega)]; exact List.getElem_mem _, ?_⟩
            have := mZ i hi
            rw [getD_lt [] hi, e] at this
            exact this
          have hz1 : ∀ m, m ∈ Z ↔ ∃ s ∈ F0, IsLast many s f0 m ∧ m ∈ Z := fun m => by
            constructor
            · intro h
              obtain ⟨i, hi, e⟩ := List.mem_iff_getElem.mp h
              have := mZ i (by omega)
              rw [getD_lt 0 hi, e] at this
              exact ⟨_, by rw [getD_lt [] (by omega)]; exact List.getElem_mem _, this, h⟩
            · rintro ⟨_, _, _, h⟩
              exact h
          obtain ⟨cs, cr, ce, cc⟩ := due_ok hq mF m0 hz1 hz2
          -- the columns
          refine ⟨_, rfl, (many : Int), rfl, by omega, by omega, ?_⟩
          refine for_range (lo := 0) (n := ((many : Int)).toNat) (fun i σ H' => Same H3 H' ∧ ∃ (o : Addr) (us : List V) (y : Option V), σ = [some (.ref g), some (.int q), some (.int many), some (.ref o), some (.ref D2), y, none] ∧ H' o = some (.lst us) ∧ RowsT K H' us (F0.filter (keeps Z i)))
            ⟨Same.refl _, D, ws, none, rfl, sm3 _ _ hz, ?_⟩ ?_ ?_
          · have : F0.filter (keeps Z 0) = F0 := List.filter_eq_self.mpr fun s _ => rfl
            rw [this]
            exact hW.same sm3
          · rintro i σ H' hi ⟨sm4, o, us, y, rfl, ho, hU⟩
            have hi2 : i < many := by omega
            have e1 : ((0 : Int) + (i : Nat)) = ((i : Nat) : Int) := by omega
            refine ⟨_, rfl, _, rfl, D2, _, rfl, .inl (SqL.of (sm4 _ _ hZ)), rfl, flat_ints _, _, rfl, ?_⟩
            rw [e1]
            have ein : (if false = true then !inV (V.int ((i : Nat) : Int)) (Z.map V.int) else inV (V.int ((i : Nat) : Int)) (Z.map V.int)) = Z.contains ((i : Nat) : Int) := inV_ints _ _
            rw [ein]
            refine ite2 (fun c => ?_) (fun c => ?_)
            · refine ⟨_, rfl, o, rfl, ⟨_, SqL.of ho⟩, fun D3 nD3 => ?_⟩
              have lU : (F0.filter (keeps Z i)).length ≤ 1000 := Nat.le_trans (List.length_filter_le _ _) lF
              refine lc_keep (p := fun s => s.getD i 0 == 0) hU (SqL.of ho) nD3 (fun v => rfl) (by show 6 < 7; decide) lU ?_ ?_
              · intro j v H4 k hj hv sm5 hk
                obtain ⟨v2, hv2, o2, rfl, ho2⟩ := paired_get (hU.same sm5) hj []
                rw [hv] at hv2
                cases hv2
                have hmem : (F0.filter (keeps Z i)).getD j [] ∈ F0 := by
                  rw [getD_lt [] hj]
                  exact (List.mem_filter.mp (List.getElem_mem hj)).1
                have hlen := ((mF _).mp hmem).1.1
                refine ⟨_, rfl, _, rfl, o2, _, _, _, rfl, rfl, ho2, atI_nat (ints_at (by rw [hlen]; exact hi2)), rfl, _, rfl, ?_⟩
                have : decide (V.int (((F0.filter (keeps Z i)).getD j []).getD i 0) = V.int 0) = (((F0.filter (keeps Z i)).getD j []).getD i 0 == 0) := dec_int
                rw [this]
                exact hk H4 (Same.refl _)
              · intro H4 us2 sm5 hz4 hU4
                refine ⟨Same.trans sm4 sm5, D3, us2, _, rfl, hz4, ?_⟩
                have : F0.filter (keeps Z (i + 1)) = (F0.filter (keeps Z i)).filter fun s => s.getD i 0 == 0 := by
                  rw [List.filter_filter]
                  refine List.filter_congr fun s _ => ?_
                  rw [keeps_succ, c, Bool.not_true, Bool.false_or, Bool.and_comm]
                rw [this]
                exact hU4
            · refine ⟨sm4, o, us, _, rfl, ho, ?_⟩
              have : F0.filter (keeps Z (i + 1)) = F0.filter (keeps Z i) := List.filter_congr fun s _ => by
                have c2 : Z.contains ((i : Nat) : Int) = false := by simpa using c
                rw [keeps_succ, c2, Bool.not_false, Bool.true_or, Bool.and_true]
              rw [this]
              exact hU
          · rintro σ H' ⟨sm4, o, us, y, rfl, ho, hU⟩
            have e0 : ((many : Int)).toNat = many := by omega
            rw [e0, ce] at hU
            obtain ⟨v, hv, o2, rfl, ho2⟩ := paired_get hU (by simp : 0 < (cs :: cr).length) []
            refine ⟨_, rfl, o, us, 0, .ref o2, rfl, rfl, SqL.of ho, atI_nat (j := 0) hv, ?_⟩
            exact hQ H' (.ref o2) (some cs) (smh.trans (Same.trans sm3 sm4)) cc ⟨o2, rfl, ho2⟩
end
end K16

set_option Elab.async false
set_option linter.all false
set_option maxRecDepth 100000
set_option maxHeartbeats 4000000
/-! _law_told_so. -/
namespace K16
open PySem PySem.Spec PyProof.Rows L2
/-! ### alike things -/
theorem alike_ints {K : PySem.W.Frag} {H : Hp} {n : Nat} (x : List Int) : Paired (Alike K H (n + 1)) (x.map V.int) (x.map V.int) := by
  induction x with
  | nil => exact .nil
  | cons a x ih => exact .cons (.inl ⟨rfl, .inr (.inl ⟨a, rfl⟩)⟩) ih
theorem alike_tup {K : PySem.W.Frag} {H : Hp} {n : Nat} {a b : Addr} {x : List Int} (h : SqT K H a (x.map V.int)) (k : SqT K H b (x.map V.int)) (hl : x.length ≤ 1000) : Alike K H (n + 2) (.ref a) (.ref b) :=
  .inr ⟨a, b, _, _, rfl, rfl, .inr ⟨h, k⟩, alike_ints x, by rw [List.length_map]; exact hl⟩
theorem alike_ans {K : PySem.W.Frag} {H : Hp} {n : Nat} {v u : V} : ∀ {a : Option (List Int)}, (∀ x, a = some x → x.length ≤ 1000) → AnsV K H v a → AnsV K H u a → Alike K H (n + 2) v u
  | none, _, h, k => by
    have e1 : v = .non := h
    have e2 : u = .non := k
    rw [e1, e2]
    exact .inl ⟨rfl, .inl rfl⟩
  | some x, hl, ⟨a, e1, h⟩, ⟨b, e2, k⟩ => by
    rw [e1, e2]
    exact alike_tup h k (hl x rfl)
theorem alike_rows {K : PySem.W.Frag} {H : Hp} {n : Nat} {many : Nat} {q : Int} {ys : List V} {B : List (List Int)} (h : RowsT K H ys B) (hr : ∀ r ∈ B, Row q (many + 1) r) (hm : many ≤ 100) : Paired (Alike K H (n + 2)) ys ys := by
  induction h with
  | nil => exact .nil
  | cons q t ih =>
    obtain ⟨a, rfl, ha⟩ := q
    refine .cons (alike_tup ha ha ?_) (ih fun r hr2 => hr r (List.mem_cons_of_mem _ hr2))
    rw [(hr _ List.mem_cons_self).1]
    omega
/-! ### the rows as they are handed over -/
def Hand (K : PySem.W.Frag) (b : Addr) (H : Hp) (h : Addr) (ys : List V) : Prop := (h ≠ b ∧ H h = some (.lst ys)) ∨ SqT K H h ys
theorem Hand.seq {K : PySem.W.Frag} {b h : Addr} {H : Hp} {ys : List V} (x : Hand K b H h ys) : SqL K H h ys ∨ SqT K H h ys := x.imp (fun y => SqL.of y.2) id
theorem Hand.ext {K : PySem.W.Frag} {b c h : Addr} {H H' : Hp} {ys : List V} (x : Hand K b H h ys) (e : Ext b c H H') : Hand K b H' h ys := x.imp (fun y => ⟨y.1, e.but _ _ y.1 y.2⟩) (fun y => e.tup y)
theorem Hand.same {K : PySem.W.Frag} {b h : Addr} {H H' : Hp} {ys : List V} (x : Hand K b H h ys) (s : Same H H') : Hand K b H' h ys := x.imp (fun y => ⟨y.1, s _ _ y.2⟩) (fun y => same_tup s y)
theorem AnsV.ext {K : PySem.W.Frag} {b c : Addr} {H H' : Hp} {v : V} (x : Ext b c H H') : ∀ {a : Option (List Int)}, AnsV K H v a → AnsV K H' v a
  | none, h => h
  | some _, ⟨o, e, h⟩ => ⟨o, e, x.tup h⟩
section
variable {P : Program} {w : World} {K : PySem.W.Frag} {mg : Str → Option Value} {base : Heap} {C : Addr}
theorem scTd : FnScope ["_law_bag_here", "_law_grid", "_law_q", "_law_due_here", "_law_hand", "_law_told"] ["_law_bag_here", "_law_grid", "_law_q", "_law_due_here"] (defScope sTold) := ⟨rfl, rfl, rfl, by decide +kernel, rfl, by decide +kernel, by decide +kernel⟩
def spTold (K : PySem.W.Frag) : Sp := fun vs H Q _ => ∃ (b c g : Addr) (q : Int) (v : V) (many : Nat) (ans : Option (List Int)) (ys : List V) (B : List (List Int)), vs = [.ref b, .ref g, .int q, v] ∧ Good b c H ∧ g ≠ b ∧ H g = some (.lst ys) ∧ RowsT K H ys B ∧ B ≠ [] ∧ (∀ r ∈ B, Row q (many + 1) r) ∧ many ≤ 100 ∧ B.length ≤ 100 ∧ q ∈ primes ∧ Ans q many B ans ∧ AnsV K H v ans ∧
  ∀ H', Ext b c H H' → Q (.bl true) H'
theorem ans_len {q : Int} {many : Nat} {B : List (List Int)} {ans : Option (List Int)} (h : Ans q many B ans) (hm : many ≤ 100) : ∀ x, ans = some x → x.length ≤ 1000 := fun x e => by
  rw [e] at h
  have := (show Canon q many B x from h).ins.1.1
  omega
theorem ok_told (T : Txt mg) (F : FnAt K mg "_law_told_so" sTold ["_law_bag_here", "_law_grid", "_law_q", "_law_due_here"]) (GD : DefOk P w K mg base CX0 1 "_law_draw" ["_law_bag_here", "_law_limit"] spDraw) (GSP : DefP P w K mg base (L2.CX P w) 4 "solved" sSolved ["rows", "prime"] (spSolved K C))
    (GL : DefOk P w K mg base CX0 4 "_law_like" ["_law_told", "_law_due_here"] (spLike K 3)) : DefOk P w K mg base CX0 5 "_law_told_so" ["_law_bag_here", "_law_grid", "_law_q", "_law_due_here"] (spTold K) := by
  have GS := GSP.ok
  obtain ⟨fs, fds, GSm, GSp, GSb0, GSf⟩ := GSP.ex
  have GSk := GSp.kp
  have GSb := kw_solved GSp
  refine mk0 F scTd (fun vs H Q E h => ?_) (fun f cdv A outer s H vs Q E hr h => ?_)
  · obtain ⟨b, c, g, q, v, many, ans, ys, B, rfl, _⟩ := h
    rfl
  · obtain ⟨b, c, g, q, v, many, ans, ys, B, rfl, G, ngb, hg, hB, hne, hrow, hm, hl, hq, hA, hV, hQ⟩ := h
    refine ⟨_, (Evl.pss_cut (ps_set (i := 4) scTd.nd rfl (.inl rfl) (pe_ifExp (pt_cmpR op_eq (pe_callD GD (hr.mono (by decide)) pass0 (pa_cons (pv 0) (pa_cons pe_int pa_nil))) pe_int (nomark _)) (pe_callTy call_tuple_of (by rfl) T.tuple_ bt_tuple (pa_cons (pv 1) pa_nil)) (pe_callTy call_list_of (by rfl) T.list_ bt_list (pa_cons (pv 1) pa_nil))))
      (Evl.pss_cut (ps_set (i := 5) scTd.nd rfl (.inl rfl) (pe_ifExp (pt_cmpR op_eq (pe_callD GD (hr.mono (by decide)) pass0 (pa_cons (pv 0) (pa_cons pe_int pa_nil))) pe_int (nomark _)) (pe_callD GS hr passL (pa_cons (pv 4) (pa_cons (pv 2) pa_nil))) (pe_callKW GSf hr GSm GSk GSb passL (pk_cons (pv 2) (pk_cons (pv 4) pk_nil)))))
      (pss_one (ps_ret (pe_and (pe_callD GL hr pass0 (pa_cons (pv 5) (pa_cons (pv 3) pa_nil))) (pe_and (pe_callD GL hr pass0 (pa_cons (pe_callTy call_list_of (by rfl) T.list_ bt_list (pa_cons (pv 4) pa_nil)) (pa_cons (pv 1) pa_nil))) (pe_one (pe_callD GL hr pass0 (pa_cons (pe_callD GS hr passL (pa_cons (pv 4) (pa_cons (pv 2) pa_nil))) (pa_cons (pv 3) pa_nil)))))))))), ?_⟩
    have hyl : ys.length = B.length := paired_len hB
    have given : ∀ {H1 : Hp} {h : Addr}, RowsT K H1 ys B → Hand K b H1 h ys → Given K H1 h ys q many B := fun {H1 h} r x => ⟨x.seq, r, hne, hrow, hm, hl⟩
    refine ⟨fun σ' H1 => ∃ h, σ' = [some (.ref b), some (.ref g), some (.int q), some v, some (.ref h), none] ∧ Ext b c H H1 ∧ Hand K b H1 h ys, ?_, ?_⟩
    · refine ⟨_, rfl, b, c, 3, rfl, G, by decide, by decide, fun d H1 d0 d1 x => ⟨rfl, _, rfl, ite2 (fun c1 => ?_) (fun c1 => ?_)⟩⟩
      · exact ⟨_, rfl, g, ys, rfl, .inl ⟨SqL.of (x.but _ _ ngb hg), fun l nl => ⟨l, rfl, x.same (same_upd nl), .inr (SqT.of upd_same)⟩⟩⟩
      · exact ⟨_, rfl, g, ys, rfl, .inl (SqL.of (x.but _ _ ngb hg)), fun l nl => ⟨l, rfl, x.same (same_upd nl), .inl ⟨(x.g1.off nl).1, upd_same⟩⟩⟩
    · rintro σ' H1 ⟨h, rfl, x1, hh⟩
      refine ⟨fun σ' H2 => ∃ u, σ' = [some (.ref b), some (.ref g), some (.int q), some v, some (.ref h), some u] ∧ Ext b c H H2 ∧ Hand K b H2 h ys ∧ AnsV K H2 u ans, ?_, ?_⟩
      · refine ⟨_, rfl, b, c, 2, rfl, x1.g1, by decide, by decide, fun d H2 d0 d1 x2 => ⟨rfl, _, rfl, ?_⟩⟩
        have x3 := x1.trans x2
        have hh2 := hh.ext x2
        have g2 := given (x3.rowsT hB) hh2
        have fin : ∀ (H3 : Hp) (u : V) (a : Option (List Int)), Same H2 H3 → Ans q many B a → AnsV K H3 u a → ∃ w, [some (.ref b), some (.ref g), some (.int q), some v, some (.ref h), some u] = [some (.ref b), some (.ref g), some (.int q), some v, some (.ref h), some w] ∧ Ext b c H H3 ∧ Hand K b H3 h ys ∧ AnsV K H3 w ans := fun H3 u a sm ha hv =>
          ⟨u, rfl, x3.same sm, hh2.same sm, by rw [Ans.unique hA ha]; exact hv⟩
        refine ite2 (fun c1 => ?_) (fun c1 => ?_)
        · exact ⟨_, rfl, _, rfl, h, .int q, true, rfl, .int q, .inr ⟨q, many, B, ys, rfl, hq, g2, fun H3 u a sm ha hv => fin H3 u a sm ha hv⟩⟩
        · exact ⟨_, rfl, _, rfl, rfl, h, .int q, true, rfl, .int q, .inr ⟨q, many, B, ys, rfl, hq, g2, fun H3 u a sm ha hv => fin H3 u a sm ha hv⟩⟩
      · rintro σ' H2 ⟨u, rfl, x2, hh2, hu⟩
        have hV2 := hV.ext x2
        have hB2 := x2.rowsT hB
        have hln := ans_len hA hm
        refine ⟨_, rfl, _, rfl, u, v, rfl, alike_ans hln hu hV2, fun H3 sm3 => ⟨true, rfl, iteT ?_⟩⟩
        have x3 := x2.same sm3
        have hh3 := hh2.same sm3
        refine ⟨_, rfl, h, ys, rfl, hh3.seq, fun l nl => ⟨_, rfl, .ref l, .ref g, rfl, ?_, fun H4 sm4 => ⟨true, rfl, iteT ?_⟩⟩⟩
        · have sl : Same H3 (upd H3 l (.lst ys)) := same_upd nl
          have hg3 : (upd H3 l (.lst ys)) g = some (.lst ys) := sl _ _ (x3.but _ _ ngb hg)
          exact .inr ⟨l, g, ys, ys, rfl, rfl, .inl ⟨SqL.of upd_same, SqL.of hg3⟩, alike_rows ((x3.same sl).rowsT hB) hrow hm, by omega⟩
        · have s34 : Same H3 H4 := (same_upd nl).trans sm4
          have x4 := x3.same s34
          have hh4 := hh3.same s34
          refine ⟨_, rfl, _, rfl, h, .int q, true, rfl, .int q, .inr ⟨q, many, B, ys, rfl, hq, given (x4.rowsT hB) hh4, fun H5 u2 a sm5 ha hv => ?_⟩⟩
          have x5 := x4.same sm5
          have ea := Ans.unique hA ha
          refine ⟨_, rfl, u2, v, rfl, alike_ans hln (by rw [ea]; exact hv) (hV.ext x5), fun H6 sm6 => hQ H6 (x5.same sm6)⟩
end
end K16

set_option Elab.async false
set_option linter.all false
set_option maxRecDepth 100000
set_option maxHeartbeats 4000000
/-! _law_formed. -/
namespace K16
open PySem PySem.Spec PyProof.Rows L2
/-! ### leading places -/
def nl (L : List Nat) : List Int := L.map fun k => ((k : Nat) : Int)
theorem nl_len (L : List Nat) : (nl L).length = L.length := by simp [nl]
theorem nl_getD {L : List Nat} {i : Nat} (h : i < L.length) : (nl L).getD i 0 = ((L.getD i 0 : Nat) : Int) := by
  unfold nl
  rw [getD_lt 0 (by rw [List.length_map]; exact h), List.getElem_map, getD_lt 0 h]
theorem nl_mem {L : List Nat} {k : Nat} : (nl L).contains ((k : Nat) : Int) = true ↔ k ∈ L := by
  unfold nl
  rw [List.contains_iff_mem, List.mem_map]
  constructor
  · rintro ⟨a, h, e⟩
    have : a = k := by omega
    rw [← this]; exact h
  · intro h
    exact ⟨k, h, rfl⟩
theorem pairwise_inj : ∀ {L : List Nat} {i k l : Nat}, L.Pairwise (· < ·) → L[i]? = some l → L[k]? = some l → i = k
  | [], i, k, l, _, h, _ => by simp at h
  | a :: L, 0, 0, l, _, _, _ => rfl
  | a :: L, 0, k + 1, l, hp, h1, h2 => by
    have e : a = l := by simpa using h1
    have := (List.pairwise_cons.mp hp).1 l (List.mem_of_getElem? (by simpa using h2))
    omega
  | a :: L, i + 1, 0, l, hp, h1, h2 => by
    have e : a = l := by simpa using h2
    have := (List.pairwise_cons.mp hp).1 l (List.mem_of_getElem? (by simpa using h1))
    omega
  | a :: L, i + 1, k + 1, l, hp, h1, h2 => by
    have := pairwise_inj (List.pairwise_cons.mp hp).2 (by simpa using h1) (by simpa using h2)
    omega
/-- a row that is being formed -/
structure FRow (q : Int) (wide : Nat) (L : List Nat) (lead : Nat) (r : List Int) : Prop where
  row : Row q wide r
  one : r.getD lead 0 = 1
  low : ∀ j, j < lead → r.getD j 0 = 0
  oth : ∀ m, m ∈ L → m ≠ lead → r.getD m 0 = 0
theorem set_getD1 {r : List Int} {i j : Nat} {d : Int} (h : j < r.length) : (r.set i d).getD j 0 = if i = j then d else r.getD j 0 := by
  rw [getD_lt 0 (by rw [List.length_set]; exact h), List.getElem_set, getD_lt 0 h]
theorem rep_getD (n j : Nat) : (List.replicate n (0 : Int)).getD j 0 = 0 := by
  by_cases h : j < n
  · rw [getD_lt 0 (by rw [List.length_replicate]; exact h), List.getElem_replicate]
  · rw [getD_ge 0 (by rw [List.length_replicate]; omega)]
theorem row_set {q : Int} {n i : Nat} {r : List Int} {d : Int} (h : Row q n r) (hd : Pc q d) : Row q n (r.set i d) := by
  refine ⟨by rw [List.length_set]; exact h.1, fun p hp => ?_⟩
  rcases List.mem_or_eq_of_mem_set hp with z | z
  · exact h.2 p z
  · rw [z]; exact hd
theorem FRow.start {q : Int} {wide lead : Nat} {L : List Nat} (hq : 2 ≤ q) (hl : lead < wide) : FRow q wide L lead ((List.replicate wide 0).set lead 1) := by
  have h0 : Row q wide (List.replicate wide 0) := ⟨by simp, fun p hp => by rw [(List.mem_replicate.mp hp).2]; exact ⟨Int.le_refl 0, by omega⟩⟩
  have hr := row_set (i := lead) h0 (show Pc q 1 from ⟨by omega, by omega⟩)
  have g : ∀ j, j ≠ lead → ((List.replicate wide (0 : Int)).set lead 1).getD j 0 = 0 := fun j hj => by
    by_cases h : j < wide
    · rw [set_getD1 (by rw [List.length_replicate]; exact h), if_neg (fun z => hj z.symm), rep_getD]
    · exact getD_over hr.1 (by omega)
  exact ⟨hr, by rw [set_getD1 (by rw [List.length_replicate]; exact hl), if_pos rfl], fun j hj => g j (by omega), fun m _ hm => g m hm⟩
theorem FRow.put {q : Int} {wide lead i : Nat} {L : List Nat} {r : List Int} {d : Int} (F : FRow q wide L lead r) (hi : lead < i) (hw : i < wide) (hn : i ∉ L) (hd : Pc q d) : FRow q wide L lead (r.set i d) := by
  have hr := row_set (i := i) F.row hd
  have g : ∀ j, j ≠ i → (r.set i d).getD j 0 = r.getD j 0 := fun j hj => by
    by_cases h : j < wide
    · rw [set_getD1 (by rw [F.row.1]; exact h), if_neg (fun z => hj z.symm)]
    · rw [getD_over hr.1 (by omega), getD_over F.row.1 (by omega)]
  exact ⟨hr, by rw [g lead (by omega)]; exact F.one, fun j hj => by rw [g j (by omega)]; exact F.low j hj, fun m hm hml => by rw [g m (fun z => hn (by rw [← z]; exact hm))]; exact F.oth m hm hml⟩
/-- rows that are formed, for the first leading places -/
def FRows (q : Int) (wide : Nat) (L : List Nat) (R : List (List Int)) : Prop := ∀ k, k < R.length → FRow q wide L (L.getD k 0) (R.getD k [])
theorem FRows.more {q : Int} {wide : Nat} {L : List Nat} {R : List (List Int)} {r : List Int} (h : FRows q wide L R) (hr : FRow q wide L (L.getD R.length 0) r) : FRows q wide L (R ++ [r]) := by
  intro k hk
  by_cases c : k < R.length
  · rw [getD_lt [] hk, List.getElem_append_left c, ← getD_lt [] c]
    exact h k c
  · have e : k = R.length := by rw [List.length_append] at hk; simp at hk; omega
    rw [getD_lt [] hk, List.getElem_append_right (by omega)]
    simp [e]
    rw [← List.getD_eq_getElem?_getD]
    exact hr
theorem FRows.red {q : Int} {wide : Nat} {L : List Nat} {R : List (List Int)} (h : FRows q wide L R) (hl : R.length = L.length) (hp : L.Pairwise (· < ·)) (hw : ∀ k ∈ L, k < wide) : Red q wide R L := by
  refine ⟨fun r hr => ?_, hl.symm, fun i l e => ?_⟩
  · obtain ⟨k, hk, e⟩ := List.mem_iff_getElem.mp hr
    have := (h k hk).row
    rw [getD_lt [] hk, e] at this
    exact this
  · have hi : i < L.length := (List.getElem?_eq_some_iff.mp e).1
    have el : L.getD i 0 = l := by rw [List.getD_eq_getElem?_getD, e]; rfl
    have F := h i (by omega)
    rw [el] at F
    refine ⟨hw l (List.mem_of_getElem? e), F.one, F.low, fun k hk => ?_⟩
    by_cases c : k < R.length
    · have Fk := h k c
      refine Fk.oth l (List.mem_of_getElem? e) fun z => hk ?_
      have ek : L[k]? = some (L.getD k 0) := by rw [List.getD_eq_getElem?_getD, List.getElem?_eq_getElem (by omega)]; rfl
      rw [← z] at ek
      exact pairwise_inj hp ek e
    · exact at2_over l (by omega)
section
variable {P : Program} {w : World} {K : PySem.W.Frag} {mg : Str → Option Value} {base : Heap}
theorem scFo : FnScope ["_law_bag_here", "_law_q", "_law_most", "_law_wide", "_law_share", "_law_leads", "_law_found", "_law_at", "_law_lead", "_law_row"] ["_law_bag_here", "_law_q", "_law_most", "_law_wide"] (defScope sFormed) := ⟨rfl, rfl, rfl, by decide +kernel, rfl, by decide +kernel, by decide +kernel⟩
def spFormed : Sp := fun vs H Q _ => ∃ (b c : Addr) (q most : Int) (wide : Nat), vs = [.ref b, .int q, .int most, .int wide] ∧ Good b c H ∧ 2 ≤ q ∧ q ≤ 31 ∧ wide ≤ 100 ∧
  ∀ (H' : Hp) (p : Addr) (ys : List V) (R : List (List Int)) (L : List Nat), Ext b c H H' → H p = none → H' p = some (.lst ys) → RowsL H' ys R → Red q wide R L → R.length ≤ wide → Q (.ref p) H'
theorem ok_formed (T : Txt mg) (F : FnAt K mg "_law_formed" sFormed ["_law_bag_here", "_law_q", "_law_most", "_law_wide"]) (GD : DefOk P w K mg base CX0 1 "_law_draw" ["_law_bag_here", "_law_limit"] spDraw) (GO : DefOk P w K mg base CX0 2 "_law_of" ["_law_bag_here", "_law_things"] spOf) :
    DefOk P w K mg base CX0 3 "_law_formed" ["_law_bag_here", "_law_q", "_law_most", "_law_wide"] spFormed := by
  refine mk0 F scFo (fun vs H Q E h => ?_) (fun f cdv A outer s H vs Q E hr h => ?_)
  · obtain ⟨b, c, q, most, wide, rfl, _⟩ := h
    rfl
  · obtain ⟨b, c, q, most, wide, rfl, G, q2, q31, hw, hQ⟩ := h
    refine ⟨_, (pss_cons (ps_par3 (i := 4) (j := 5) (l := 6) rfl scFo.nd rfl rfl rfl (by decide) (by decide) (by decide) rfl rfl rfl (pa_cons (pe_callD GO hr pass0 (pa_cons (pv 0) (pa_cons (pe_lst (pa_cons pe_int (pa_cons pe_int (pa_cons pe_int (pa_cons pe_int pa_nil))))) pa_nil))) (pa_cons (pe_lst pa_nil) (pa_cons (pe_lst pa_nil) pa_nil))) (by rfl))
      (pss_cons (ps_for PassesOwn.never rfl (pi_range1 (by rfl) T.range_ (pa_cons (pv 3) pa_nil)) (pg_name (i := 7) scFo.nd rfl (.inl rfl))
      (pss_one (ps_if (PW.pt (pw_and (pt_cmpR op_lt (pe_callB call_len_seq (by rfl) T.len_ boot_len (pa_cons (pv 5) pa_nil)) (pv 2) (nomark _)) (pw_and1 (pt_cmpR op_eq (pe_callD GD (hr.mono (by decide)) pass0 (pa_cons (pv 0) (pa_cons (pv 4) pa_nil))) pe_int (nomark _))))) (pss_one (ps_expr (pe_bm PySem.F.plainAttrs_list PySem.F.slot_list_append PySem.F.type_list_append mt_append (pv 5) (pa_cons (pv 7) pa_nil)))) pss_nil)))
      (pss_cons (ps_for PassesOwn.never rfl (pi_list (pv 5)) (pg_name (i := 8) scFo.nd rfl (.inl rfl))
      (pss_cons (ps_setLc (i := 9) (own := [("_law_at", 7)]) (g := (gName 7)) (tt := tYes) rfl scFo.nd rfl rfl (sw_true rfl rfl rfl (by decide +kernel)) (pi_range1 (by rfl) T.range_ (pa_cons (pv 3) pa_nil)) (blkOk_by (N := ["_law_bag_here", "_law_q", "_law_most", "_law_wide", "_law_share", "_law_leads", "_law_found", "_law_at", "_law_lead", "_law_row"]) (sc := defScope sFormed) (by decide +kernel)) (fun _ _ _ _ _ => (by exact pg_name (i := 7) scFo.nd rfl (Or.inl rfl))) (fun _ _ _ _ _ => pts_nil) (fun _ _ _ _ _ => pe_int))
      (pss_cons (ps_asg pe_int (pg_sub (pv 9) (pv 8) set_list))
      (pss_cons (ps_for PassesOwn.never rfl (pi_range2 (by rfl) T.range_ (pa_cons (pe_op op_add (pv 8) pe_int) (pa_cons (pv 3) pa_nil))) (pg_name (i := 7) scFo.nd rfl (.inl rfl))
      (pss_one (ps_if (pt_cmpR op_notIn_seq (pv 7) (pv 5) (by rfl)) (pss_one (ps_asg (pe_callD GD (hr.mono (by decide)) pass0 (pa_cons (pv 0) (pa_cons (pv 1) pa_nil))) (pg_sub (pv 9) (pv 7) set_list))) pss_nil)))
      (pss_one (ps_expr (pe_bm PySem.F.plainAttrs_list PySem.F.slot_list_append PySem.F.type_list_append mt_append (pv 6) (pa_cons (pv 9) pa_nil))))))))
      (pss_one (ps_ret (pv 6)))))), ?_⟩
    -- share, leads, found
    refine ⟨_, rfl, (by show 4 ≤ sizeLine; exact line_ge (by decide)), fun p0 n0 => ?_⟩
    have x0 : Ext b c H (upd H p0 (.lst [.int 2, .int 2, .int 3, .int 9])) := Ext.of G (same_upd n0)
    refine ⟨b, c, p0, _, rfl, x0.g1, (G.off n0).1, upd_same, by decide, by decide, fun si sv H1 hsi x1 => ?_⟩
    have hsv : ∃ sh : Int, sv = .int sh ∧ 2 ≤ sh ∧ sh ≤ 9 := by
      match si, hsi with
      | 0, e => exact ⟨2, (Option.some.inj e).symm, by decide, by decide⟩
      | 1, e => exact ⟨2, (Option.some.inj e).symm, by decide, by decide⟩
      | 2, e => exact ⟨3, (Option.some.inj e).symm, by decide, by decide⟩
      | 3, e => exact ⟨9, (Option.some.inj e).symm, by decide, by decide⟩
      | n + 4, e => simp at e
    obtain ⟨sh, rfl, sh2, sh9⟩ := hsv
    have x01 := x0.trans x1
    refine ⟨Nat.zero_le _, fun l nl1 => ⟨Nat.zero_le _, fun fo nf => ⟨_, _, _, rfl, ?_⟩⟩⟩
    have nlf : l ≠ fo := ne_of_none upd_same nf
    have s2 : Same H1 (upd (upd H1 l (.lst [])) fo (.lst [])) := (same_upd nl1).trans (same_upd nf)
    have x2 := x01.same s2
    have nlH1 : H1 fo = none := by rw [upd_ne nlf.symm] at nf; exact nf
    have offl := x01.g1.off nl1
    have offf := x01.g1.off nlH1
    -- leads
    refine ⟨_, rfl, (wide : Int), rfl, by omega, by omega, ?_⟩
    have fH : H fo = none := x01.free nlH1
    have lH : H l = none := x01.free nl1
    refine for_range (lo := 0) (n := ((wide : Int)).toNat) (fun i σ H' => Ext b c H H' ∧ ∃ (L : List Nat) (y : Option V), σ = [some (.ref b), some (.int q), some (.int most), some (.int wide), some (.int sh), some (.ref l), some (.ref fo), y, none, none] ∧
      H' l = some (.lst ((nl L).map V.int)) ∧ H' fo = some (.lst []) ∧ L.Pairwise (· < ·) ∧ (∀ k ∈ L, k < i) ∧ L.length ≤ i) ⟨x2, [], none, rfl, by rw [upd_ne nlf, upd_same]; rfl, upd_same, List.Pairwise.nil, (fun k hk => by cases hk), Nat.le_refl _⟩ ?_ ?_
    · rintro i σ H' hi ⟨x, L, y, rfl, hl, hf, hp, hk, hlen⟩
      have e1 : ((0 : Int) + (i : Nat)) = ((i : Nat) : Int) := by omega
      have same : Ext b c H H' ∧ ∃ (M : List Nat) (z : Option V), [some (.ref b), some (.int q), some (.int most), some (.int wide), some (.int sh), some (.ref l), some (.ref fo), some (V.int (0 + (i : Nat))), none, none] = [some (.ref b), some (.int q), some (.int most), some (.int wide), some (.int sh), some (.ref l), some (.ref fo), z, none, none] ∧
          H' l = some (.lst ((nl M).map V.int)) ∧ H' fo = some (.lst []) ∧ M.Pairwise (· < ·) ∧ (∀ k ∈ M, k < i + 1) ∧ M.length ≤ i + 1 := ⟨x, L, _, rfl, hl, hf, hp, fun k h => by have := hk k h; omega, by omega⟩
      refine ⟨_, rfl, l, _, rfl, .inl (SqL.of hl), _, rfl, _, _, rfl, rfl, _, rfl, ite2 (fun c1 => ?_) (fun c1 => iteF same)⟩
      refine ⟨_, rfl, _, rfl, b, c, sh, rfl, x.g1, by omega, by omega, fun d H3 d0 d1 x3 => ⟨rfl, _, rfl, ?_⟩⟩
      have hl3 := x3.ints hl
      have hf3 := x3.but _ _ offf.1 hf
      have x13 := x.trans x3
      refine ite2 (fun c2 => ?_) (fun c2 => ⟨x13, L, _, rfl, hl3, hf3, hp, fun k h => by have := hk k h; omega, by omega⟩)
      refine ⟨_, rfl, .inl ⟨rfl, _, SqL.of hl3⟩, _, rfl, l, _, _, rfl, rfl, hl3, ?_, ?_⟩
      · rw [List.length_map, nl_len]
        exact line_gt (by omega)
      · refine ⟨x13.mut lH, L ++ [i], _, rfl, ?_, by rw [upd_ne nlf.symm]; exact hf3, ?_, fun k h => ?_, by rw [List.length_append]; simp; omega⟩
        · rw [upd_same, e1]
          unfold nl
          rw [List.map_append, List.map_append]
          rfl
        · refine List.pairwise_append.mpr ⟨hp, by simp, fun a ha z hz => ?_⟩
          have : z = i := by simpa using hz
          rw [this]; exact hk a ha
        · rcases List.mem_append.mp h with z | z
          · have := hk k z; omega
          · have : k = i := by simpa using z
            omega
    · rintro σ H' ⟨x, L, y, rfl, hl, hf, hp, hk, hlen⟩
      have e0 : ((wide : Int)).toNat = wide := by omega
      rw [e0] at hk hlen
      refine ⟨_, rfl, l, rfl, ⟨_, SqL.of hl⟩, for_list (K := K) (a := l) (xs := (nl L).map V.int) (fun i σ H2 => Ext b c H H2 ∧ H2 l = some (.lst ((nl L).map V.int)) ∧ ∃ (vf : List V) (R : List (List Int)) (y7 y8 y9 : Option V), σ = [some (.ref b), some (.int q), some (.int most), some (.int wide), some (.int sh), some (.ref l), some (.ref fo), y7, y8, y9] ∧
        H2 fo = some (.lst vf) ∧ RowsL H2 vf R ∧ R.length = i ∧ FRows q wide L R) ⟨x, hl, [], [], _, _, _, rfl, hf, .nil, rfl, fun k hk => by simp at hk⟩ (fun i σ H2 _ h => SqL.of h.2.1) ?_ ?_⟩
      · rintro i v σ H2 hv ⟨x5, hl5, vf, R, y7, y8, y9, rfl, hf5, hR, lR, FR⟩
        obtain ⟨hi0, hv2⟩ := ints_of hv
        have hi : i < L.length := by rw [nl_len] at hi0; exact hi0
        rw [nl_getD hi] at hv2
        subst hv2
        generalize hld : L.getD i 0 = lead
        have hlw : lead < wide := by
          rw [← hld, getD_lt 0 hi]
          exact hk _ (List.getElem_mem hi)
        -- row = [0 for ..]
        refine ⟨_, rfl, (wide : Int), rfl, by omega, by omega, fun D nD => ?_⟩
        refine lc_range (lo := 0) (n := ((wide : Int)).toNat) (fun j H3 => Same H2 H3 ∧ H3 D = some (.lst ((List.replicate j (0 : Int)).map V.int))) ⟨same_upd nD, upd_same⟩ ?_ ?_
        · rintro j H3 hj ⟨sm, hd⟩
          refine ⟨rfl, (List.replicate j (0 : Int)).map V.int, hd, ?_, same_mut sm nD, ?_⟩
          · rw [List.length_map, List.length_replicate]
            exact line_gt (by omega)
          · rw [upd_same, List.replicate_succ', List.map_append]
            rfl
        · rintro H3 ⟨sm, hd⟩
          rw [e0] at hd
          have DH : H D = none := x5.free nD
          have nlD : l ≠ D := ne_of_none hl5 nD
          have nfD : fo ≠ D := ne_of_none hf5 nD
          have rD : ∀ a ∈ vf, a ≠ .ref D := RowsL.old (H' := H2) hR nD
          -- row[lead] = 1
          refine ⟨_, rfl, _, rfl, D, _, _, lead, rfl, rfl, hd, ixN_nat (by rw [List.length_map, List.length_replicate]; exact hlw), ?_⟩
          -- the pieces behind
          refine ⟨_, rfl, _, _, rfl, rfl, _, rfl, (lead : Int) + 1, (wide : Int), rfl, ⟨by omega, by omega, by omega, by omega⟩, ?_⟩
          refine for_range (lo := (lead : Int) + 1) (n := ((wide : Int) - ((lead : Int) + 1)).toNat) (fun j σ H4 => Ext b c H H4 ∧ H4 l = some (.lst ((nl L).map V.int)) ∧ H4 fo = some (.lst vf) ∧ RowsL H4 vf R ∧
            (∃ y7, σ = [some (.ref b), some (.int q), some (.int most), some (.int wide), some (.int sh), some (.ref l), some (.ref fo), y7, some (.int (lead : Nat)), some (.ref D)]) ∧ ∃ r, H4 D = some (.lst (List.map V.int r)) ∧ FRow q wide L lead r)
            ⟨(x5.same sm).mut DH, by rw [upd_ne nlD]; exact sm _ _ hl5, by rw [upd_ne nfD]; exact sm _ _ hf5, RowsL.upd2 (hR.same sm) hd rD, ⟨_, rfl⟩, (List.replicate wide 0).set lead 1, ?_, FRow.start q2 hlw⟩ ?_ ?_
          · rw [upd_same, List.map_set]
          · rintro j σ H4 hj ⟨x6, hl6, hf6, hR6, ⟨y7, rfl⟩, r, hr6, F6⟩
            have hjw : lead + 1 + j < wide := by omega
            have e2 : (lead : Int) + 1 + (j : Nat) = ((lead + 1 + j : Nat) : Int) := by omega
            refine ⟨_, rfl, _, rfl, l, _, rfl, .inl (SqL.of hl6), rfl, flat_ints _, _, rfl, ?_⟩
            rw [e2]
            refine ite2 (fun c1 => ?_) (fun c1 => ⟨x6, hl6, hf6, hR6, ⟨_, rfl⟩, r, hr6, F6⟩)
            have hnot : lead + 1 + j ∉ L := fun z => by
              have c2 : (!inV (V.int ((lead + 1 + j : Nat) : Int)) ((nl L).map V.int)) = true := c1
              rw [inV_ints, nl_mem.mpr z] at c2
              cases c2
            refine ⟨_, rfl, _, rfl, b, c, q, rfl, x6.g1, by omega, by omega, fun d H5 d0 d1 x7 => ?_⟩
            have hr7 := x7.ints hr6
            refine ⟨_, rfl, _, rfl, D, _, _, lead + 1 + j, rfl, rfl, hr7, ixN_nat (by rw [List.length_map, F6.row.1]; exact hjw), ?_⟩
            refine ⟨(x6.trans x7).mut DH, by rw [upd_ne nlD]; exact x7.ints hl6, by rw [upd_ne nfD]; exact x7.but _ _ offf.1 hf6, RowsL.upd2 (x7.rowsL hR6) hr7 rD, ⟨_, rfl⟩, r.set (lead + 1 + j) d, ?_, F6.put (by omega) hjw hnot ⟨d0, d1⟩⟩
            rw [upd_same, List.map_set]
          · rintro σ H4 ⟨x6, hl6, hf6, hR6, ⟨y7, rfl⟩, r, hr6, F6⟩
            -- found.append(row)
            have hvf : vf.length = R.length := paired_len hR6
            refine ⟨_, rfl, .inl ⟨rfl, _, SqL.of hf6⟩, _, rfl, fo, vf, _, rfl, rfl, hf6, line_gt (by omega), ?_⟩
            refine ⟨x6.mut fH, by rw [upd_ne nlf]; exact hl6, vf ++ [.ref D], R ++ [r], _, _, _, rfl, upd_same, ?_, by rw [List.length_append, lR]; rfl, FR.more (by rw [lR, hld]; exact F6)⟩
            exact paired_snoc (RowsL.but hf6 hR6 But.refl.upd) ⟨D, rfl, by rw [upd_ne nfD.symm]; exact hr6⟩
      · rintro σ H2 ⟨x5, hl5, vf, R, y7, y8, y9, rfl, hf5, hR, lR, FR⟩
        rw [List.length_map, nl_len] at lR
        exact ⟨_, rfl, hQ H2 fo vf R L x5 fH hf5 hR (FR.red lR hp hk) (by omega)⟩
end
end K16

set_option Elab.async false
set_option linter.all false
set_option maxRecDepth 100000
set_option maxHeartbeats 4000000
/-! _law_stirred. -/
namespace K16
open PySem PySem.Spec PyProof.Rows L2
theorem scaledL_take {r : List Int} {f q : Int} {i : Nat} (h : i < r.length) : ((scaledL r f q).take (i + 1)).map V.int = ((scaledL r f q).take i).map V.int ++ [.int (f * r.getD i 0 % q)] := by
  rw [map_take_snoc (by unfold scaledL; rw [List.length_map]; exact h), scaled_getD, Int.mul_comm]
theorem lessL_take {r s : List Int} {f q : Int} {i : Nat} (hl : r.length = s.length) (h : i < r.length) : ((lessL r s (-f) q).take (i + 1)).map V.int = ((lessL r s (-f) q).take i).map V.int ++ [.int ((r.getD i 0 + f * s.getD i 0) % q)] := by
  rw [map_take_snoc (by unfold lessL; rw [List.length_map, List.length_zip]; omega), less_getD hl, Int.neg_mul, Int.sub_neg]
theorem sqT_list {K : PySem.W.Frag} {H : Hp} {D a : Addr} {us ws xs : List V} (h : SqT K H a xs) (hd : H D = some (.lst us)) : SqT K (upd H D (.lst ws)) a xs := by
  rcases h with (h | ⟨o, h⟩) | h
  · exact .inl (.inl (by rw [upd_ne (ne_of h hd (by intro z; cases z))]; exact h))
  · exact .inl (.inr ⟨o, by rw [upd_ne (ne_of h hd (by intro z; cases z))]; exact h⟩)
  · exact .inr h
section
variable {P : Program} {w : World} {K : PySem.W.Frag} {mg : Str → Option Value} {base : Heap}
theorem scSt : FnScope ["_law_bag_here", "_law_q", "_law_form", "_law_zeros", "_law_grid", "_law_step", "_law_i", "_law_j", "_law_f", "_law_row", "_law_x", "_law_y"] ["_law_bag_here", "_law_q", "_law_form", "_law_zeros"] (defScope sStirred) := ⟨rfl, rfl, rfl, by decide +kernel, rfl, by decide +kernel, by decide +kernel⟩
def spStirred (K : PySem.W.Frag) : Sp := fun vs H Q _ => ∃ (b c fo ze : Addr) (q : Int) (many : Nat) (xs zs : List V) (R Z : List (List Int)), vs = [.ref b, .int q, .ref fo, .ref ze] ∧ Good b c H ∧ fo ≠ b ∧ ze ≠ b ∧ H fo = some (.lst xs) ∧ H ze = some (.lst zs) ∧ RowsL H xs R ∧ RowsL H zs Z ∧ (∀ r ∈ R ++ Z, Row q (many + 1) r) ∧ many ≤ 100 ∧ R.length + Z.length ≤ 100 ∧ q ∈ primes ∧
  ∀ (H' : Hp) (p : Addr) (us : List V) (G : List (List Int)), Ext b c H H' → H p = none → H' p = some (.lst us) → RowsT K H' us G → (∀ r ∈ G, Row q (many + 1) r) → Like q many (R ++ Z) G → G.length = R.length + Z.length → Q (.ref p) H'
theorem ok_stirred (T : Txt mg) (F : FnAt K mg "_law_stirred" sStirred ["_law_bag_here", "_law_q", "_law_form", "_law_zeros"]) (GD : DefOk P w K mg base CX0 1 "_law_draw" ["_law_bag_here", "_law_limit"] spDraw) (GT : DefOk P w K mg base CX0 2 "_law_turned" ["_law_bag_here", "_law_things"] spTurned) :
    DefOk P w K mg base CX0 3 "_law_stirred" ["_law_bag_here", "_law_q", "_law_form", "_law_zeros"] (spStirred K) := by
  refine mk0 F scSt (fun vs H Q E h => ?_) (fun f cdv A outer s H vs Q E hr h => ?_)
  · obtain ⟨b, c, fo, ze, q, many, xs, zs, R, Z, rfl, _⟩ := h
    rfl
  · obtain ⟨b, c, fo, ze, q, many, xs, zs, R, Z, rfl, G, nf, nz, hf, hz, hR, hZ, hrow, hm, hl, hq, hQ⟩ := h
    refine ⟨_, (pss_cons (ps_set (i := 4) scSt.nd rfl (.inl rfl) (pe_op op_cat (pe_lc (own := [("_law_row", 9)]) (g := (gName 9)) (tt := tYes) rfl scSt.nd (pi_list (pv 2)) (blkOk_by (N := ["_law_bag_here", "_law_q", "_law_form", "_law_zeros", "_law_grid", "_law_step", "_law_i", "_law_j", "_law_f", "_law_row", "_law_x", "_law_y"]) (sc := defScope sStirred) (by decide +kernel)) (fun _ _ _ _ _ => (by exact pg_name (i := 9) scSt.nd rfl (Or.inl rfl))) (fun _ _ _ _ _ => pts_nil) (fun _ _ _ _ _ => (pe_callTy (r := rListOf K) call_listOf (by rfl) T.list_ bt_list (pa_cons (pv 9) pa_nil)))) (pe_lc (own := [("_law_row", 9)]) (g := (gName 9)) (tt := tYes) rfl scSt.nd (pi_list (pv 3)) (blkOk_by (N := ["_law_bag_here", "_law_q", "_law_form", "_law_zeros", "_law_grid", "_law_step", "_law_i", "_law_j", "_law_f", "_law_row", "_law_x", "_law_y"]) (sc := defScope sStirred) (by decide +kernel)) (fun _ _ _ _ _ => (by exact pg_name (i := 9) scSt.nd rfl (Or.inl rfl))) (fun _ _ _ _ _ => pts_nil) (fun _ _ _ _ _ => (pe_callTy (r := rListOf K) call_listOf (by rfl) T.list_ bt_list (pa_cons (pv 9) pa_nil))))))
      (Evl.pss_cut (ps_for PassesOwn.never rfl (pi_range1 (by rfl) T.range_ (pa_cons (pe_ifExp (pt_truth (pv 4) (by intro _; rfl)) (pe_callD GD (hr.mono (by decide)) pass0 (pa_cons (pv 0) (pa_cons pe_int pa_nil))) pe_int) pa_nil)) (pg_name (i := 5) scSt.nd rfl (.inl rfl))
      (pss_cons (ps_asg (pe_tup (pa_cons (pe_callD GD (hr.mono (by decide)) pass0 (pa_cons (pv 0) (pa_cons (pe_callB call_len_seq (by rfl) T.len_ boot_len (pa_cons (pv 4) pa_nil)) pa_nil))) (pa_cons (pe_callD GD (hr.mono (by decide)) pass0 (pa_cons (pv 0) (pa_cons (pe_callB call_len_seq (by rfl) T.len_ boot_len (pa_cons (pv 4) pa_nil)) pa_nil))) (pa_cons (pe_op op_add pe_int (pe_callD GD (hr.mono (by decide)) pass0 (pa_cons (pv 0) (pa_cons (pe_op op_sub (pv 1) pe_int) pa_nil)))) pa_nil)))) (pg_tup rfl (pgs_cons (pg_name (i := 6) scSt.nd rfl (.inl rfl)) (pgs_cons (pg_name (i := 7) scSt.nd rfl (.inl rfl)) (pgs_cons (pg_name (i := 8) scSt.nd rfl (.inr rfl)) pgs_nil)))))
      (pss_one (ps_if (pt_cmpR op_eq (pv 6) (pv 7) (nomark _)) (pss_one (ps_asg (pe_lc (own := [("_law_x", 10)]) (g := (gName 10)) (tt := tYes) rfl scSt.nd (pi_list (pe_ix ix_list (pv 4) (pv 6) (fun _ _ => rfl))) (blkOk_by (N := ["_law_bag_here", "_law_q", "_law_form", "_law_zeros", "_law_grid", "_law_step", "_law_i", "_law_j", "_law_f", "_law_row", "_law_x", "_law_y"]) (sc := defScope sStirred) (by decide +kernel)) (fun _ _ _ _ _ => (by exact pg_name (i := 10) scSt.nd rfl (Or.inl rfl))) (fun _ _ _ _ _ => pts_nil) (fun _ _ _ _ _ => (pe_op op_mod (pe_callTy call_int1 (by rfl) T.int_ bt_int (pa_cons (pe_op op_mul (pv 8) (pv 10)) pa_nil)) (pv 1)))) (pg_sub (pv 4) (pv 6) set_list))) (pss_one (ps_asg (pe_lc (own := [("_law_x", 10), ("_law_y", 11)]) (g := (gTup K 2 (gCons (gName 10) (gCons (gName 11) gNil)))) (tt := tYes) rfl scSt.nd (pi_zip (by rfl) T.zip_ (pa_cons (pe_ix ix_list (pv 4) (pv 6) (fun _ _ => rfl)) (pa_cons (pe_ix ix_list (pv 4) (pv 7) (fun _ _ => rfl)) pa_nil))) (blkOk_by (N := ["_law_bag_here", "_law_q", "_law_form", "_law_zeros", "_law_grid", "_law_step", "_law_i", "_law_j", "_law_f", "_law_row", "_law_x", "_law_y"]) (sc := defScope sStirred) (by decide +kernel)) (fun _ _ _ _ _ => (pg_tup rfl (by exact pgs_cons (by exact pg_name (i := 10) scSt.nd rfl (Or.inl rfl)) (by exact pgs_cons (by exact pg_name (i := 11) scSt.nd rfl (Or.inl rfl)) pgs_nil)))) (fun _ _ _ _ _ => pts_nil) (fun _ _ _ _ _ => (pe_op op_mod (pe_callTy call_int1 (by rfl) T.int_ bt_int (pa_cons (pe_op op_add (pv 10) (pe_op op_mul (pv 8) (pv 11))) pa_nil)) (pv 1)))) (pg_sub (pv 4) (pv 6) set_list)))))))
      (pss_one (ps_ret (pe_lc (own := [("_law_row", 9)]) (g := (gName 9)) (tt := tYes) rfl scSt.nd (pi_list (pe_callD GT hr pass0 (pa_cons (pv 0) (pa_cons (pv 4) pa_nil)))) (blkOk_by (N := ["_law_bag_here", "_law_q", "_law_form", "_law_zeros", "_law_grid", "_law_step", "_law_i", "_law_j", "_law_f", "_law_row", "_law_x", "_law_y"]) (sc := defScope sStirred) (by decide +kernel)) (fun _ _ _ _ _ => (by exact pg_name (i := 9) scSt.nd rfl (Or.inl rfl))) (fun _ _ _ _ _ => pts_nil) (fun _ _ _ _ _ => (pe_callTy (r := rTupOf K) call_tupOf (by rfl) T.tuple_ bt_tuple (pa_cons (pv 9) pa_nil)))))))), ?_⟩
    have hxl : xs.length = R.length := paired_len hR
    have hzl : zs.length = Z.length := paired_len hZ
    -- the copies
    refine ⟨_, rfl, fo, rfl, ⟨_, SqL.of hf⟩, fun D nD => ?_⟩
    refine lc_it (walk_list (K := K) (a := fo) (xs := xs)) (fun i H' => Same H H' ∧ Tab H' D (R.take i)) ⟨same_upd nD, [], upd_same, .nil⟩ (fun i H' _ h => SqL.of (h.1 _ _ hf)) ?_ ?_
    · rintro i x H3 H2 hi ⟨sm, zs1, hz1, hZ1⟩ ⟨rfl, hx⟩
      obtain ⟨v, hv, a, rfl, ha⟩ := paired_get hR (by omega : i < R.length) []
      rw [hx] at hv
      cases hv
      refine ⟨rfl, _, rfl, a, _, rfl, .inl (SqL.of (sm _ _ ha)), fun l nl => ?_⟩
      have nlD : D ≠ l := ne_of_none hz1 nl
      have e0 : (upd H2 l (.lst ((R.getD i []).map V.int))) D = some (.lst zs1) := by rw [upd_ne nlD]; exact hz1
      refine ⟨zs1, e0, ?_, same_mut (Same.trans sm (same_upd nl)) nD, zs1 ++ [.ref l], upd_same, ?_⟩
      · have := paired_len hZ1
        rw [this, List.length_take]
        exact line_gt (by omega)
      · rw [take_snoc (by omega : i < R.length) []]
        have k1 : RowsL (upd H2 l (.lst ((R.getD i []).map V.int))) zs1 (R.take i) := hZ1.same (same_upd nl)
        exact paired_snoc (RowsL.but e0 k1 But.refl.upd) ⟨l, rfl, by rw [upd_ne nlD.symm, upd_same]⟩
    rintro H1 ⟨sm1, us1, hu1, hU1⟩
    rw [hxl, List.take_length] at hU1
    refine ⟨_, rfl, ze, rfl, ⟨_, SqL.of (sm1 _ _ hz)⟩, fun D2 nD2 => ?_⟩
    have nDD : D ≠ D2 := ne_of_none hu1 nD2
    refine lc_it (walk_list (K := K) (a := ze) (xs := zs)) (fun i H' => Same H1 H' ∧ Tab H' D2 (Z.take i)) ⟨same_upd nD2, [], upd_same, .nil⟩ (fun i H' _ h => SqL.of (h.1 _ _ (sm1 _ _ hz))) ?_ ?_
    · rintro i x H3 H2 hi ⟨sm, zs1, hz1, hZ1⟩ ⟨rfl, hx⟩
      obtain ⟨v, hv, a, rfl, ha⟩ := paired_get hZ (by omega : i < Z.length) []
      rw [hx] at hv
      cases hv
      refine ⟨rfl, _, rfl, a, _, rfl, .inl (SqL.of (sm _ _ (sm1 _ _ ha))), fun l nl => ?_⟩
      have nlD : D2 ≠ l := ne_of_none hz1 nl
      have e0 : (upd H2 l (.lst ((Z.getD i []).map V.int))) D2 = some (.lst zs1) := by rw [upd_ne nlD]; exact hz1
      refine ⟨zs1, e0, ?_, same_mut (Same.trans sm (same_upd nl)) nD2, zs1 ++ [.ref l], upd_same, ?_⟩
      · have := paired_len hZ1
        rw [this, List.length_take]
        exact line_gt (by omega)
      · rw [take_snoc (by omega : i < Z.length) []]
        have k1 : RowsL (upd H2 l (.lst ((Z.getD i []).map V.int))) zs1 (Z.take i) := hZ1.same (same_upd nl)
        exact paired_snoc (RowsL.but e0 k1 But.refl.upd) ⟨l, rfl, by rw [upd_ne nlD.symm, upd_same]⟩
    rintro H2 ⟨sm2, us2, hu2, hU2⟩
    rw [hzl, List.take_length] at hU2
    have l1 : us1.length = R.length := paired_len hU1
    have l2 : us2.length = Z.length := paired_len hU2
    have s12 : Same H H2 := Same.trans sm1 sm2
    refine ⟨D, D2, us1, us2, rfl, rfl, sm2 _ _ hu1, hu2, line_ge (by omega), fun o no => ?_⟩
    have x0 : Ext b c H (upd H2 o (.lst (us1 ++ us2))) := Ext.of G (s12.trans (same_upd no))
    have oH : H o = none := by
      cases e : H o with
      | none => rfl
      | some u => rw [s12 _ _ e] at no; cases no
    have W0 : RowsL (upd H2 o (.lst (us1 ++ us2))) (us1 ++ us2) (R ++ Z) := RowsL.same (paired_app (RowsL.same hU1 sm2) hU2) (same_upd no)
    have nob : o ≠ b := (G.off oH).1
    have W0l : (us1 ++ us2).length = R.length + Z.length := by rw [List.length_append]; omega
    have W0n : (R ++ Z).length = R.length + Z.length := List.length_append
    have qp := prime_pos hq
    refine ⟨fun σ' H3 => ∃ (y5 y6 y7 y8 : Option V) (ws : List V) (M : List (List Int)), σ' = [some (.ref b), some (.int q), some (.ref fo), some (.ref ze), some (.ref o), y5, y6, y7, y8, none, none, none] ∧ Ext b c H H3 ∧ H3 o = some (.lst ws) ∧ RowsL H3 ws M ∧ M.length = R.length + Z.length ∧ (∀ r ∈ M, Row q (many + 1) r) ∧ Like q many (R ++ Z) M, ?_, ?_⟩
    · refine ⟨_, rfl, !(us1 ++ us2).isEmpty, .inl ⟨_, SqL.of upd_same, rfl⟩, ite2 (fun c1 => ?_) (fun c1 => ?_)⟩
      · have hpos : 0 < R.length + Z.length := by
          rw [← W0l]
          cases e : us1 ++ us2 with
          | nil => rw [e] at c1; exact absurd c1 (by decide)
          | cons _ _ => simp
        refine ⟨_, rfl, b, c, 13, rfl, x0.g1, by decide, by decide, fun d H3 d0 d1 x1 => ?_⟩
        refine ⟨_, rfl, by omega, by omega, ?_⟩
        refine for_range (lo := 0) (n := d.toNat) (fun i σ' H3 => ∃ (y5 y6 y7 y8 : Option V) (ws : List V) (M : List (List Int)), σ' = [some (.ref b), some (.int q), some (.ref fo), some (.ref ze), some (.ref o), y5, y6, y7, y8, none, none, none] ∧ Ext b c H H3 ∧ H3 o = some (.lst ws) ∧ RowsL H3 ws M ∧ M.length = R.length + Z.length ∧ (∀ r ∈ M, Row q (many + 1) r) ∧ Like q many (R ++ Z) M)
          ⟨_, _, _, _, us1 ++ us2, R ++ Z, rfl, x0.trans x1, x1.but _ _ nob upd_same, x1.rowsL W0, W0n, hrow, Like.refl⟩ ?_ ?_
        · rintro i σ' H4 hi ⟨y5, y6, y7, y8, ws, M, rfl, x2, hw, hW, lM, rM, lk⟩
          have wl : ws.length = M.length := paired_len hW
          refine ⟨_, rfl, _, rfl, o, ws, rfl, .inl (SqL.of hw), b, c, _, rfl, x2.g1, by omega, by omega, fun di H5 a0 a1 x3 => ?_⟩
          have hw3 := x3.but _ _ nob hw
          refine ⟨_, rfl, _, rfl, o, ws, rfl, .inl (SqL.of hw3), b, c, _, rfl, x3.g1, by omega, by omega, fun dj H6 b0 b1 x4 => ?_⟩
          have hw4 := x4.but _ _ nob hw3
          refine ⟨_, rfl, _, rfl, _, _, rfl, rfl, b, c, q - 1, rfl, x4.g1, by omega, by omega, fun dk H7 e0 e1 x5 => ⟨_, _, rfl, rfl, ?_⟩⟩
          have hw5 := x5.but _ _ nob hw4
          have x35 := (x3.trans x4).trans x5
          have x25 := x2.trans x35
          have hW5 := x35.rowsL hW
          refine ⟨(by show 3 ≤ sizeLine; exact line_ge (by decide)), fun tp ntp => ?_⟩
          have stp : Same H7 (upd H7 tp (.tup [.int di, .int dj, .int (1 + dk)])) := same_upd ntp
          refine ⟨tp, _, rfl, SqT.of upd_same, rfl, _, _, rfl, _, _, rfl, _, _, rfl, rfl, ?_⟩
          have x26 := x25.same stp
          have hw6 := stp _ _ hw5
          have hW6 := RowsL.same hW5 stp
          generalize upd H7 tp (.tup [.int di, .int dj, .int (1 + dk)]) = H8 at x26 hw6 hW6
          obtain ⟨i, rfl⟩ : ∃ i : Nat, di = (i : Int) := ⟨di.toNat, by omega⟩
          obtain ⟨j, rfl⟩ : ∃ j : Nat, dj = (j : Int) := ⟨dj.toNat, by omega⟩
          have hi2 : i < M.length := by omega
          have hj2 : j < M.length := by omega
          obtain ⟨v, hv, a, rfl, ha⟩ := paired_get hW6 hi2 []
          obtain ⟨v2, hv2, a2, rfl, ha2⟩ := paired_get hW6 hj2 []
          have ri := row_ix rM hi2
          have rj := row_ix rM hj2
          refine ⟨_, rfl, _, rfl, rfl, _, rfl, ite2 (fun c1 => ?_) (fun c1 => ?_)⟩
          · have eij : i = j := by have := V.int.inj (of_decide_eq_true c1); omega
            refine ⟨_, rfl, _, rfl, o, ws, _, .ref a, rfl, rfl, SqL.of hw6, atI_nat hv, a, rfl, ⟨_, SqL.of ha⟩, fun D nD => ?_⟩
            refine lc_it (walk_list (K := K) (a := a) (xs := (M.getD i []).map V.int)) (fun k H' => Same H8 H' ∧ H' D = some (.lst (((scaledL (M.getD i []) (1 + dk) q).take k).map V.int))) ⟨same_upd nD, upd_same⟩ (fun k H' _ h => SqL.of (h.1 _ _ ha)) ?_ ?_
            · rintro k x H10 H9 hk ⟨sm, hd⟩ ⟨rfl, hx⟩
              obtain ⟨k1, rfl⟩ := ints_of hx
              have hk2 : k < (M.getD i []).length := k1
              refine ⟨rfl, _, rfl, _, rfl, _, _, rfl, rfl, .inl ⟨by omega, by omega⟩, .inl ⟨_, rfl, _, rfl, _, _, rfl, rfl, by omega, _, hd, ?_, same_mut sm nD, ?_⟩⟩
              · rw [List.length_map, List.length_take]
                have := ri.1
                exact line_gt (by omega)
              · rw [upd_same, scaledL_take hk2]
            · rintro H9 ⟨sm, hd⟩
              have er : ((M.getD i []).map V.int).length = (scaledL (M.getD i []) (1 + dk) q).length := by simp [scaledL]
              rw [er, List.take_length] at hd
              have hw9 := sm _ _ hw6
              have nod : o ≠ D := ne_of_none hw6 nD
              refine ⟨_, rfl, _, rfl, o, ws, _, i, rfl, rfl, hw9, ixN_nat (by omega), ?_⟩
              refine ⟨_, _, _, _, ws.set i (.ref D), M.set i (scaledL (M.getD i []) (1 + dk) q), rfl, (x26.same sm).mut oH, upd_same, ?_, by rw [List.length_set]; exact lM, set_rows rM (scaled_row (by omega) ri _), lk.trans (like_scaled (unit_of hq (by omega) (by omega)) hi2)⟩
              exact paired_set ⟨D, rfl, by rw [upd_ne nod.symm]; exact hd⟩ i (RowsL.but hw9 (RowsL.same hW6 sm) But.refl.upd)
          · have nij : i ≠ j := fun e => c1 (by rw [e]; exact decide_eq_true rfl)
            have hll : (M.getD i []).length = (M.getD j []).length := by rw [ri.1, rj.1]
            refine ⟨_, rfl, _, rfl, o, ws, _, .ref a, rfl, rfl, SqL.of hw6, atI_nat hv, _, rfl, _, rfl, o, ws, _, .ref a2, rfl, rfl, SqL.of hw6, atI_nat hv2, a, a2, _, _, rfl, SqL.of ha, SqL.of ha2, fun D nD => ?_⟩
            refine lc_it (walk_zip (K := K) (a := a) (b := a2) (xs := (M.getD i []).map V.int) (ys := (M.getD j []).map V.int) (n := (M.getD i []).length) (by rw [List.length_map, List.length_map]; omega)) (fun k H' => Same H8 H' ∧ H' D = some (.lst (((lessL (M.getD i []) (M.getD j []) (-(1 + dk)) q).take k).map V.int))) ⟨same_upd nD, upd_same⟩ (fun k H' _ h => ⟨SqL.of (h.1 _ _ ha), SqL.of (h.1 _ _ ha2)⟩) ?_ ?_
            · rintro k u H10 H9 hk ⟨sm, hd⟩ ⟨p, z1, z2, rfl, np, rfl, ex, ey⟩
              obtain ⟨k1, rfl⟩ := ints_of ex
              obtain ⟨k2, rfl⟩ := ints_of ey
              have nD2 : D ≠ p := ne_of_none hd np
              refine ⟨p, _, rfl, SqT.of upd_same, rfl, _, _, rfl, _, _, rfl, rfl, rfl, _, rfl, _, rfl, _, rfl, _, _, rfl, rfl, .inl ⟨by omega, by omega⟩, _, _, rfl, rfl, .inl ⟨_, rfl, _, rfl, _, _, rfl, rfl, by omega, ((lessL (M.getD i []) (M.getD j []) (-(1 + dk)) q).take k).map V.int, ?_, ?_, ?_, ?_⟩⟩
              · rw [upd_ne nD2]; exact hd
              · rw [List.length_map, List.length_take]
                have := ri.1
                exact line_gt (by omega)
              · exact same_mut (Same.trans sm (same_upd np)) nD
              · rw [upd_same, lessL_take hll k1]
            · rintro H9 ⟨sm, hd⟩
              have er : (M.getD i []).length = (lessL (M.getD i []) (M.getD j []) (-(1 + dk)) q).length := by unfold lessL; rw [List.length_map, List.length_zip]; omega
              rw [er, List.take_length] at hd
              have hw9 := sm _ _ hw6
              have nod : o ≠ D := ne_of_none hw6 nD
              refine ⟨_, rfl, _, rfl, o, ws, _, i, rfl, rfl, hw9, ixN_nat (by omega), ?_⟩
              refine ⟨_, _, _, _, ws.set i (.ref D), M.set i (lessL (M.getD i []) (M.getD j []) (-(1 + dk)) q), rfl, (x26.same sm).mut oH, upd_same, ?_, by rw [List.length_set]; exact lM, set_rows rM (less_row (by omega) ri rj.1 _), lk.trans (like_less rM hi2 hj2 nij)⟩
              exact paired_set ⟨D, rfl, by rw [upd_ne nod.symm]; exact hd⟩ i (RowsL.but hw9 (RowsL.same hW6 sm) But.refl.upd)
        · exact fun σ' H4 h => h
      · refine ⟨0, rfl, by decide, by decide, ?_⟩
        exact for_range (lo := 0) (n := 0) (fun i σ' H3 => ∃ (y5 y6 y7 y8 : Option V) (ws : List V) (M : List (List Int)), σ' = [some (.ref b), some (.int q), some (.ref fo), some (.ref ze), some (.ref o), y5, y6, y7, y8, none, none, none] ∧ Ext b c H H3 ∧ H3 o = some (.lst ws) ∧ RowsL H3 ws M ∧ M.length = R.length + Z.length ∧ (∀ r ∈ M, Row q (many + 1) r) ∧ Like q many (R ++ Z) M)
          ⟨_, _, _, _, us1 ++ us2, R ++ Z, rfl, x0, upd_same, W0, W0n, hrow, Like.refl⟩ (fun i σ' H3 hi => absurd hi (Nat.not_lt_zero i)) (fun σ' H4 h => h)
    · rintro σ' H3 ⟨y5, y6, y7, y8, ws, M, rfl, x2, hw, hW, lM, rM, lk⟩
      have wl : ws.length = M.length := paired_len hW
      refine ⟨_, rfl, _, rfl, b, c, o, ws, M, rfl, x2.g1, nob, hw, hW, by omega, fun H4 p us N x3 np hp hN nl nm => ?_⟩
      have ul : us.length = N.length := paired_len hN
      refine ⟨p, rfl, ⟨_, SqL.of hp⟩, fun D3 nD3 => ?_⟩
      refine lc_it (walk_list (K := K) (a := p) (xs := us)) (fun i H' => Same H4 H' ∧ ∃ ts, H' D3 = some (.lst ts) ∧ RowsT K H' ts (N.take i)) ⟨same_upd nD3, [], upd_same, .nil⟩ (fun i H' _ h => SqL.of (h.1 _ _ hp)) ?_ ?_
      · rintro i x H6 H5 hi ⟨sm, ts, ht, hT⟩ ⟨rfl, hx⟩
        obtain ⟨v, hv, a, rfl, ha⟩ := paired_get hN (by omega : i < N.length) []
        rw [hx] at hv
        cases hv
        refine ⟨rfl, _, rfl, a, _, rfl, .inl ⟨SqL.of (sm _ _ ha), fun l nl => ?_⟩⟩
        have nlD : D3 ≠ l := ne_of_none ht nl
        have e0 : (upd H5 l (.tup ((N.getD i []).map V.int))) D3 = some (.lst ts) := by rw [upd_ne nlD]; exact ht
        refine ⟨ts, e0, ?_, same_mut (Same.trans sm (same_upd nl)) nD3, ts ++ [.ref l], upd_same, ?_⟩
        · have := paired_len hT
          rw [this, List.length_take]
          exact line_gt (by omega)
        · rw [take_snoc (by omega : i < N.length) []]
          have k1 : RowsT K (upd H5 l (.tup ((N.getD i []).map V.int))) ts (N.take i) := hT.same (same_upd nl)
          have k2 : SqT K (upd H5 l (.tup ((N.getD i []).map V.int))) l ((N.getD i []).map V.int) := SqT.of upd_same
          exact paired_snoc (RowsT.list k1 e0) ⟨l, rfl, sqT_list k2 e0⟩
      · rintro H5 ⟨sm, ts, ht, hT⟩
        rw [ul, List.take_length] at hT
        refine hQ H5 D3 ts N ((x2.trans x3).same sm) ((x2.trans x3).free nD3) ht hT (fun r hr => rM r ((nm r).mp hr)) (lk.trans (Like.mem fun r => (nm r).symm)) (by omega)
end
end K16

set_option Elab.async false
set_option linter.all false
set_option maxRecDepth 100000
set_option maxHeartbeats 4000000
/-! A lambda handed to a def that catches what the lambda's body lets out, the catcher's slots known; _law_ask. -/
namespace K16
open PySem PySem.Spec PyProof.Rows L2 LamX
section
variable {X : Cx} {pins : List (Addr × Obj)} {σ : L2.St} {H HZ : Hp} {s s1 : Shared}
/-- the got lambda called; what it lets out is wished for at the caller's slots -/
theorem pe_actS {CXg : CXT} {Eg : XK} {Ng : List Str} {qg : Str} {sg : Scope} {g f c' : Addr} {cdg pm ctv : Value} {params : Arguments} {body : Expr} {scope : Scope} {k i : Nat} {a : Str} {pn : List (Addr × Obj)} {xe : Value → Shared → Prop} {E : L2.St → XK} {tb : XK → TE} {p1 p2 : Pos}
    (I : Inv X pins σ H s) (L : LamS X.env.scope scope) (hf : s.heap.get? f = some (PySem.W.kla_obj "<lambda>" (X.env.qual ++ "<lambda>") params body scope (cloFrom X.env.cells scope.names []) pm c' ctv)) (hfn : H f = none) (hfr : f ∉ frs X.stack)
    (hbind : bindArgs (PySem.W.kla_fn "<lambda>" (X.env.qual ++ "<lambda>") params body scope (cloFrom X.env.cells scope.names []) pm (.ref c') ctv) ⟨[], []⟩ = pure [])
    (hx : ∀ σ, PassesAt (L2.CX X.prog X.w) ((cxOf CXg X.prog X.w X.K X.mg X.base Ng qg sg g cdg X.A X.stack s H Eg).tr pn xe) σ (E σ)) (hr : Room (k + 1) (X.A.deeper (envOfC qg sg s.heap.objs.size g cdg)))
    (hbody : ∀ (A : Around) (outer : List Env) (s : Shared) (H : Hp) (E : XK), Room k (A.deeper (lamEnv X scope s.heap.objs.size f c')) → PE (lamCx X A outer s H E scope f c') body (tb E))
    (hN : Ng[i]? = some a) (hv : Vis sg a) (hd : (a == ("__debug__" : Str)) = false := by decide) (hcd : (a == ("__classdict__" : Str)) = false := by decide) :
    PE ((cxOf CXg X.prog X.w X.K X.mg X.base Ng qg sg g cdg X.A X.stack s H Eg).tr pn xe) (.Call (.Name a p1) [] [] p2)
      (fun σZ HZ Q => σZ[i]? = some (some (.ref f)) ∧ HZ c' = some (CodeO c' (X.env.qual ++ "<lambda>")) ∧ tb (E σZ) σ HZ Q) := by
  refine ⟨fun pinsZ sZ σZ HZ Q IZ ⟨hs, hc, ht⟩ => ?_⟩
  refine wpAny_Call_Name_kw (thn ((pe_var (pos := p1) (i := i) hN hv hd hcd).run pinsZ sZ σZ HZ (fun v H1 => v = .ref f ∧ H1 = HZ) IZ ⟨.ref f, hs, rfl, rfl⟩) fun u s1 ⟨v, H1, I1, r1, q1⟩ => ?_)
  obtain ⟨rfl, rfl⟩ := q1
  obtain rfl : u = Value.ref f := r1
  have of1 := I1.base.keep f _ hf hfn hfr (fun z => nomatch (show f ∈ ([] : List Addr) from z))
  have of2 : s1.heap.get? f = some (PySem.W.kla_obj "<lambda>" (X.env.qual ++ "<lambda>") params body scope (cloFrom X.env.cells scope.names []) pm c' ctv) := of1
  refine PySem.W.callWith_F0 ⟨_, _, _, _, of2⟩ (wpAny_call ?_)
  have un : Un (frs X.stack) [] H H1 s.heap s1.heap := I1.base
  obtain ⟨⟨oc, vs, t, hoc, hdc, hvc⟩, _, _⟩ := I1.hok c' _ hc
  have rc : codeAny (model X.prog X.w) (X.A.deeper (envOfC qg sg s.heap.objs.size g cdg)) (.call (.ref f) ⟨[], []⟩) (CR (L2.CX X.prog X.w) (envOfC qg sg s.heap.objs.size g cdg :: X.stack) X.prog X.w H1 s1 Q (E σZ)) s1 := by
    refine PySem.W.kla_callFunE hr.depth of2 rfl L.co L.gen rfl ⟨c', oc, vs, t, rfl, hoc, hdc, hvc⟩ ?_
    rw [hbind]
    refine wpAny_pure (wpAny_newFunctionEnv (fun y hy => (L.own y hy).2) (fun y hy => absurd hy (by simp)) (fun h₁ hns hsb => ⟨I1.nolimit.fresh _ hsb, ?_⟩) L.kind)
    have J : Inv (lamCx X (X.A.deeper (envOfC qg sg s.heap.objs.size g cdg)) (envOfC qg sg s.heap.objs.size g cdg :: X.stack) s1 H1 (E σZ) scope f c') [] σ H1 { s1 with heap := h₁, toks := s1.toks + ([] : List (Str × Value)).length } :=
      lam_start2 I L I1.env0 hr.hd un hns fun b o e => hsb.extBut b o (Nat.ne_of_lt (Heap.lt_size e)) (Heap.get?_push_of_some _ e)
    refine PySem.W.kla_codeExpr (wpAny_mono ((hbody _ _ s1 H1 _ (hr.deeper _)).run [] _ _ H1 Q J ht) (fun v s' ⟨w', H', J', rv, q⟩ => ?_) fun e s' hq => hq)
    exact ⟨w', H', J'.os, J'.bare, J'.base, J'.hok, rv, q⟩
  refine codeAny_mono rc fun r s' hq => ?_
  match r, hq with
  | .error e, hq => exact hx σZ pinsZ H1 s1 e s' I1 hq
  | .ok (.ret u), hq => exact I1.after hq
  | .ok .next, hq => exact False.elim hq
  | .ok .brk, hq => exact False.elim hq
  | .ok .cont, hq => exact False.elim hq
end
/-- the def that calls what it got, its slots known where it catches -/
def GivesS (X : Cx) (Ng : List Str) (x : Str) (sg : Scope) (g : Addr) (cdg : Value) (bg : List Stmt) (a : Str) (q : Str) (TT : (XK → Hp → VK → Prop) → Hp → VK → Prop) : Prop :=
  ∀ (f c' : Addr) (s : Shared) (H : Hp) (Q : VK) (tl : XK → Hp → VK → Prop),
    (∀ (pn : List (Addr × Obj)) (xe : Value → Shared → Prop) (E : L2.St → XK) (p1 p2 : Pos), (∀ σ, PassesAt (L2.CX X.prog X.w) ((cxOf CX0 X.prog X.w X.K X.mg X.base Ng x sg g cdg X.A X.stack s H E0).tr pn xe) σ (E σ)) →
      PE ((cxOf CX0 X.prog X.w X.K X.mg X.base Ng x sg g cdg X.A X.stack s H E0).tr pn xe) (.Call (.Name a p1) [] [] p2) (fun σZ HZ Q => σZ[0]? = some (some (.ref f)) ∧ HZ c' = some (CodeO c' q) ∧ tl (E σZ) HZ Q)) →
    H c' = some (CodeO c' q) → TT tl H Q →
    ∃ t, PSs (cxOf CX0 X.prog X.w X.K X.mg X.base Ng x sg g cdg X.A X.stack s H E0).nox bg t ∧ t { nx := fun _ H' => Q .non H', rt := Q } (L2.start Ng [.ref f]) H
section
variable {X : Cx}
/-- x(lambda: body), x such a def -/
theorem pe_lamS {T : List (Addr × Str)} {TT : (XK → Hp → VK → Prop) → Hp → VK → Prop} {x a : Str} {g c P : Addr} {k : Nat} {pg : Arguments} {bg : List Stmt} {sg : Scope} {dV kV doc pm cdv ct oc : Value} {an od : Option Addr} {osl : Array (Option Value)} {Ng : List Str}
    {params : Arguments} {body : Expr} {scope : Scope} {t : XK → TE} {p lpos pos : Pos} (hg : Gl X x) (hm : X.mg x = some (.ref g)) (hk : PySem.W.keepIn X.K (.ref g) = true)
    (lk : X.K.lookup g = some ⟨oc, od, .func (PySem.W.fnOf x x pg bg sg dV kV doc pm an cdv ct), osl⟩) (hcg : PySem.W.codeIn X.K cdv x = true) (hb : L2.Binds X.K (PySem.W.fnOf x x pg bg sg dV kV doc pm an cdv ct) [a] []) (Sg : FnScope Ng [a] sg) (hNg : Ng[0]? = some a) (hva : Vis sg a)
    (hG : GivesS X Ng x sg g cdv bg a (X.env.qual ++ "<lambda>") TT)
    (TB : TabB X.base X.mg c P) (hcode : X.env.code = .ref c) (hmT : (P, X.env.qual ++ "<lambda>") ∈ T) (hu : ∀ p ∈ T, p.1 = P → p.2 = X.env.qual ++ "<lambda>") (hr : Room (k + 2) X.A) (L : LamS X.env.scope scope) (hdef : defaultsOf params X.env = ([], []))
    (hbind : ∀ (q : Str) (cl : List (Str × Addr)) (pm cv ctv : Value), bindArgs (PySem.W.kla_fn "<lambda>" q params body scope cl pm cv ctv) ⟨[], []⟩ = pure [])
    (hbody : ∀ (A : Around) (outer : List Env) (s : Shared) (H : Hp) (E : XK) (f c' : Addr), Room k (A.deeper (lamEnv X scope s.heap.objs.size f c')) → PE (lamCx X A outer s H E scope f c') body (t E))
    (hdb : (x == ("__debug__" : Str)) = false := by decide) (hd : (a == ("__debug__" : Str)) = false := by decide) (hcd : (a == ("__classdict__" : Str)) = false := by decide) :
    PE X (.Call (.Name x p) [.Lambda params body scope lpos] [] pos) (tLam T TT t) := by
  refine ⟨fun pins s σ H Q I ⟨hT, h⟩ => ?_⟩
  refine wpAny_Call_Name_kw (ld_glob I hg hm (PySem.W.callWith_K (h₀ := X.base) I.ok.mod.kin hk ?_ (by rfl) (by rfl)) hdb)
  show wpAny _ _ (spliced ((false, eval (.Lambda params body scope lpos) X.env) :: backTo pos (starEach [] X.env))) _ _ s
  refine Calls.spliced_cons (lam_make2 I TB hcode hmT hu hT hdef (L.has I.ok) fun f c' pm' ctv H1 s' I1 eN T1 hf hfn hfr hco => Calls.spliced_nil ⟨I1.kIn, wpAny_call ?_⟩)
  have rc : codeAny (model X.prog X.w) X.A (.call (.ref g) ⟨[.ref f], []⟩) (CR CX0 X.stack X.prog X.w H1 s' Q E0) s' :=
    run_ofS (N := Ng) (ps := [a]) (us := [.ref f]) (vs := [.ref f]) lk hcg Sg hr I1.env0 (hb s' [.ref f] I1.kIn rfl) (.cons rfl .nil) rfl fun hr' => by
      obtain ⟨t', ht', hq'⟩ := hG f c' s' H1 Q (fun E H' Q' => t E σ H' Q') (fun pn xe E p1 p2 hx => pe_actS (i := 0) I1 L hf hfn hfr (hbind _ _ _ _ _) hx hr' (fun A outer s H E hr2 => hbody A outer s H E f c' hr2) hNg hva hd hcd) hco (h H1 eN T1)
      exact ⟨t', ht'.nox, hq'⟩
  refine codeAny_mono rc fun r s2 hq => ?_
  match r, hq with
  | .error e, hq => exact (show False from hq).elim
  | .ok (.ret u), hq => exact I1.after hq
  | .ok .next, hq => exact False.elim hq
  | .ok .brk, hq => exact False.elim hq
  | .ok .cont, hq => exact False.elim hq
/-! ### _law_ask -/
theorem scAk : FnScope ["_law_deed", "_law_told", "_law_fault", "error"] ["_law_deed"] (defScope sAsk) := ⟨rfl, rfl, rfl, by decide +kernel, rfl, by decide +kernel, by decide +kernel⟩
def TTask (C : Addr) : (XK → Hp → VK → Prop) → Hp → VK → Prop := fun tl H Q => ∃ v : V, (∀ (H1 : Hp) (E : XK) (Q' : VK), Same H H1 → Told C E H1 v → tl E H1 Q') ∧
  ∀ (H' : Hp) (l p : Addr), Same H H' → H' l = none → (upd H' l (.lst [.str "InvalidNumber", v])) p = none → Q (.ref p) (upd (upd H' l (.lst [.str "InvalidNumber", v])) p (.tup [.non, .ref l]))
theorem ask_gives {C fI : Addr} {q : Str} {g : Addr} {cdg : Value} (Xc : ExcAt X.K X.mg C fI) : GivesS X ["_law_deed", "_law_told", "_law_fault", "error"] "_law_ask" (defScope sAsk) g cdg (defBody sAsk) "_law_deed" q (TTask C) := by
  intro f c' s H Q tl act hc h
  refine ⟨_, pss_cons (ps_asg (pe_tup (pa_cons pe_non (pa_cons pe_non pa_nil))) (pg_tup rfl (pgs_cons (pg_name (i := 1) scAk.nd rfl (.inl rfl)) (pgs_cons (pg_name (i := 2) scAk.nd rfl (.inl rfl)) pgs_nil))))
    (pss_cons (ps_try_first (X := (cxOf CX0 X.prog X.w X.K X.mg X.base ["_law_deed", "_law_told", "_law_fault", "error"] "_law_ask" (defScope sAsk) g cdg X.A X.stack s H E0).nox) (c := .ref C) (i := 3)
      (tb := fun W D σ H => σ[0]? = some (some (.ref f)) ∧ H c' = some (CodeO c' q) ∧ tl (WE W σ) H fun v H' => D.nx (σ.set 1 (some v)) H')
      (ts := fun a cls d D σ H => tAsg (tLst (tCons (tC (.str "InvalidNumber")) (tCons (tXf a cls d C "value" (tVar 3)) tNil))) (gName 2) D σ H)
      rfl rfl scAk.nd rfl rfl ⟨by rfl, by decide, .inl Xc.gC⟩
      (fun W pn xe tk _ => pss_one (ps_set (i := 1) scAk.nd rfl (.inl rfl) (act pn xe (WE W) _ _ fun σ => passAt tk σ)))
      (fun a oe cls d pn hz hf => pss_one (ps_set (i := 2) scAk.nd rfl (.inl rfl) (pe_lst (pa_cons pe_str (pa_cons (pe_xf Xc.xf Xc.noV hz hf (pv 3)) pa_nil))))))
    (pss_one (ps_ret (pe_tup (pa_cons (pv 1) (pa_cons (pv 2) pa_nil)))))), ?_⟩
  obtain ⟨v, h1, h2⟩ := h
  refine ⟨(by show 2 ≤ sizeLine; exact line_ge (by decide)), fun tp ntp => ⟨tp, _, rfl, SqT.of upd_same, rfl, _, _, rfl, _, _, rfl, rfl, rfl, ?_, ?_⟩⟩
  · exact same_upd ntp _ _ hc
  · refine h1 _ _ _ (same_upd ntp) fun d H' nd sm hd => ⟨Xc.te, fun a na => ?_⟩
    refine ⟨_, rfl, rfl, rfl, d, _, v, rfl, hd, rfl, (by show 2 ≤ sizeLine; exact line_ge (by decide)), fun l nl => ?_⟩
    exact ⟨_, rfl, _, rfl, (by show 2 ≤ sizeLine; exact line_ge (by decide)), fun p np => h2 H' l p ((same_upd ntp).trans sm) nl np⟩
end
end K16

set_option Elab.async false
set_option linter.all false
set_option maxRecDepth 100000
set_option maxHeartbeats 4000000
/-! _law_refused_so. -/
namespace K16
open PySem PySem.Spec PyProof.Rows L2 LamX
theorem scRf : FnScope ["_law_bag_here", "_law_grid", "_law_bad", "_law_told", "_law_fault"] ["_law_bag_here"] (defScope sRefused) := ⟨rfl, rfl, rfl, by decide +kernel, rfl, by decide +kernel, by decide +kernel⟩
/-- the name of the lambda's code object -/
def lamQ : Str := (envOfC "_law_refused_so" (defScope sRefused) 0 0 .none).qual ++ "<lambda>"
/-- the def, its code object at c, that one's table at Pt -/
structure RefAt (K : PySem.W.Frag) (mg : Str → Option Value) (base : Heap) (Pt : Addr) : Prop where
  ex : ∃ (f c : Addr) (oc : Value) (od : Option Addr) (dV kV doc pm : Value) (an : Option Addr) (ct : Value) (osl : Array (Option Value)), mg "_law_refused_so" = some (.ref f) ∧ PySem.W.keepIn K (.ref f) = true ∧
    K.lookup f = some ⟨oc, od, .func (PySem.W.fnOf "_law_refused_so" "_law_refused_so" (defArgs sRefused) (defBody sRefused) (defScope sRefused) dV kV doc pm an (.ref c) ct), osl⟩ ∧ PySem.W.codeIn K (.ref c) "_law_refused_so" = true ∧
    Binds K (PySem.W.fnOf "_law_refused_so" "_law_refused_so" (defArgs sRefused) (defBody sRefused) (defScope sRefused) dV kV doc pm an (.ref c) ct) ["_law_bag_here"] [] ∧ TabB base mg c Pt
def spRefused (Pt : Addr) : Sp := fun vs H Q _ => ∃ b c : Addr, vs = [.ref b] ∧ Good b c H ∧ Tabs [(Pt, lamQ)] H ∧ ∀ H', Q (.bl true) H'
/-! ### values that are no primes -/
def BadV (K : PySem.W.Frag) (H : Hp) (v : V) : Prop := (∃ i, v = .int i ∧ isPr (.int i) = false) ∨ (∃ k, v = .bl k) ∨ v = .non ∨ (∃ s, v = .str s) ∨ (∃ a, v = .ref a ∧ SqT K H a [.int 2]) ∨ (∃ a, v = .ref a ∧ H a = some (.lst [.int 2])) ∨ ∃ a, v = .ref a ∧ H a = some (.dK [(.inl 2, .int 2)])
theorem SqT.extN {K : PySem.W.Frag} {H H' : Hp} {a : Addr} {xs : List V} (h : SqT K H a xs) (e : ExtN H H') : SqT K H' a xs := by
  rcases h with (h | ⟨o, h⟩) | h
  · exact .inl (.inl (e _ _ h (by intro ps z; cases z)))
  · exact .inl (.inr ⟨o, e _ _ h (by intro ps z; cases z)⟩)
  · exact .inr h
theorem BadV.move {K : PySem.W.Frag} {H H' : Hp} {v : V} (h : BadV K H v) (t : ∀ a xs, SqT K H a xs → SqT K H' a xs) (l : ∀ a xs, H a = some (.lst xs) → H' a = some (.lst xs)) (d : ∀ a xs, H a = some (.dK xs) → H' a = some (.dK xs)) : BadV K H' v := by
  rcases h with h | h | h | h | ⟨a, e, h⟩ | ⟨a, e, h⟩ | ⟨a, e, h⟩
  · exact .inl h
  · exact .inr (.inl h)
  · exact .inr (.inr (.inl h))
  · exact .inr (.inr (.inr (.inl h)))
  · exact .inr (.inr (.inr (.inr (.inl ⟨a, e, t _ _ h⟩))))
  · exact .inr (.inr (.inr (.inr (.inr (.inl ⟨a, e, l _ _ h⟩)))))
  · exact .inr (.inr (.inr (.inr (.inr (.inr ⟨a, e, d _ _ h⟩)))))
theorem BadV.extN {K : PySem.W.Frag} {H H' : Hp} {v : V} (h : BadV K H v) (e : ExtN H H') : BadV K H' v := h.move (fun a xs q => SqT.extN q e) (fun a xs q => e _ _ q (by intro ps z; cases z)) (fun a xs q => e _ _ q (by intro ps z; cases z))
theorem BadV.same {K : PySem.W.Frag} {H H' : Hp} {v : V} (h : BadV K H v) (e : Same H H') : BadV K H' v := h.move (fun a xs q => same_tup e q) (fun a xs q => e _ _ q) (fun a xs q => e _ _ q)
theorem BadV.num {K : PySem.W.Frag} {H : Hp} {v : V} (h : BadV K H v) : ∃ b, NumOf K H v b := by
  rcases h with ⟨i, rfl, _⟩ | ⟨k, rfl⟩ | rfl | ⟨s, rfl⟩ | ⟨a, rfl, h⟩ | ⟨a, rfl, h⟩ | ⟨a, rfl, h⟩
  · exact ⟨true, .int i⟩
  · exact ⟨false, .oth "bool" (by simp) (Kd.ty (.bl k)) (by intro i z; cases z)⟩
  · exact ⟨false, .oth "NoneType" (by simp) (Kd.ty .non) (by intro i z; cases z)⟩
  · exact ⟨false, .oth "str" (by simp) (Kd.ty (.str s)) (by intro i z; cases z)⟩
  · exact ⟨false, .oth "tuple" (by simp) (Kd.ty (.tup h)) (by intro i z; cases z)⟩
  · exact ⟨false, .oth "list" (by simp) (Kd.ty (.lst (SqL.of h))) (by intro i z; cases z)⟩
  · exact ⟨false, .oth "dict" (by simp) (Kd.ty (.dct h)) (by intro i z; cases z)⟩
theorem BadV.notPr {K : PySem.W.Frag} {H : Hp} {v : V} (h : BadV K H v) : isPr v = false := by
  rcases h with ⟨i, rfl, h⟩ | ⟨k, rfl⟩ | rfl | ⟨s, rfl⟩ | ⟨a, rfl, h⟩ | ⟨a, rfl, h⟩ | ⟨a, rfl, h⟩
  · exact h
  all_goals rfl
theorem BadV.alike {K : PySem.W.Frag} {H : Hp} {v : V} {n : Nat} (h : BadV K H v) : Alike K H (n + 2) v v := by
  have two : Paired (Alike K H (n + 1)) [.int 2] [.int 2] := alike_ints [2]
  rcases h with ⟨i, rfl, _⟩ | ⟨k, rfl⟩ | rfl | ⟨s, rfl⟩ | ⟨a, rfl, h⟩ | ⟨a, rfl, h⟩ | ⟨a, rfl, h⟩
  · exact .inl ⟨rfl, .inr (.inl ⟨i, rfl⟩)⟩
  · exact .inl ⟨rfl, .inr (.inr (.inl ⟨k, rfl⟩))⟩
  · exact .inl ⟨rfl, .inl rfl⟩
  · exact .inl ⟨rfl, .inr (.inr (.inr (.inl ⟨s, rfl⟩)))⟩
  · exact .inr ⟨a, a, _, _, rfl, rfl, .inr ⟨h, h⟩, two, by decide⟩
  · exact .inr ⟨a, a, _, _, rfl, rfl, .inl ⟨SqL.of h, SqL.of h⟩, two, by decide⟩
  · exact .inl ⟨rfl, .inr (.inr (.inr (.inr ⟨a, rfl, h⟩)))⟩
theorem bad_list {K : PySem.W.Frag} {H : Hp} {tt tl td : Addr} (k1 : SqT K H tt [.int 2]) (k2 : H tl = some (.lst [.int 2])) (k3 : H td = some (.dK [(.inl 2, .int 2)])) : ∀ {i : Nat} {v : V}, ([.int 0, .int 1, .int 4, .int 9, .int 15, .int 25, .int 32, .int 37, .int (-2), .int (-3), .bl true, .non, .str "2", .ref tt, .ref tl, .ref td] : List V)[i]? = some v → BadV K H v
  | 0, _, hi => .inl ⟨_, (Option.some.inj hi).symm, by decide⟩
  | 1, _, hi => .inl ⟨_, (Option.some.inj hi).symm, by decide⟩
  | 2, _, hi => .inl ⟨_, (Option.some.inj hi).symm, by decide⟩
  | 3, _, hi => .inl ⟨_, (Option.some.inj hi).symm, by decide⟩
  | 4, _, hi => .inl ⟨_, (Option.some.inj hi).symm, by decide⟩
  | 5, _, hi => .inl ⟨_, (Option.some.inj hi).symm, by decide⟩
  | 6, _, hi => .inl ⟨_, (Option.some.inj hi).symm, by decide⟩
  | 7, _, hi => .inl ⟨_, (Option.some.inj hi).symm, by decide⟩
  | 8, _, hi => .inl ⟨_, (Option.some.inj hi).symm, by decide⟩
  | 9, _, hi => .inl ⟨_, (Option.some.inj hi).symm, by decide⟩
  | 10, _, hi => .inr (.inl ⟨_, (Option.some.inj hi).symm⟩)
  | 11, _, hi => .inr (.inr (.inl (Option.some.inj hi).symm))
  | 12, _, hi => .inr (.inr (.inr (.inl ⟨_, (Option.some.inj hi).symm⟩)))
  | 13, _, hi => .inr (.inr (.inr (.inr (.inl ⟨_, (Option.some.inj hi).symm, k1⟩))))
  | 14, _, hi => .inr (.inr (.inr (.inr (.inr (.inl ⟨_, (Option.some.inj hi).symm, k2⟩)))))
  | 15, _, hi => .inr (.inr (.inr (.inr (.inr (.inr ⟨_, (Option.some.inj hi).symm, k3⟩)))))
  | n + 16, _, hi => by simp at hi
theorem Good.extN {b c : Addr} {H H' : Hp} (g : Good b c H) (e : ExtN H H') : Good b c H' := by
  obtain ⟨ns, i, l, s, k, h1, h2, h⟩ := g.ex
  exact ⟨ns, i, l, s, k, e _ _ h1 (by intro ps z; cases z), e _ _ h2 (by intro ps z; cases z), h⟩
theorem RowsT.extN {K : PySem.W.Frag} {H H' : Hp} {vs : List V} {T : List (List Int)} (h : RowsT K H vs T) (e : ExtN H H') : RowsT K H' vs T := paired_imp (fun _ _ ⟨a, e1, k⟩ => ⟨a, e1, SqT.extN k e⟩) h
/-- draws leave the tables alone -/
theorem tabs_far {T : List (Addr × Str)} {b c : Addr} {H H' : Hp} (t : Tabs T H) (x : Ext b c H H') : Tabs T H' := fun p hp => by
  obtain ⟨ys, hb⟩ := x.g0.at_b
  obtain ⟨ps, h1, h2, h3⟩ := t p hp
  refine ⟨ps, x.but _ _ (ne_of h1 hb (by intro z; cases z)) h1, h2, fun pos cv hc => ?_⟩
  obtain ⟨c, e1, e2⟩ := h3 pos cv hc
  exact ⟨c, e1, x.but _ _ (ne_of e2 hb (by intro z; unfold CodeO at z; cases z)) e2⟩
section
variable {P : Program} {w : World} {K : PySem.W.Frag} {mg : Str → Option Value} {base : Heap} {C fI Pt : Addr}
theorem ok_refused (T : Txt mg) (Xc : ExcAt K mg C fI) (F : RefAt K mg base Pt) (FA : FnAt K mg "_law_ask" sAsk ["_law_deed"]) (GD : DefOk P w K mg base CX0 1 "_law_draw" ["_law_bag_here", "_law_limit"] spDraw) (GO : DefOk P w K mg base CX0 2 "_law_of" ["_law_bag_here", "_law_things"] spOf)
    (GS : DefOk P w K mg base (L2.CX P w) 4 "solved" ["rows", "prime"] (spSolved K C)) (GL : DefOk P w K mg base CX0 4 "_law_like" ["_law_told", "_law_due_here"] (spLike K 3)) (GTs : DefOk P w K mg base CX0 5 "_law_told_so" ["_law_bag_here", "_law_grid", "_law_q", "_law_due_here"] (spTold K))
    (GDu : DefOk P w K mg base CX0 2 "_law_due" ["_law_grid", "_law_q", "_law_many"] (spDue K)) : DefOk P w K mg base CX0 7 "_law_refused_so" ["_law_bag_here"] (spRefused Pt) := by
  obtain ⟨f, c0, oc, od, dV, kV, doc, pm, an, ct, osl, hm, hk, lk, hcd, hb, TB⟩ := F.ex
  obtain ⟨fa, fda, hma, FnA, hba⟩ := FA.ex
  obtain ⟨oca, oda, dVa, kVa, doca, pma, ana, cdva, cta, osla, rfl, lka, hcda, _, _⟩ := FnA.ex
  refine ⟨f, _, hm, hk, hb, fn_of lk hcd scRf (fun vs H Q E h => ?_) (fun A outer s H vs Q E hr h => ?_)⟩
  · obtain ⟨b, c, rfl, _⟩ := h
    rfl
  · obtain ⟨b, c, rfl, G, hT, hQ⟩ := h
    refine ⟨_, PSs.nox ((pss_cons (ps_set (i := 1) scRf.nd rfl (.inr rfl) (pe_lst (pa_cons (pe_tup (pa_cons pe_int (pa_cons (pe_callD GD (hr.mono (by decide)) pass0 (pa_cons (pv 0) (pa_cons pe_int pa_nil))) (pa_cons pe_int pa_nil)))) (pa_cons (pe_tup (pa_cons pe_int (pa_cons pe_int (pa_cons (pe_callD GD (hr.mono (by decide)) pass0 (pa_cons (pv 0) (pa_cons pe_int pa_nil))) pa_nil)))) pa_nil))))
      (pss_cons (ps_set (i := 2) scRf.nd rfl (.inr rfl) (pe_callD GO (hr.mono (by decide)) pass0 (pa_cons (pv 0) (pa_cons (pe_lst (pa_cons pe_int (pa_cons pe_int (pa_cons pe_int (pa_cons pe_int (pa_cons pe_int (pa_cons pe_int (pa_cons pe_int (pa_cons pe_int (pa_cons (pe_un un_neg pe_int) (pa_cons (pe_un un_neg pe_int) (pa_cons pe_bl (pa_cons pe_non (pa_cons pe_str (pa_cons (pe_tup (pa_cons pe_int pa_nil)) (pa_cons (pe_lst (pa_cons pe_int pa_nil)) (pa_cons (pe_disp (pps_cons pe_int pe_int pps_nil) rfl rfl (by decide) (by decide)) pa_nil))))))))))))))))) pa_nil))))
      (pss_cons (ps_asg (pe_lamS (T := [(Pt, lamQ)]) (TT := TTask C) (k := 4) (by rfl) hma FnA.kp lka hcda hba scAk rfl (.inl rfl) (ask_gives Xc) TB rfl List.mem_cons_self (fun p hp _ => by rw [List.mem_singleton.mp hp]; rfl) hr (lamS_by (sc := defScope sRefused) (by decide +kernel)) rfl (fun _ _ _ _ _ => rfl) (fun A outer s H E f c' hr2 => pe_callD (E := E) GS hr2 (passes_call (takes_of rfl rfl rfl rfl) (fun _ _ _ _ h => h)) (pa_cons (pv 1) (pa_cons (pv 2) pa_nil)))) (pg_tup rfl (pgs_cons (pg_name (i := 3) scRf.nd rfl (.inl rfl)) (pgs_cons (pg_name (i := 4) scRf.nd rfl (.inl rfl)) pgs_nil))))
      (pss_cons (ps_if (PW.pt (pw_or (pt_cmpR op_notN (pv 3) pe_non (nomark _)) (pw_or1 (pt_not (pt_val (pe_callD GL (hr.mono (by decide)) pass0 (pa_cons (pv 4) (pa_cons (pe_lst (pa_cons pe_str (pa_cons (pv 2) pa_nil))) pa_nil)))))))) (pss_one (ps_ret pe_bl)) pss_nil)
      (pss_one (ps_ret (pe_callD GTs (hr.mono (by decide)) pass0 (pa_cons (pv 0) (pa_cons (pv 1) (pa_cons pe_int (pa_cons (pe_callD GDu (hr.mono (by decide)) pass0 (pa_cons (pv 1) (pa_cons pe_int (pa_cons pe_int pa_nil)))) pa_nil)))))))))))), ?_⟩
    have s3 : 3 ≤ sizeLine := line_ge (by decide)
    refine ⟨_, rfl, b, c, 2, rfl, G, by decide, by decide, fun d1 H1 p0 p1 x1 => ⟨s3, fun t1 n1 => ?_⟩⟩
    have x1' := x1.same (same_upd (o := .tup [.int 1, .int d1, .int 1]) n1)
    refine ⟨_, rfl, b, c, 2, rfl, x1'.g1, by decide, by decide, fun d2 H2 q0 q1 x2 => ⟨s3, fun t2 n2 => ⟨(by show 2 ≤ sizeLine; exact line_ge (by decide)), fun g ng => ?_⟩⟩⟩
    have hs1 : SqT K (upd H1 t1 (.tup [.int 1, .int d1, .int 1])) t1 (([1, d1, 1] : List Int).map V.int) := SqT.of upd_same
    have hs2 : SqT K (upd H2 t2 (.tup [.int 0, .int 1, .int d2])) t2 (([0, 1, d2] : List Int).map V.int) := SqT.of upd_same
    have sm2 : Same H2 (upd (upd H2 t2 (.tup [.int 0, .int 1, .int d2])) g (.lst [.ref t1, .ref t2])) := (same_upd n2).trans (same_upd ng)
    have x3 := (x1'.trans x2).same sm2
    have hg3 : (upd (upd H2 t2 (.tup [.int 0, .int 1, .int d2])) g (.lst [.ref t1, .ref t2])) g = some (.lst [.ref t1, .ref t2]) := upd_same
    have hB3 : RowsT K (upd (upd H2 t2 (.tup [.int 0, .int 1, .int d2])) g (.lst [.ref t1, .ref t2])) [.ref t1, .ref t2] [[1, d1, 1], [0, 1, d2]] := .cons ⟨t1, rfl, same_tup sm2 (x2.tup hs1)⟩ (.cons ⟨t2, rfl, same_tup (same_upd ng) hs2⟩ .nil)
    have ngb : g ≠ b := (((x1'.trans x2).same (same_upd n2)).g1.off ng).1
    generalize upd (upd H2 t2 (.tup [.int 0, .int 1, .int d2])) g (.lst [.ref t1, .ref t2]) = H3 at x3 hg3 hB3
    refine ⟨_, rfl, _, rfl, _, rfl, (by show 1 ≤ sizeLine; exact line_ge (by decide)), fun tt ntt => ⟨(by show 1 ≤ sizeLine; exact line_ge (by decide)), fun tl ntl => ?_⟩⟩
    intro td ntd
    have e16 : 16 ≤ sizeLine := line_ge (by decide)
    refine ⟨upd_same, [(.inl 2, .int 2)], rfl, by decide, e16, fun lp nlp => ?_⟩
    have sm4 : Same H3 (upd (upd (upd (upd H3 tt (.tup [.int 2])) tl (.lst [.int 2])) td (.dK [])) td (.dK [(.inl 2, .int 2)])) := same_mut (((same_upd ntt).trans (same_upd ntl)).trans (same_upd ntd)) (by
      cases e : H3 td with
      | none => rfl
      | some o => rw [((same_upd ntt).trans (same_upd ntl)) _ _ e] at ntd; cases ntd)
    have hd4 : (upd (upd (upd (upd H3 tt (.tup [.int 2])) tl (.lst [.int 2])) td (.dK [])) td (.dK [(.inl 2, .int 2)])) td = some (.dK [(.inl 2, .int 2)]) := upd_same
    have nlt : tl ≠ td := ne_of_none upd_same ntd
    have ntt2 : tt ≠ td := ne_of_none ((same_upd ntl) _ _ upd_same) ntd
    have hl4 : (upd (upd (upd (upd H3 tt (.tup [.int 2])) tl (.lst [.int 2])) td (.dK [])) td (.dK [(.inl 2, .int 2)])) tl = some (.lst [.int 2]) := by rw [upd_ne nlt, upd_ne nlt, upd_same]
    have ht4 : (upd (upd (upd (upd H3 tt (.tup [.int 2])) tl (.lst [.int 2])) td (.dK [])) td (.dK [(.inl 2, .int 2)])) tt = some (.tup [.int 2]) := by rw [upd_ne ntt2, upd_ne ntt2, upd_ne (ne_of_none upd_same ntl), upd_same]
    change (upd (upd (upd (upd H3 tt (.tup [.int 2])) tl (.lst [.int 2])) td (.dK [])) td (.dK [(.inl 2, .int 2)])) lp = none at nlp
    have hbad : ∀ {H : Hp}, Ext b c (upd (upd (upd (upd H3 tt (.tup [.int 2])) tl (.lst [.int 2])) td (.dK [])) td (.dK [(.inl 2, .int 2)])) H → ∀ i v, ([.int 0, .int 1, .int 4, .int 9, .int 15, .int 25, .int 32, .int 37, .int (-2), .int (-3), .bl true, .non, .str "2", .ref tt, .ref tl, .ref td] : List V)[i]? = some v → BadV K H v := fun {H} x i v hi => by
      have k1 : SqT K H tt [.int 2] := x.tup (SqT.of ht4)
      have k2 : H tl = some (.lst [.int 2]) := x.ints (r := [2]) hl4
      have k3 : H td = some (.dK [(.inl 2, .int 2)]) := by
        obtain ⟨ys, hb⟩ := x.g0.at_b
        exact x.but _ _ (ne_of hd4 hb (by intro z; cases z)) hd4
      exact bad_list k1 k2 k3 hi
    have x4 : Ext b c H (upd (upd (upd (upd H3 tt (.tup [.int 2])) tl (.lst [.int 2])) td (.dK [])) td (.dK [(.inl 2, .int 2)])) := x3.same sm4
    change spOf _ (upd (upd (upd (upd (upd H3 tt (.tup [.int 2])) tl (.lst [.int 2])) td (.dK [])) td (.dK [(.inl 2, .int 2)])) lp _) _ E0
    generalize upd (upd (upd (upd H3 tt (.tup [.int 2])) tl (.lst [.int 2])) td (.dK [])) td (.dK [(.inl 2, .int 2)]) = H4 at *
    refine ⟨b, c, lp, _, rfl, (x4.same (same_upd nlp)).g1, (x4.g1.off nlp).1, upd_same, Nat.succ_pos _, (by show 16 ≤ 1000; decide), fun i v H6 hi x6 => ?_⟩
    have hv := hbad ((Ext.of x4.g1 (same_upd nlp)).trans x6) i v hi
    have x36 := ((Ext.of x3.g1 sm4).same (same_upd nlp)).trans x6
    have hg6 := x36.but _ _ ngb hg3
    have hB6 := x36.rowsT hB3
    have xH6 := x3.trans x36
    have hT6 := tabs_far hT xH6
    clear hbad
    refine ⟨hT6, fun H7 eN hT7 => ?_⟩
    have G7 := xH6.g1.extN eN
    have hB7 := hB6.extN eN
    have hg7 := eN _ _ hg6 (by intro ps z; cases z)
    have hv7 := hv.extN eN
    refine ⟨v, fun H8 E Q' sm told => ?_, fun H8 l p sm nl np => ?_⟩
    · obtain ⟨bb, hn⟩ := (hv7.same sm).num
      exact ⟨_, rfl, _, rfl, g, v, bb, rfl, hn, .inl ⟨hv7.notPr, told⟩⟩
    · have s2 : 2 ≤ sizeLine := line_ge (by decide)
      have hl9 : (upd (upd H8 l (.lst [.str "InvalidNumber", v])) p (.tup [.non, .ref l])) l = some (.lst [.str "InvalidNumber", v]) := (same_upd np) _ _ upd_same
      have sm9 : Same H7 (upd (upd H8 l (.lst [.str "InvalidNumber", v])) p (.tup [.non, .ref l])) := (sm.trans (same_upd nl)).trans (same_upd np)
      refine ⟨p, _, rfl, SqT.of upd_same, rfl, _, _, rfl, _, _, rfl, rfl, ?_⟩
      generalize upd (upd H8 l (.lst [.str "InvalidNumber", v])) p (.tup [.non, .ref l]) = H9 at hl9 sm9
      refine ⟨_, rfl, rfl, _, rfl, ?_⟩
      refine iteF ⟨_, rfl, _, rfl, s2, fun l2 nl2 => ?_⟩
      refine ⟨.ref l, .ref l2, rfl, ?_, fun H10 sm10 => ?_⟩
      · have k := (hv7.same (sm9.trans (same_upd (o := .lst [.str "InvalidNumber", v]) nl2)))
        refine .inr ⟨l, l2, [.str "InvalidNumber", v], [.str "InvalidNumber", v], rfl, rfl, .inl ⟨SqL.of ((same_upd nl2) _ _ hl9), SqL.of upd_same⟩, .cons (.inl ⟨rfl, .inr (.inr (.inr (.inl ⟨_, rfl⟩)))⟩) (.cons k.alike .nil), by show 2 ≤ 1000; decide⟩
      · have sm10' : Same H7 H10 := (sm9.trans (same_upd nl2)).trans sm10
        refine ⟨true, rfl, iteF ?_⟩
        have hB10 := hB7.same sm10'
        have hg10 := sm10' _ _ hg7
        have hrow : ∀ r ∈ ([[1, d1, 1], [0, 1, d2]] : List (List Int)), Row 2 (2 + 1) r := fun r hr => by
          rcases List.mem_cons.mp hr with rfl | hr
          · exact ⟨rfl, fun p hp => by
              rcases List.mem_cons.mp hp with rfl | hp
              · exact ⟨by decide, by decide⟩
              · rcases List.mem_cons.mp hp with rfl | hp
                · exact ⟨p0, p1⟩
                · rw [List.mem_singleton.mp hp]; exact ⟨by decide, by decide⟩⟩
          · rw [List.mem_singleton.mp hr]
            exact ⟨rfl, fun p hp => by
              rcases List.mem_cons.mp hp with rfl | hp
              · exact ⟨by decide, by decide⟩
              · rcases List.mem_cons.mp hp with rfl | hp
                · exact ⟨by decide, by decide⟩
                · rw [List.mem_singleton.mp hp]; exact ⟨q0, q1⟩⟩
        refine ⟨_, rfl, _, rfl, _, rfl, g, 2, 2, _, _, rfl, SqL.of hg10, hB10, hrow, by decide, by decide, by decide, fun H11 u ans sm11 hA hV => ?_⟩
        exact ⟨b, c, g, 2, u, 2, ans, _, _, rfl, G7.keep (fun o q => sm11 _ _ (sm10' _ _ q)) (fun o q => sm11 _ _ (sm10' _ _ q)), ngb, sm11 _ _ hg10, hB10.same sm11, by simp, hrow, by decide, (by show 2 ≤ 100; decide), by decide, hA, hV, fun H12 _ => hQ H12⟩
end
end K16

set_option Elab.async false
set_option linter.all false
set_option maxRecDepth 100000
set_option maxHeartbeats 4000000
/-! _law_free_so. -/
namespace K16
open PySem PySem.Spec PyProof.Rows L2
/-! ### the pairs -/
def PairOk (q most : Int) : Prop := q ∈ primes ∧ 0 < most ∧ most ≤ 6 ∧ q.toNat ^ most.toNat ≤ 1000
def PairV (K : PySem.W.Frag) (H : Hp) (v : V) : Prop := ∃ (a : Addr) (q most : Int), v = .ref a ∧ SqT K H a [.int q, .int most] ∧ PairOk q most
theorem PairV.keep {K : PySem.W.Frag} {H H' : Hp} {v : V} (s : ∀ a xs, SqT K H a xs → SqT K H' a xs) (h : PairV K H v) : PairV K H' v := by
  obtain ⟨a, q, m, e, h, k⟩ := h
  exact ⟨a, q, m, e, s _ _ h, k⟩
theorem pair_more {K : PySem.W.Frag} {H : Hp} {vs : List V} {t : Addr} {q m : Int} (h : ∀ v ∈ vs, PairV K H v) (n : H t = none) (k : PairOk q m) : ∀ v ∈ vs ++ [.ref t], PairV K (upd H t (.tup [.int q, .int m])) v := fun v hv => by
  rcases List.mem_append.mp hv with z | z
  · exact (h v z).keep fun a xs q => same_tup (same_upd n) q
  · rw [List.mem_singleton.mp z]
    exact ⟨t, q, m, rfl, SqT.of upd_same, k⟩
/-- while a row is made: the grid, what was planted, the row so far -/
def RI (K : PySem.W.Frag) (b c : Addr) (H : Hp) (g D D2 : Addr) (q : Int) (ys : List V) (B : List (List Int)) (pl : List Int) (j : Nat) (H' : Hp) : Prop :=
  Ext b c H H' ∧ H' g = some (.lst ys) ∧ H' D = some (.lst (pl.map V.int)) ∧ RowsT K H' ys B ∧ ∃ r : List Int, H' D2 = some (.lst (r.map V.int)) ∧ r.length = j ∧ ∀ p ∈ r, Pc q p
section
variable {P : Program} {w : World} {K : PySem.W.Frag} {mg : Str → Option Value} {base : Heap}
theorem scFr : FnScope ["_law_bag_here", "_law_q", "_law_most", "_law_many", "_law_grid", "_law_plant", "_law_pick", "_law_k", "_law_row", "_law_last_here", "_law_at", "_law_x", "_law_y"] ["_law_bag_here"] (defScope sFree) := ⟨rfl, rfl, rfl, by decide +kernel, rfl, by decide +kernel, by decide +kernel⟩
def spFree : Sp := fun vs H Q _ => ∃ b c : Addr, vs = [.ref b] ∧ Good b c H ∧ ∀ H', Ext b c H H' → Q (.bl true) H'
theorem ok_free (T : Txt mg) (F : FnAt K mg "_law_free_so" sFree ["_law_bag_here"]) (GD : DefOk P w K mg base CX0 1 "_law_draw" ["_law_bag_here", "_law_limit"] spDraw) (GO : DefOk P w K mg base CX0 2 "_law_of" ["_law_bag_here", "_law_things"] spOf)
    (GTs : DefOk P w K mg base CX0 5 "_law_told_so" ["_law_bag_here", "_law_grid", "_law_q", "_law_due_here"] (spTold K)) (GDu : DefOk P w K mg base CX0 2 "_law_due" ["_law_grid", "_law_q", "_law_many"] (spDue K)) : DefOk P w K mg base CX0 6 "_law_free_so" ["_law_bag_here"] spFree := by
  refine mk0 F scFr (fun vs H Q E h => ?_) (fun f cdv A outer s H vs Q E hr h => ?_)
  · obtain ⟨b, c, rfl, _⟩ := h
    rfl
  · obtain ⟨b, c, rfl, G, hQ⟩ := h
    refine ⟨_, (pss_cons (ps_asg (pe_callD GO (hr.mono (by decide)) pass0 (pa_cons (pv 0) (pa_cons (pe_lst (pa_cons (pe_tup (pa_cons pe_int (pa_cons pe_int pa_nil))) (pa_cons (pe_tup (pa_cons pe_int (pa_cons pe_int pa_nil))) (pa_cons (pe_tup (pa_cons pe_int (pa_cons pe_int pa_nil))) (pa_cons (pe_tup (pa_cons pe_int (pa_cons pe_int pa_nil))) (pa_cons (pe_tup (pa_cons pe_int (pa_cons pe_int pa_nil))) (pa_cons (pe_tup (pa_cons pe_int (pa_cons pe_int pa_nil))) (pa_cons (pe_tup (pa_cons pe_int (pa_cons pe_int pa_nil))) (pa_cons (pe_tup (pa_cons pe_int (pa_cons pe_int pa_nil))) (pa_cons (pe_tup (pa_cons pe_int (pa_cons pe_int pa_nil))) pa_nil)))))))))) pa_nil))) (pg_tup rfl (pgs_cons (pg_name (i := 1) scFr.nd rfl (.inr rfl)) (pgs_cons (pg_name (i := 2) scFr.nd rfl (.inl rfl)) pgs_nil))))
      (pss_cons (ps_par (i := 3) (j := 4) rfl scFr.nd rfl rfl (by decide) rfl rfl (pa_cons (pe_op op_add pe_int (pe_callD GD (hr.mono (by decide)) pass0 (pa_cons (pv 0) (pa_cons (pv 2) pa_nil)))) (pa_cons (pe_lst pa_nil) pa_nil)) (by rfl))
      (pss_cons (ps_setLc (i := 5) (own := [("_law_k", 7)]) (g := (gName 7)) (tt := tYes) rfl scFr.nd rfl rfl (sw_true rfl rfl rfl (by decide +kernel)) (pi_range1 (by rfl) T.range_ (pa_cons (pv 3) pa_nil)) (blkOk_by (N := ["_law_bag_here", "_law_q", "_law_most", "_law_many", "_law_grid", "_law_plant", "_law_pick", "_law_k", "_law_row", "_law_last_here", "_law_at", "_law_x", "_law_y"]) (sc := defScope sFree) (by decide +kernel)) (fun _ _ _ _ _ => (by exact pg_name (i := 7) scFr.nd rfl (Or.inl rfl))) (fun _ _ _ _ _ => pts_nil) (fun _ _ _ _ _ => (pe_callD GD (hr.mono (by decide)) pass0 (pa_cons (pv 0) (pa_cons (pv 1) pa_nil)))))
      (pss_cons (ps_set (i := 6) scFr.nd rfl (.inl rfl) (pe_callD GD (hr.mono (by decide)) pass0 (pa_cons (pv 0) (pa_cons pe_int pa_nil))))
      (Evl.pss_cut (ps_for PassesOwn.never rfl (pi_range1 (by rfl) T.range_ (pa_cons (pe_op op_add pe_int (pe_callD GD (hr.mono (by decide)) pass0 (pa_cons (pv 0) (pa_cons pe_int pa_nil)))) pa_nil)) (pg_name (i := 7) scFr.nd rfl (.inl rfl))
      (pss_cons (ps_setLc (i := 8) (own := [("_law_at", 10)]) (g := (gName 10)) (tt := tYes) rfl scFr.nd rfl rfl (sw_true rfl rfl rfl (by decide +kernel)) (pi_range1 (by rfl) T.range_ (pa_cons (pv 3) pa_nil)) (blkOk_by (N := ["_law_bag_here", "_law_q", "_law_most", "_law_many", "_law_grid", "_law_plant", "_law_pick", "_law_k", "_law_row", "_law_last_here", "_law_at", "_law_x", "_law_y"]) (sc := defScope sFree) (by decide +kernel)) (fun _ _ _ _ _ => (by exact pg_name (i := 10) scFr.nd rfl (Or.inl rfl))) (fun _ _ _ _ _ => pts_nil) (fun _ _ _ _ _ => (pe_ifExp (pt_cmpR op_gt (pe_callD GD (hr.mono (by decide)) pass0 (pa_cons (pv 0) (pa_cons pe_int pa_nil))) pe_int (nomark _)) (pe_callD GD (hr.mono (by decide)) pass0 (pa_cons (pv 0) (pa_cons (pv 1) pa_nil))) pe_int)))
      (Evl.pss_cut (ps_set (i := 9) scFr.nd rfl (.inl rfl) (pe_ifExp (pt_cmpR op_lt (pv 6) pe_int (nomark _)) (pe_op op_mod (pe_callTy call_int1 (by rfl) T.int_ bt_int (pa_cons (pe_callB (cr_sum rfl) (by rfl) T.sum_ bb_sum (pa_cons (pe_lc (own := [("_law_x", 11), ("_law_y", 12)]) (g := (gTup K 2 (gCons (gName 11) (gCons (gName 12) gNil)))) (tt := tYes) rfl scFr.nd (pi_zip (by rfl) T.zip_ (pa_cons (pv 8) (pa_cons (pv 5) pa_nil))) (blkOk_by (N := ["_law_bag_here", "_law_q", "_law_most", "_law_many", "_law_grid", "_law_plant", "_law_pick", "_law_k", "_law_row", "_law_last_here", "_law_at", "_law_x", "_law_y"]) (sc := defScope sFree) (by decide +kernel)) (fun _ _ _ _ _ => (pg_tup rfl (by exact pgs_cons (by exact pg_name (i := 11) scFr.nd rfl (Or.inl rfl)) (by exact pgs_cons (by exact pg_name (i := 12) scFr.nd rfl (Or.inl rfl)) pgs_nil)))) (fun _ _ _ _ _ => pts_nil) (fun _ _ _ _ _ => (pe_op op_mul (pv 11) (pv 12)))) pa_nil)) pa_nil)) (pv 1)) (pe_callD GD (hr.mono (by decide)) pass0 (pa_cons (pv 0) (pa_cons (pv 1) pa_nil)))))
      (pss_one (ps_expr (pe_bm PySem.F.plainAttrs_list PySem.F.slot_list_append PySem.F.type_list_append mt_append (pv 4) (pa_cons (pe_callTy call_tuple_of (by rfl) T.tuple_ bt_tuple (pa_cons (pe_op op_cat (pv 8) (pe_lst (pa_cons (pv 9) pa_nil))) pa_nil)) pa_nil)))))))
      (Evl.pss_cut (ps_if (pt_cmpR op_eq (pv 6) pe_int (nomark _)) (pss_cons (ps_set (i := 10) scFr.nd rfl (.inl rfl) (pe_callD GD (hr.mono (by decide)) pass0 (pa_cons (pv 0) (pa_cons (pe_callB call_len_seq (by rfl) T.len_ boot_len (pa_cons (pv 4) pa_nil)) pa_nil))))
      (pss_one (ps_asg (pe_op op_catA (pe_slice sl_tup (pe_ix ix_list (pv 4) (pv 10) (fun _ _ => rfl)) po_none (po_some (pv 3))) (pe_tup (pa_cons (pe_op op_mod (pe_callTy call_int1 (by rfl) T.int_ bt_int (pa_cons (pe_op op_add (pe_op op_add (pe_ix ix_tup (pe_ix ix_list (pv 4) (pv 10) (fun _ _ => rfl)) (pv 3) (fun _ _ => rfl)) pe_int) (pe_callD GD (hr.mono (by decide)) pass0 (pa_cons (pv 0) (pa_cons (pe_op op_sub (pv 1) pe_int) pa_nil)))) pa_nil)) (pv 1)) pa_nil))) (pg_sub (pv 4) (pv 10) set_list)))) pss_nil)
      (Evl.pss_cut (ps_if (pt_cmpR op_eq (pe_callD GD (hr.mono (by decide)) pass0 (pa_cons (pv 0) (pa_cons pe_int pa_nil))) pe_int (nomark _)) (pss_one (ps_expr (pe_bm PySem.F.plainAttrs_list PySem.F.slot_list_append PySem.F.type_list_append mt_append (pv 4) (pa_cons (pe_callD GO (hr.mono (by decide)) pass0 (pa_cons (pv 0) (pa_cons (pv 4) pa_nil))) pa_nil)))) pss_nil)
      (pss_one (ps_ret (pe_callD GTs hr pass0 (pa_cons (pv 0) (pa_cons (pv 4) (pa_cons (pv 1) (pa_cons (pe_callD GDu (hr.mono (by decide)) pass0 (pa_cons (pv 4) (pa_cons (pv 1) (pa_cons (pv 3) pa_nil)))) pa_nil)))))))))))))), ?_⟩
    have s2 : 2 ≤ sizeLine := line_ge (by decide)
    have s9 : 9 ≤ sizeLine := line_ge (by decide)
    have s1 : 1 ≤ sizeLine := line_ge (by decide)
    have s0 : 0 ≤ sizeLine := Nat.zero_le _
    refine ⟨_, rfl, s2, fun t0 n0 => ⟨s2, fun t1 n1 => ⟨s2, fun t2 n2 => ⟨s2, fun t3 n3 => ⟨s2, fun t4 n4 => ⟨s2, fun t5 n5 => ⟨s2, fun t6 n6 => ⟨s2, fun t7 n7 => ⟨s2, fun t8 n8 => ⟨s9, fun lp nlp => ?_⟩⟩⟩⟩⟩⟩⟩⟩⟩⟩
    have a0 : ∀ v ∈ ([] : List V), PairV K H v := fun v hv => by cases hv
    have a1 := pair_more (q := 2) (m := 6) a0 n0 ⟨by decide, by decide, by decide, by decide⟩
    have a2 := pair_more (q := 2) (m := 4) a1 n1 ⟨by decide, by decide, by decide, by decide⟩
    have a3 := pair_more (q := 3) (m := 5) a2 n2 ⟨by decide, by decide, by decide, by decide⟩
    have a4 := pair_more (q := 3) (m := 3) a3 n3 ⟨by decide, by decide, by decide, by decide⟩
    have a5 := pair_more (q := 5) (m := 3) a4 n4 ⟨by decide, by decide, by decide, by decide⟩
    have a6 := pair_more (q := 7) (m := 3) a5 n5 ⟨by decide, by decide, by decide, by decide⟩
    have a7 := pair_more (q := 11) (m := 2) a6 n6 ⟨by decide, by decide, by decide, by decide⟩
    have a8 := pair_more (q := 13) (m := 2) a7 n7 ⟨by decide, by decide, by decide, by decide⟩
    have a9 := pair_more (q := 19) (m := 2) a8 n8 ⟨by decide, by decide, by decide, by decide⟩
    have sm : Same H _ := ((((((((same_upd n0).trans (same_upd n1)).trans (same_upd n2)).trans (same_upd n3)).trans (same_upd n4)).trans (same_upd n5)).trans (same_upd n6)).trans (same_upd n7)).trans (same_upd (o := .tup [.int 19, .int 2]) n8)
    refine ⟨b, c, lp, _, rfl, ((Ext.of G sm).same (same_upd nlp)).g1, ((Ext.of G sm).g1.off nlp).1, upd_same, Nat.succ_pos _, (by show 9 ≤ 1000; decide), fun i v H1 hi x1 => ?_⟩
    obtain ⟨pa, q, most, rfl, hpa, hq, m0, m6, hpw⟩ := (a9 v (List.mem_of_getElem? hi)).keep (H' := H1) fun a xs z => x1.tup (same_tup (same_upd nlp) z)
    have xH1 := ((Ext.of G sm).same (same_upd nlp)).trans x1
    clear a1 a2 a3 a4 a5 a6 a7 a8 a9
    refine ⟨pa, _, rfl, hpa, rfl, _, _, rfl, _, _, rfl, rfl, ?_⟩
    have q0 := prime_pos hq
    refine ⟨_, rfl, _, rfl, b, c, most, rfl, xH1.g1, m0, by omega, fun d H2 d0 d1 x2 => ⟨_, _, rfl, rfl, s0, fun g ng => ⟨_, _, rfl, ?_⟩⟩⟩
    have xH2 := xH1.trans x2
    have gH : H g = none := xH2.free ng
    have ngb : g ≠ b := (G.off gH).1
    have x3 := xH2.same (same_upd (o := .lst []) ng)
    have hg3 : (upd H2 g (.lst [])) g = some (.lst []) := upd_same
    generalize upd H2 g (.lst []) = H3 at x3 hg3
    obtain ⟨many, hmany⟩ : ∃ many : Nat, 1 + d = (many : Int) := ⟨(1 + d).toNat, by omega⟩
    have hm1 : 1 ≤ many := by omega
    have hm6 : many ≤ 6 := by omega
    have hpw2 : q.toNat ^ many ≤ 1000 := Nat.le_trans (Nat.pow_le_pow_right (by omega) (by omega)) hpw
    -- plant
    refine ⟨_, rfl, (1 + d), rfl, by omega, by omega, fun D nD => ?_⟩
    have DH : H D = none := x3.free nD
    have nDg : g ≠ D := ne_of_none hg3 nD
    refine lc_range (lo := 0) (n := (1 + d).toNat) (fun i H' => Ext b c H H' ∧ H' g = some (.lst []) ∧ ∃ r : List Int, H' D = some (.lst (r.map V.int)) ∧ r.length = i ∧ ∀ p ∈ r, Pc q p) ⟨x3.same (same_upd nD), by rw [upd_ne nDg]; exact hg3, [], upd_same, rfl, (fun p hp => by cases hp)⟩ ?_ ?_
    · rintro i H4 hi ⟨x4, hg4, r, hr, rl, rp⟩
      refine ⟨rfl, _, rfl, _, rfl, b, c, q, rfl, x4.g1, by omega, by omega, fun e H5 e0 e1 x5 => ⟨r.map V.int, x5.ints hr, ?_, (x4.trans x5).mut DH, ?_, r ++ [e], ?_, by rw [List.length_append, rl]; rfl, fun p hp => ?_⟩⟩
      · rw [List.length_map, rl]
        exact line_gt (by omega)
      · rw [upd_ne nDg]
        exact x5.but _ _ ngb hg4
      · rw [upd_same, List.map_append]
        rfl
      · rcases List.mem_append.mp hp with z | z
        · exact rp p z
        · rw [List.mem_singleton.mp z]; exact ⟨e0, e1⟩
    rintro H4 ⟨x4, hg4, pl, hpl, ppl, pp⟩
    have ppl2 : pl.length = many := by omega
    -- pick
    refine ⟨_, rfl, b, c, 4, rfl, x4.g1, by decide, by decide, fun pick H5 pk0 pk1 x5 => ?_⟩
    refine ⟨fun σ' H6 => ∃ (y7 y8 y9 : Option V) (ys : List V) (B : List (List Int)), σ' = [some (.ref b), some (.int q), some (.int most), some (.int many), some (.ref g), some (.ref D), some (.int pick), y7, y8, y9, none, none, none] ∧ Ext b c H H6 ∧ H6 g = some (.lst ys) ∧ RowsT K H6 ys B ∧ (∀ r ∈ B, Row q (many + 1) r) ∧ B ≠ [] ∧ B.length ≤ 6, ?_, ?_⟩
    · refine ⟨_, rfl, b, c, 6, rfl, (x4.trans x5).g1, by decide, by decide, fun e H6 e0 e1 x6 => ⟨_, _, rfl, rfl, _, rfl, by omega, by omega, ?_⟩⟩
      have x46 := x5.trans x6
      refine for_range (lo := 0) (n := (1 + e).toNat) (fun i σ' H7 => ∃ (y7 y8 y9 : Option V) (ys : List V) (B : List (List Int)), σ' = [some (.ref b), some (.int q), some (.int most), some (.int (1 + d)), some (.ref g), some (.ref D), some (.int pick), y7, y8, y9, none, none, none] ∧ Ext b c H H7 ∧ H7 g = some (.lst ys) ∧ H7 D = some (.lst (pl.map V.int)) ∧ RowsT K H7 ys B ∧ (∀ r ∈ B, Row q (many + 1) r) ∧ B.length = i)
        ⟨_, _, _, [], [], rfl, x4.trans x46, x46.but _ _ ngb hg4, x46.ints hpl, .nil, (fun r hr => by cases hr), rfl⟩ ?_ ?_
      · rintro i σ' H7 hi ⟨y7, y8, y9, ys, B, rfl, x7, hg7, hD7, hB7, hrow, lB⟩
        have yl : ys.length = B.length := paired_len hB7
        -- the row
        refine ⟨_, rfl, (1 + d), rfl, by omega, by omega, fun D2 nD2 => ?_⟩
        have D2H : H D2 = none := x7.free nD2
        have ngD2 : g ≠ D2 := ne_of_none hg7 nD2
        have nDD2 : D ≠ D2 := ne_of_none hD7 nD2
        have step : ∀ {j : Nat} {H9 : Hp} {z : Int}, RI K b c H g D D2 q ys B pl j H9 → j < 1000 → Pc q z → ∃ acc, H9 D2 = some (.lst acc) ∧ acc.length < sizeLine ∧ RI K b c H g D D2 q ys B pl (j + 1) (upd H9 D2 (.lst (acc ++ [.int z]))) := fun {j H9 z} h hj hz => by
          obtain ⟨h1, h2, h3, h4, r, h5, h6, h7⟩ := h
          refine ⟨_, h5, by rw [List.length_map, h6]; exact line_gt (by omega), h1.mut D2H, by rw [upd_ne ngD2]; exact h2, by rw [upd_ne nDD2]; exact h3, RowsT.list h4 h5, r ++ [z], by rw [upd_same, List.map_append]; rfl, by rw [List.length_append, h6]; rfl, fun p hp => ?_⟩
          rcases List.mem_append.mp hp with z | z
          · exact h7 p z
          · rw [List.mem_singleton.mp z]; exact hz
        have draws : ∀ {j : Nat} {H9 H10 : Hp}, RI K b c H g D D2 q ys B pl j H9 → Ext b c H9 H10 → RI K b c H g D D2 q ys B pl j H10 := fun {j H9 H10} ⟨h1, h2, h3, h4, r, h5, h6, h7⟩ x => ⟨h1.trans x, x.but _ _ ngb h2, x.ints h3, x.rowsT h4, r, x.ints h5, h6, h7⟩
        refine lc_range (lo := 0) (n := (1 + d).toNat) (fun j H' => RI K b c H g D D2 q ys B pl j H') ⟨x7.same (same_upd nD2), by rw [upd_ne ngD2]; exact hg7, by rw [upd_ne nDD2]; exact hD7, hB7.same (same_upd nD2), [], upd_same, rfl, (fun p hp => by cases hp)⟩ ?_ ?_
        · rintro j H8 hj ri
          refine ⟨rfl, _, rfl, b, c, 3, rfl, ri.1.g1, by decide, by decide, fun e H9 e0 e1 x9 => ⟨_, _, rfl, rfl, _, rfl, ite2 (fun c1 => ?_) (fun c1 => ?_)⟩⟩
          · exact ⟨_, rfl, _, rfl, b, c, q, rfl, x9.g1, by omega, by omega, fun z H10 z0 z1 x10 => step (draws (draws ri x9) x10) (by omega) ⟨z0, z1⟩⟩
          · exact step (draws ri x9) (by omega) ⟨by decide, by omega⟩
        rintro H8 ri
        have e0' : (1 + d).toNat = many := by omega
        rw [e0'] at ri
        -- the last piece
        refine ⟨fun σ' H9 => ∃ z : Int, σ' = [some (.ref b), some (.int q), some (.int most), some (.int (1 + d)), some (.ref g), some (.ref D), some (.int pick), some (.int (0 + (i : Nat))), some (.ref D2), some (.int z), none, none, none] ∧ RI K b c H g D D2 q ys B pl many H9 ∧ Pc q z, ?_, ?_⟩
        · refine ⟨_, rfl, _, _, rfl, rfl, _, rfl, ite2 (fun c1 => ?_) (fun c1 => ?_)⟩
          · obtain ⟨h1, h2, h3, h4, r, h5, h6, h7⟩ := ri
            refine ⟨_, rfl, _, rfl, D2, D, _, _, rfl, SqL.of h5, SqL.of h3, fun D3 nD3 => ?_⟩
            have nD23 : D2 ≠ D3 := ne_of_none h5 nD3
            have hle : r.length ≤ pl.length := by omega
            refine lc_it (walk_zip (K := K) (a := D2) (b := D) (xs := r.map V.int) (ys := pl.map V.int) (n := r.length) (by rw [List.length_map, List.length_map]; omega)) (fun j H9 => Same H8 H9 ∧ H9 D3 = some (.lst (((prods r pl).take j).map V.int))) ⟨same_upd nD3, upd_same⟩ (fun j H9 _ h => ⟨SqL.of (h.1 _ _ h5), SqL.of (h.1 _ _ h3)⟩) ?_ ?_
            · rintro j u H9 H10 hj ⟨sm2, hd⟩ ⟨p, z1, z2, rfl, np, rfl, ex, ey⟩
              obtain ⟨j1, rfl⟩ := ints_of ex
              obtain ⟨j2, rfl⟩ := ints_of ey
              have p1 : Pc q (r.getD j 0) := by
                rw [getD_lt 0 j1]
                exact h7 _ (List.getElem_mem j1)
              have nDp : D3 ≠ p := ne_of_none hd np
              refine ⟨p, _, rfl, SqT.of upd_same, rfl, _, _, rfl, _, _, rfl, rfl, rfl, _, rfl, _, rfl, _, _, rfl, rfl, .inl ⟨by have := p1.1; omega, by have := p1.2; omega⟩, ((prods r pl).take j).map V.int, ?_, ?_, ?_, ?_⟩
              · rw [upd_ne nDp]; exact hd
              · rw [List.length_map, List.length_take, prods_len hle]
                exact line_gt (by omega)
              · exact same_mut (Same.trans sm2 (same_upd np)) nD3
              · rw [upd_same, map_take_snoc (by rw [prods_len hle]; exact j1), prods_getD hle j1]
            · rintro H9 ⟨sm2, hd⟩
              have e0 : (prods r pl).take r.length = prods r pl := List.take_of_length_le (by rw [prods_len hle]; exact Nat.le_refl _)
              rw [e0] at hd
              refine ⟨D3, _, rfl, SqL.of hd, .inl ⟨_, rfl, _, rfl, _, _, rfl, rfl, by omega, ?_⟩⟩
              exact ⟨_, rfl, ⟨h1.same sm2, sm2 _ _ h2, sm2 _ _ h3, h4.same sm2, r, sm2 _ _ h5, h6, h7⟩, Pc.mod (by omega) _⟩
          · exact ⟨_, rfl, _, rfl, b, c, q, rfl, ri.1.g1, by omega, by omega, fun z H10 z0 z1 x10 => ⟨z, rfl, draws ri x10, z0, z1⟩⟩
        · rintro σ' H9 ⟨z, rfl, ⟨h1, h2, h3, h4, r, h5, h6, h7⟩, hz⟩
          -- grid.append(tuple(row + [last]))
          refine ⟨_, rfl, .inl ⟨rfl, _, SqL.of h2⟩, ?_⟩
          refine ⟨_, rfl, _, rfl, s1, fun l1 nl1 => ?_⟩
          have n1 : D2 ≠ l1 := ne_of_none h5 nl1
          refine ⟨D2, l1, _, _, rfl, rfl, (by rw [upd_ne n1]; exact h5), upd_same, line_ge (by rw [List.length_map, h6]; show many + 1 ≤ 100000; omega), fun l2 nl2 => ⟨l2, _, rfl, .inl ⟨SqL.of upd_same, fun t nt => ?_⟩⟩⟩
          have er : r.map V.int ++ [.int z] = (r ++ [z]).map V.int := by rw [List.map_append]; rfl
          have st : SqT K (upd (upd (upd H9 l1 (.lst [.int z])) l2 (.lst (r.map V.int ++ [.int z]))) t (.tup (r.map V.int ++ [.int z]))) t ((r ++ [z]).map V.int) := by rw [← er]; exact SqT.of upd_same
          have sm9 : Same H9 (upd (upd (upd H9 l1 (.lst [.int z])) l2 (.lst (r.map V.int ++ [.int z]))) t (.tup (r.map V.int ++ [.int z]))) := ((same_upd nl1).trans (same_upd nl2)).trans (same_upd nt)
          generalize upd (upd (upd H9 l1 (.lst [.int z])) l2 (.lst (r.map V.int ++ [.int z]))) t (.tup (r.map V.int ++ [.int z])) = H10 at st sm9
          have hg10 := sm9 _ _ h2
          have nDg2 : D ≠ g := fun z => nDg z.symm
          refine ⟨g, ys, .ref t, rfl, rfl, hg10, line_gt (by omega), ?_⟩
          refine ⟨_, _, _, ys ++ [.ref t], B ++ [r ++ [z]], rfl, (h1.same sm9).mut gH, upd_same, by rw [upd_ne nDg2]; exact sm9 _ _ h3, paired_snoc (RowsT.list (h4.same sm9) hg10) ⟨t, rfl, sqT_list st hg10⟩, fun r2 hr2 => ?_, by rw [List.length_append, lB]; rfl⟩
          rcases List.mem_append.mp hr2 with y | y
          · exact hrow r2 y
          · rw [List.mem_singleton.mp y]
            refine ⟨by rw [List.length_append, h6]; rfl, fun p hp => ?_⟩
            rcases List.mem_append.mp hp with y | y
            · exact h7 p y
            · rw [List.mem_singleton.mp y]; exact hz
      · rintro σ' H7 ⟨y7, y8, y9, ys, B, rfl, x7, hg7, hD7, hB7, hrow, lB⟩
        exact ⟨_, _, _, ys, B, by rw [hmany], x7, hg7, hB7, hrow, (fun z => by rw [z] at lB; simp at lB; omega), by omega⟩
    · rintro σ' H6 ⟨y7, y8, y9, ys, B, rfl, x6, hg6, hB6, hrow, hne, lB⟩
      have yl : ys.length = B.length := paired_len hB6
      have lpos : 0 < B.length := by
        cases e : B with
        | nil => exact absurd e hne
        | cons _ _ => simp
      refine ⟨fun σ' H6 => ∃ (y7 y8 y9 y10 : Option V) (ys : List V) (B : List (List Int)), σ' = [some (.ref b), some (.int q), some (.int most), some (.int many), some (.ref g), some (.ref D), some (.int pick), y7, y8, y9, y10, none, none] ∧ Ext b c H H6 ∧ H6 g = some (.lst ys) ∧ RowsT K H6 ys B ∧ (∀ r ∈ B, Row q (many + 1) r) ∧ 0 < B.length ∧ B.length ≤ 6, ?_, ?_⟩
      · refine ⟨_, rfl, rfl, _, rfl, ite2 (fun c1 => ?_) (fun c1 => ⟨_, _, _, _, ys, B, rfl, x6, hg6, hB6, hrow, lpos, lB⟩)⟩
        refine ⟨_, rfl, _, rfl, g, ys, rfl, .inl (SqL.of hg6), b, c, _, rfl, x6.g1, by omega, by omega, fun e H7 e0 e1 x7 => ?_⟩
        have x67 := x6.trans x7
        have hg7 := x7.but _ _ ngb hg6
        have hB7 := x7.rowsT hB6
        obtain ⟨i, rfl⟩ : ∃ i : Nat, e = (i : Int) := ⟨e.toNat, by omega⟩
        have hi : i < B.length := by omega
        obtain ⟨v, hv, a, rfl, ha⟩ := paired_get hB7 hi []
        have hr := row_ix hrow hi
        refine ⟨_, rfl, _, rfl, g, ys, _, .ref a, rfl, rfl, SqL.of hg7, atI_nat hv, ?_⟩
        have hal : ((B.getD i []).map V.int).length = many + 1 := by rw [List.length_map, hr.1]
        refine ⟨_, rfl, (many : Int), rfl, a, _, rfl, ha, ?_, fun p np => ?_⟩
        · rw [HT.sIx_none, HT.sIx_nat, hal]
          omega
        rw [cut_take]
        have sp : SqT K (upd H7 p (.tup (((B.getD i []).map V.int).take many))) p (((B.getD i []).take many).map V.int) := by rw [List.map_take]; exact SqT.of upd_same
        have smp : Same H7 (upd H7 p (.tup (((B.getD i []).map V.int).take many))) := same_upd np
        generalize upd H7 p (.tup (((B.getD i []).map V.int).take many)) = H8 at sp smp
        have hg8 := smp _ _ hg7
        refine ⟨_, rfl, _, rfl, g, ys, _, .ref a, rfl, rfl, SqL.of hg8, atI_nat hv, _, rfl, a, _, _, _, rfl, rfl, same_tup smp ha, atI_nat (ints_at (by rw [hr.1]; omega)), _, _, rfl, rfl, ?_⟩
        have x8 := x67.same smp
        refine ⟨_, rfl, _, rfl, _, _, rfl, rfl, b, c, q - 1, rfl, x8.g1, by omega, by omega, fun e2 H9 f0 f1 x9 => ⟨_, _, rfl, rfl, .inl ⟨_, rfl, _, rfl, _, _, rfl, rfl, by omega, s1, fun t1 nt1 => ?_⟩⟩⟩
        have x89 := x8.trans x9
        have hz : Pc q (((B.getD i []).getD many 0 + 1 + e2) % q) := Pc.mod (by omega) _
        have sp9 := same_tup (same_upd (o := .tup [.int (((B.getD i []).getD many 0 + 1 + e2) % q)]) nt1) (x9.tup sp)
        refine ⟨p, t1, _, [.int (((B.getD i []).getD many 0 + 1 + e2) % q)], rfl, rfl, sp9, SqT.of upd_same, line_ge (by rw [List.length_map, List.length_take]; show _ + 1 ≤ _; omega), fun z => ?_, (fun _ z => by cases z), fun _ _ t2 nt2 => ?_⟩
        · have := congrArg List.length z
          rw [List.length_map, List.length_take, hr.1] at this
          simp at this
          omega
        · have er : ((B.getD i []).take many).map V.int ++ [.int (((B.getD i []).getD many 0 + 1 + e2) % q)] = ((B.getD i []).take many ++ [((B.getD i []).getD many 0 + 1 + e2) % q]).map V.int := by rw [List.map_append]; rfl
          rw [er]
          have st : SqT K (upd (upd H9 t1 (.tup [.int (((B.getD i []).getD many 0 + 1 + e2) % q)])) t2 (.tup (((B.getD i []).take many ++ [((B.getD i []).getD many 0 + 1 + e2) % q]).map V.int))) t2 (((B.getD i []).take many ++ [((B.getD i []).getD many 0 + 1 + e2) % q]).map V.int) := SqT.of upd_same
          have sm9 : Same H9 (upd (upd H9 t1 (.tup [.int (((B.getD i []).getD many 0 + 1 + e2) % q)])) t2 (.tup (((B.getD i []).take many ++ [((B.getD i []).getD many 0 + 1 + e2) % q]).map V.int))) := (same_upd nt1).trans (same_upd nt2)
          generalize upd (upd H9 t1 (.tup [.int (((B.getD i []).getD many 0 + 1 + e2) % q)])) t2 (.tup (((B.getD i []).take many ++ [((B.getD i []).getD many 0 + 1 + e2) % q]).map V.int)) = H10 at st sm9
          have hg10 := sm9 _ _ (x9.but _ _ ngb hg8)
          have hB10 := ((x9.rowsT (hB7.same smp))).same sm9
          refine ⟨_, rfl, _, rfl, g, ys, _, i, rfl, rfl, hg10, ixN_nat (by omega), ?_⟩
          refine ⟨_, _, _, _, ys.set i (.ref t2), B.set i ((B.getD i []).take many ++ [((B.getD i []).getD many 0 + 1 + e2) % q]), rfl, (x89.same sm9).mut gH, upd_same, paired_set ⟨t2, rfl, sqT_list st hg10⟩ i (RowsT.list hB10 hg10), set_rows hrow ⟨?_, fun z hz2 => ?_⟩, by rw [List.length_set]; exact lpos, by rw [List.length_set]; exact lB⟩
          · rw [List.length_append, List.length_take, hr.1]
            simp
          · rcases List.mem_append.mp hz2 with y | y
            · exact hr.2 z (List.mem_of_mem_take y)
            · rw [List.mem_singleton.mp y]; exact hz
      · rintro σ' H6 ⟨y7, y8, y9, y10, ys, B, rfl, x6, hg6, hB6, hrow, lpos, lB⟩
        have yl : ys.length = B.length := paired_len hB6
        refine ⟨fun σ' H6 => ∃ (y7 y8 y9 y10 : Option V) (ys : List V) (B : List (List Int)), σ' = [some (.ref b), some (.int q), some (.int most), some (.int many), some (.ref g), some (.ref D), some (.int pick), y7, y8, y9, y10, none, none] ∧ Ext b c H H6 ∧ H6 g = some (.lst ys) ∧ RowsT K H6 ys B ∧ (∀ r ∈ B, Row q (many + 1) r) ∧ 0 < B.length ∧ B.length ≤ 7, ?_, ?_⟩
        · refine ⟨_, rfl, b, c, 3, rfl, x6.g1, by decide, by decide, fun e H7 e0 e1 x7 => ⟨rfl, _, rfl, ?_⟩⟩
          have x67 := x6.trans x7
          have hg7 := x7.but _ _ ngb hg6
          have hB7 := x7.rowsT hB6
          refine ite2 (fun c1 => ?_) (fun c1 => ⟨_, _, _, _, ys, B, rfl, x67, hg7, hB7, hrow, lpos, by omega⟩)
          refine ⟨_, rfl, .inl ⟨rfl, _, SqL.of hg7⟩, _, rfl, _, rfl, b, c, g, ys, rfl, x67.g1, ngb, hg7, by omega, by omega, fun i v H8 hi x8 => ?_⟩
          have hg8 := x8.but _ _ ngb hg7
          have hil : i < ys.length := (List.getElem?_eq_some_iff.mp hi).1
          obtain ⟨v2, hv2, a, rfl, ha⟩ := paired_get (x8.rowsT hB7) (by omega : i < B.length) []
          rw [hi] at hv2
          cases hv2
          refine ⟨g, ys, .ref a, rfl, rfl, hg8, line_gt (by omega), ?_⟩
          refine ⟨_, _, _, _, ys ++ [.ref a], B ++ [B.getD i []], rfl, (x67.trans x8).mut gH, upd_same, paired_snoc (RowsT.list (x8.rowsT hB7) hg8) ⟨a, rfl, sqT_list ha hg8⟩, fun r hr => ?_, by rw [List.length_append]; simp, by rw [List.length_append]; simp; omega⟩
          rcases List.mem_append.mp hr with y | y
          · exact hrow r y
          · rw [List.mem_singleton.mp y]; exact row_ix hrow (by omega)
        · rintro σ' H6 ⟨y7, y8, y9, y10, ys, B, rfl, x6, hg6, hB6, hrow, lpos, lB⟩
          refine ⟨_, rfl, _, rfl, _, rfl, _, rfl, _, rfl, _, rfl, g, q, many, ys, B, rfl, SqL.of hg6, hB6, hrow, hq, by omega, hpw2, fun H7 v ans sm7 hA hV => ?_⟩
          have x7 := x6.same sm7
          refine ⟨b, c, g, q, v, many, ans, ys, B, rfl, x7.g1, ngb, sm7 _ _ hg6, hB6.same sm7, (fun z => by rw [z] at lpos; simp at lpos), hrow, by omega, by omega, hq, hA, hV, fun H8 x8 => hQ H8 (x7.trans x8)⟩
end
end K16

set_option Elab.async false
set_option linter.all false
set_option maxRecDepth 100000
set_option maxHeartbeats 4000000
/-! The planted answer; lists of ints as data. -/
namespace K16
open PySem PySem.Spec PyProof.Rows L2
/-! ### lists of ints as data -/
def dI0 (r : List Int) : PyData := .list (r.map PyData.int)
theorem eqvAll_ints : ∀ a b : List Int, PyData.eqvAll (a.map PyData.int) (b.map PyData.int) = decide (a = b)
  | [], [] => by simp [PyData.eqvAll]
  | [], b :: bs => by simp [PyData.eqvAll]
  | a :: as, [] => by simp [PyData.eqvAll]
  | a :: as, b :: bs => by
    rw [List.map_cons, List.map_cons, PyData.eqvAll, eqvAll_ints as bs, PyData.eqv, Bool.eq_iff_iff]
    simp
theorem eqv_ints (a b : List Int) : PyData.eqv (dI0 a) (dI0 b) = decide (a = b) := by
  unfold dI0
  rw [PyData.eqv, eqvAll_ints]
theorem lay_ints : ∀ a : List Int, PyData.canLayAll0 (a.map PyData.int) = true ∧ PyData.depthAll (a.map PyData.int) = 0
  | [] => by simp [PyData.canLayAll0, PyData.depthAll]
  | a :: as => by
    obtain ⟨h1, h2⟩ := lay_ints as
    rw [List.map_cons, PyData.canLayAll0, PyData.depthAll, h1, h2]
    simp [PyData.canLay0, PyData.depth]
theorem shaped_ints (a : List Int) : SeqAt.shaped (dI0 a) = true := by
  obtain ⟨h1, h2⟩ := lay_ints a
  unfold SeqAt.shaped dI0
  rw [PyData.canLay0, PyData.depth, h1, h2]
  decide
theorem dp_ints {K : PySem.W.Frag} {H : Hp} {a : Addr} {r : List Int} (h : SqL K H a (r.map V.int)) : Dp K H (.ref a) (dI0 r) := by
  refine .lst h ?_
  clear h
  induction r with
  | nil => exact .nil
  | cons x r ih => exact .cons (.int x) ih
/-! ### leads -/
section
variable {q : Int} {many : Nat} {R : List (List Int)} {L : List Nat}
theorem Red.inj {n : Nat} (D : Red q n R L) {i k l : Nat} (h1 : L[i]? = some l) (h2 : L[k]? = some l) : i = k := by
  rcases Nat.decEq i k with z | z
  · have a := (D.lead i l h1).2.2.2 k (fun e => z e.symm)
    rw [(D.lead k l h2).2.1] at a
    exact absurd a (by decide)
  · exact z
theorem Red.head {n : Nat} (D : Red q n R L) {i : Nat} (hi : i < R.length) : ∃ l, L[i]? = some l ∧ l < n ∧ (R.getD i []).getD l 0 = 1 ∧ ∀ j, j < l → (R.getD i []).getD j 0 = 0 := by
  have hL : i < L.length := by rw [D.len]; exact hi
  obtain ⟨h1, h2, h3, _⟩ := D.lead i L[i] (List.getElem?_eq_getElem hL)
  exact ⟨L[i], List.getElem?_eq_getElem hL, h1, h2, h3⟩
/-- the answer as far as the first i rows tell it -/
structure DueTo (q : Int) (many : Nat) (R : List (List Int)) (L : List Nat) (i : Nat) (x : List Int) : Prop where
  row : Row q many x
  yes : ∀ j l, j < i → L[j]? = some l → l < many → x.getD l 0 = at2 R j many
  no : ∀ c, c < many → (∀ j, j < i → L[j]? ≠ some c) → x.getD c 0 = 0
theorem DueTo.start (hq : 2 ≤ q) : DueTo q many R L 0 (List.replicate many 0) :=
  ⟨⟨by simp, fun p hp => by rw [(List.mem_replicate.mp hp).2]; exact ⟨Int.le_refl 0, by omega⟩⟩, fun j l h => by omega, fun c _ _ => rep_getD many c⟩
theorem DueTo.skip {i l : Nat} {x : List Int} (d : DueTo q many R L i x) (h : L[i]? = some l) (hl : ¬ l < many) : DueTo q many R L (i + 1) x := by
  refine ⟨d.row, fun j k hj e hk => ?_, fun c hc hno => d.no c hc fun j hj => hno j (by omega)⟩
  by_cases c : j = i
  · rw [c, h] at e
    have : l = k := Option.some.inj e
    omega
  · exact d.yes j k (by omega) e hk
theorem DueTo.set {i l : Nat} {x : List Int} (hq : 0 < q) (D : Red q (many + 1) R L) (d : DueTo q many R L i x) (h : L[i]? = some l) (hl : l < many) : DueTo q many R L (i + 1) (x.set l (at2 R i many)) := by
  have g : ∀ k, (x.set l (at2 R i many)).getD k 0 = if l = k then at2 R i many else x.getD k 0 := fun k => by
    by_cases c : k < x.length
    · exact set_getD1 c
    · rw [getD_ge 0 (by rw [List.length_set]; omega), getD_ge 0 (by omega), if_neg (by have := d.row.1; omega)]
  refine ⟨row_set d.row (at2_pc hq D.rows i many), fun j k hj e hk => ?_, fun c hc hno => ?_⟩
  · rw [g k]
    by_cases c : j = i
    · rw [c, h] at e
      rw [if_pos (Option.some.inj e), c]
    · rw [if_neg (fun z => c (D.inj e (by rw [h, z])))]
      exact d.yes j k (by omega) e hk
  · rw [g c, if_neg (fun z => hno i (by omega) (by rw [h, z]))]
    exact d.no c hc fun j hj => hno j (by omega)
theorem DueTo.canon {x : List Int} (D : Red q (many + 1) R L) (d : DueTo q many R L R.length x) (h : many ∉ L) : Canon q many R x := by
  refine D.canon h d.row (fun i l e => ?_) fun c hc hno => d.no c hc fun j hj e => hno (List.mem_of_getElem? e)
  have hi : i < L.length := (List.getElem?_eq_some_iff.mp e).1
  have hl := (D.lead i l e).1
  have nl : l ≠ many := fun z => h (by rw [← z]; exact List.mem_of_getElem? e)
  exact d.yes i l (by rw [← D.len]; exact hi) e (by omega)
/-- a row's first pieces are all zeros exactly if it leads at the last place -/
theorem Red.zeros {i l : Nat} (D : Red q (many + 1) R L) (hi : i < R.length) (h : L[i]? = some l) : (R.getD i []).take many = List.replicate many 0 ↔ l = many := by
  obtain ⟨h1, h2, h3, _⟩ := D.lead i l h
  have hr := row_ix D.rows hi
  constructor
  · intro e
    rcases Nat.lt_or_ge l many with z | z
    · have : ((R.getD i []).take many).getD l 0 = 0 := by rw [e]; exact rep_getD many l
      rw [List.getD_eq_getElem?_getD, List.getElem?_take_of_lt z, ← List.getD_eq_getElem?_getD] at this
      have h2' : (R.getD i []).getD l 0 = 1 := h2
      rw [h2'] at this
      exact absurd this (by decide)
    · omega
  · intro e
    refine ext_getD (by rw [List.length_take, List.length_replicate, hr.1]; omega) fun j hj => ?_
    rw [List.length_take, hr.1] at hj
    have hj2 : j < many := by omega
    rw [rep_getD, List.getD_eq_getElem?_getD, List.getElem?_take_of_lt hj2, ← List.getD_eq_getElem?_getD]
    exact h3 j (by omega)
end
end K16

set_option Elab.async false
set_option linter.all false
set_option maxRecDepth 100000
set_option maxHeartbeats 4000000
/-! _law_planted_so. -/
namespace K16
open PySem PySem.Spec PyProof.Rows L2
theorem blkOk_any {N : List Str} {sc scope : Scope} {own : List (Str × Nat)} (h : blkC N scope scope own = true) (hf : (scope.names.all fun y => !decide (y.2 = .free)) = true) : BlkOk N sc scope own := by
  have b := blkOk_by h
  refine ⟨b.kind, b.uniq, b.ix, fun y hy e => ?_, b.own⟩
  have := List.all_eq_true.mp hf y hy
  rw [e] at this
  cases this
section
variable {P : Program} {w : World} {K : PySem.W.Frag} {mg : Str → Option Value} {base : Heap}
theorem scPl : FnScope ["_law_bag_here", "_law_q", "_law_many", "_law_form", "_law_due_here", "_law_row", "_law_lead", "_law_none", "_law_zeros", "_law_grid", "_law_at", "_law_k"] ["_law_bag_here"] (defScope sPlanted) := ⟨rfl, rfl, rfl, by decide +kernel, rfl, by decide +kernel, by decide +kernel⟩
theorem ok_planted (T : Txt mg) (F : FnAt K mg "_law_planted_so" sPlanted ["_law_bag_here"]) (GD : DefOk P w K mg base CX0 1 "_law_draw" ["_law_bag_here", "_law_limit"] spDraw) (GO : DefOk P w K mg base CX0 2 "_law_of" ["_law_bag_here", "_law_things"] spOf) (GPs : DefOk P w K mg base CX0 1 "_law_primes" [] spPrimes)
    (GFo : DefOk P w K mg base CX0 3 "_law_formed" ["_law_bag_here", "_law_q", "_law_most", "_law_wide"] spFormed) (GSt : DefOk P w K mg base CX0 3 "_law_stirred" ["_law_bag_here", "_law_q", "_law_form", "_law_zeros"] (spStirred K))
    (GTs : DefOk P w K mg base CX0 5 "_law_told_so" ["_law_bag_here", "_law_grid", "_law_q", "_law_due_here"] (spTold K)) : DefOk P w K mg base CX0 6 "_law_planted_so" ["_law_bag_here"] spFree := by
  refine mk0 F scPl (fun vs H Q E h => ?_) (fun f cdv A outer s H vs Q E hr h => ?_)
  · obtain ⟨b, c, rfl, _⟩ := h
    rfl
  · obtain ⟨b, c, rfl, G, hQ⟩ := h
    refine ⟨_, (pss_cons (ps_asg (pe_tup (pa_cons (pe_callD GO (hr.mono (by decide)) pass0 (pa_cons (pv 0) (pa_cons (pe_callD0 GPs (hr.mono (by decide)) pass0) pa_nil))) (pa_cons (pe_op op_add pe_int (pe_callD GD (hr.mono (by decide)) pass0 (pa_cons (pv 0) (pa_cons pe_int pa_nil)))) pa_nil))) (pg_tup rfl (pgs_cons (pg_name (i := 1) scPl.nd rfl (.inl rfl)) (pgs_cons (pg_name (i := 2) scPl.nd rfl (.inr rfl)) pgs_nil))))
      (pss_cons (ps_set (i := 3) scPl.nd rfl (.inl rfl) (pe_callD GFo (hr.mono (by decide)) pass0 (pa_cons (pv 0) (pa_cons (pv 1) (pa_cons (pe_op op_add pe_int (pe_callD GD (hr.mono (by decide)) pass0 (pa_cons (pv 0) (pa_cons (pe_op op_add (pv 2) pe_int) pa_nil)))) (pa_cons (pe_op op_add (pv 2) pe_int) pa_nil))))))
      (pss_cons (ps_setLc (i := 4) (own := [("_law_at", 10)]) (g := (gName 10)) (tt := tYes) rfl scPl.nd rfl rfl (sw_true rfl rfl rfl (by decide +kernel)) (pi_range1 (by rfl) T.range_ (pa_cons (pv 2) pa_nil)) (blkOk_by (N := ["_law_bag_here", "_law_q", "_law_many", "_law_form", "_law_due_here", "_law_row", "_law_lead", "_law_none", "_law_zeros", "_law_grid", "_law_at", "_law_k"]) (sc := defScope sPlanted) (by decide +kernel)) (fun _ _ _ _ _ => (by exact pg_name (i := 10) scPl.nd rfl (Or.inl rfl))) (fun _ _ _ _ _ => pts_nil) (fun _ _ _ _ _ => pe_int))
      (Evl.pss_cut (ps_for PassesOwn.never rfl (pi_list (pv 3)) (pg_name (i := 5) scPl.nd rfl (.inr rfl))
      (pss_cons (ps_set (i := 6) scPl.nd rfl (.inl rfl) (pe_ix ix_list (pe_lc (own := [("_law_at", 10)]) (g := (gName 10)) rfl scPl.nd (pi_range1 (by rfl) T.range_ (pa_cons (pe_op op_add (pv 2) pe_int) pa_nil)) (blkOk_by (N := ["_law_bag_here", "_law_q", "_law_many", "_law_form", "_law_due_here", "_law_row", "_law_lead", "_law_none", "_law_zeros", "_law_grid", "_law_at", "_law_k"]) (sc := defScope sPlanted) (by decide +kernel)) (fun _ _ _ _ _ => (by exact pg_name (i := 10) scPl.nd rfl (Or.inl rfl))) (fun _ _ _ _ _ => pts_one (pt_cmpR op_ne (pe_ix (r := rIxL K) ix_list (pv 5) (pv 10) (fun _ _ => rfl)) pe_int (nomark _))) (fun _ _ _ _ _ => (pv 10))) pe_int (fun _ _ => rfl)))
      (pss_one (ps_if (pt_cmpR op_lt (pv 6) (pv 2) (nomark _)) (pss_one (ps_asg (pe_ix ix_list (pv 5) (pv 2) (fun _ _ => rfl)) (pg_sub (pv 4) (pv 6) set_list))) pss_nil))))
      (Evl.pss_cut (ps_setLc (i := 7) (own := [("_law_row", 5)]) (g := (gName 5)) rfl scPl.nd rfl rfl (sw_true rfl rfl rfl (by decide +kernel)) (pi_list (pv 3)) (blkOk_by (N := ["_law_bag_here", "_law_q", "_law_many", "_law_form", "_law_due_here", "_law_row", "_law_lead", "_law_none", "_law_zeros", "_law_grid", "_law_at", "_law_k"]) (sc := defScope sPlanted) (by decide +kernel)) (fun _ _ _ _ _ => (by exact pg_name (i := 5) scPl.nd rfl (Or.inl rfl))) (fun _ _ _ _ _ => pts_one (pt_cmpR (r := rEqD K) (op_eqD hr.units) (pe_slice (r := rSlL K) sl_list (pv 5) po_none (po_some (pv 2))) (pe_lc (own := [("_law_at", 10)]) (g := (gName 10)) (tt := tYes) rfl scPl.nd (pi_range1 (by rfl) T.range_ (pa_cons (pv 2) pa_nil)) (blkOk_any (N := ["_law_bag_here", "_law_q", "_law_many", "_law_form", "_law_due_here", "_law_row", "_law_lead", "_law_none", "_law_zeros", "_law_grid", "_law_at", "_law_k"]) (by decide +kernel) (by decide +kernel)) (fun _ _ _ _ _ => (by exact pg_name (i := 10) scPl.nd rfl (Or.inl rfl))) (fun _ _ _ _ _ => pts_nil) (fun _ _ _ _ _ => pe_int)) (nomark _))) (fun _ _ _ _ _ => (pv 5)))
      (pss_cons (ps_setLc (i := 8) (own := [("_law_k", 11)]) (g := (gName 11)) (tt := tYes) rfl scPl.nd rfl rfl (sw_true rfl rfl rfl (by decide +kernel)) (pi_range1 (by rfl) T.range_ (pa_cons (pe_callD GD (hr.mono (by decide)) pass0 (pa_cons (pv 0) (pa_cons pe_int pa_nil))) pa_nil)) (blkOk_by (N := ["_law_bag_here", "_law_q", "_law_many", "_law_form", "_law_due_here", "_law_row", "_law_lead", "_law_none", "_law_zeros", "_law_grid", "_law_at", "_law_k"]) (sc := defScope sPlanted) (by decide +kernel)) (fun _ _ _ _ _ => (by exact pg_name (i := 11) scPl.nd rfl (Or.inl rfl))) (fun _ _ _ _ _ => pts_nil) (fun _ _ _ _ _ => (pe_lc (own := [("_law_at", 10)]) (g := (gName 10)) (tt := tYes) rfl scPl.nd (pi_range1 (by rfl) T.range_ (pa_cons (pe_op op_add (pv 2) pe_int) pa_nil)) (blkOk_any (N := ["_law_bag_here", "_law_q", "_law_many", "_law_form", "_law_due_here", "_law_row", "_law_lead", "_law_none", "_law_zeros", "_law_grid", "_law_at", "_law_k"]) (by decide +kernel) (by decide +kernel)) (fun _ _ _ _ _ => (by exact pg_name (i := 10) scPl.nd rfl (Or.inl rfl))) (fun _ _ _ _ _ => pts_nil) (fun _ _ _ _ _ => pe_int))))
      (Evl.pss_cut (ps_if (PW.pt (pw_and (pt_not (pt_truth (pv 3) (by intro _; rfl))) (pw_and1 (pt_not (pt_truth (pv 8) (by intro _; rfl)))))) (pss_one (ps_expr (pe_bm PySem.F.plainAttrs_list PySem.F.slot_list_append PySem.F.type_list_append mt_append (pv 8) (pa_cons (pe_lc (own := [("_law_at", 10)]) (g := (gName 10)) (tt := tYes) rfl scPl.nd (pi_range1 (by rfl) T.range_ (pa_cons (pe_op op_add (pv 2) pe_int) pa_nil)) (blkOk_by (N := ["_law_bag_here", "_law_q", "_law_many", "_law_form", "_law_due_here", "_law_row", "_law_lead", "_law_none", "_law_zeros", "_law_grid", "_law_at", "_law_k"]) (sc := defScope sPlanted) (by decide +kernel)) (fun _ _ _ _ _ => (by exact pg_name (i := 10) scPl.nd rfl (Or.inl rfl))) (fun _ _ _ _ _ => pts_nil) (fun _ _ _ _ _ => pe_int)) pa_nil)))) pss_nil)
      (pss_cons (ps_set (i := 9) scPl.nd rfl (.inl rfl) (pe_callD GSt (hr.mono (by decide)) pass0 (pa_cons (pv 0) (pa_cons (pv 1) (pa_cons (pv 3) (pa_cons (pv 8) pa_nil))))))
      (pss_one (ps_ret (pe_callD GTs hr pass0 (pa_cons (pv 0) (pa_cons (pv 9) (pa_cons (pv 1) (pa_cons (pe_ifExp (pt_truth (pv 7) (by intro _; rfl)) pe_non (pe_callTy call_tuple_of (by rfl) T.tuple_ bt_tuple (pa_cons (pv 4) pa_nil))) pa_nil))))))))))))))), ?_⟩
    have s2 : 2 ≤ sizeLine := line_ge (by decide)
    refine ⟨_, rfl, rfl, fun lp H1 sm1 nlp hlp => ?_⟩
    have x1 := Ext.of G sm1
    refine ⟨b, c, lp, _, rfl, x1.g1, (G.off nlp).1, hlp, by decide, by decide, fun pi pv H2 hpi x2 => ?_⟩
    obtain ⟨hpi2, rfl⟩ := ints_of hpi
    have hq : primes.getD pi 0 ∈ primes := by rw [getD_lt 0 hpi2]; exact List.getElem_mem hpi2
    generalize primes.getD pi 0 = q at hq
    have q0 := prime_pos hq
    refine ⟨_, rfl, b, c, 8, rfl, x2.g1, by decide, by decide, fun d H3 d0 d1 x3 => ⟨_, _, rfl, rfl, s2, fun tp ntp => ⟨tp, _, rfl, SqT.of upd_same, rfl, _, _, rfl, _, _, rfl, rfl, ?_⟩⟩⟩
    have x4 := ((x1.trans x2).trans x3).same (same_upd (o := .tup [.int q, .int (1 + d)]) ntp)
    generalize upd H3 tp (.tup [.int q, .int (1 + d)]) = H4 at x4
    obtain ⟨many, hmany⟩ : ∃ many : Nat, 1 + d = (many : Int) := ⟨(1 + d).toNat, by omega⟩
    have hm1 : 1 ≤ many := by omega
    have hm8 : many ≤ 8 := by omega
    -- form
    refine ⟨_, rfl, _, rfl, _, rfl, _, rfl, _, _, rfl, rfl, b, c, _, rfl, x4.g1, by omega, by omega, fun e H5 e0 e1 x5 => ⟨_, _, rfl, rfl, _, rfl, _, _, rfl, rfl, ?_⟩⟩
    refine ⟨b, c, q, _, many + 1, by rw [hmany]; rfl, x5.g1, q0.1, q0.2, by omega, fun H6 fo ys R L x6 nfo hfo hR RD hRl => ?_⟩
    have x46 := (x4.trans x5).trans x6
    have foH : H fo = none := (x4.trans x5).free nfo
    have nfb : fo ≠ b := (G.off foH).1
    have yl : ys.length = R.length := paired_len hR
    -- due
    refine ⟨_, rfl, (1 + d), rfl, by omega, by omega, fun D nD => ?_⟩
    have DH : H D = none := x46.free nD
    have nDfo : fo ≠ D := ne_of_none hfo nD
    have yD : ∀ a ∈ ys, a ≠ .ref D := RowsL.old (H' := H6) hR nD
    refine lc_range (lo := 0) (n := (1 + d).toNat) (fun j H' => Same H6 H' ∧ H' D = some (.lst ((List.replicate j (0 : Int)).map V.int))) ⟨same_upd nD, upd_same⟩ ?_ ?_
    · rintro j H' hj ⟨sm, hd⟩
      refine ⟨rfl, (List.replicate j (0 : Int)).map V.int, hd, ?_, same_mut sm nD, ?_⟩
      · rw [List.length_map, List.length_replicate]
        exact line_gt (by omega)
      · rw [upd_same, List.replicate_succ', List.map_append]
        rfl
    rintro H7 ⟨sm7, hd7⟩
    rw [show (1 + d).toNat = many by omega] at hd7
    have x7 := x46.same sm7
    have hfo7 := sm7 _ _ hfo
    have hR7 := hR.same sm7
    -- the loop
    refine ⟨fun σ' H8 => ∃ (y5 y6 : Option V) (x : List Int), σ' = [some (.ref b), some (.int q), some (.int many), some (.ref fo), some (.ref D), y5, y6, none, none, none, none, none] ∧ Ext b c H H8 ∧ H8 fo = some (.lst ys) ∧ RowsL H8 ys R ∧ H8 D = some (.lst (x.map V.int)) ∧ DueTo q many R L R.length x, ?_, ?_⟩
    · refine ⟨_, rfl, fo, rfl, ⟨_, SqL.of hfo7⟩, for_list (K := K) (a := fo) (xs := ys) (fun i σ' H8 => ∃ (y5 y6 : Option V) (x : List Int), σ' = [some (.ref b), some (.int q), some (.int (1 + d)), some (.ref fo), some (.ref D), y5, y6, none, none, none, none, none] ∧ Ext b c H H8 ∧ H8 fo = some (.lst ys) ∧ RowsL H8 ys R ∧ H8 D = some (.lst (x.map V.int)) ∧ DueTo q many R L i x) ⟨_, _, _, rfl, x7, hfo7, hR7, hd7, DueTo.start q0.1⟩ (fun i σ' H8 _ h => ?_) ?_ ?_⟩
      · obtain ⟨_, _, _, _, _, h, _⟩ := h
        exact SqL.of h
      · rintro i v σ' H8 hv ⟨y5, y6, x, rfl, x8, hfo8, hR8, hD8, DT⟩
        have hi : i < R.length := by rw [← yl]; exact (List.getElem?_eq_some_iff.mp hv).1
        obtain ⟨v2, hv2, a, rfl, ha⟩ := paired_get hR8 hi []
        rw [hv] at hv2
        cases hv2
        have hrow := row_ix RD.rows hi
        obtain ⟨l, hl, hln, hone, hlow⟩ := RD.head hi
        have hal : ((R.getD i []).map V.int).length = many + 1 := by rw [List.length_map, hrow.1]
        refine ⟨_, rfl, _, _, rfl, rfl, _, rfl, by omega, by omega, fun D2 nD2 => ?_⟩
        have D2H : H D2 = none := x8.free nD2
        have n1 : fo ≠ D2 := ne_of_none hfo8 nD2
        have n2 : D ≠ D2 := ne_of_none hD8 nD2
        refine lc_range (lo := 0) (n := (1 + d + 1).toNat) (fun j H' => Same H8 H' ∧ ∃ acc : List V, H' D2 = some (.lst acc) ∧ acc.length ≤ j ∧ (j ≤ l → acc = []) ∧ (l < j → acc[0]? = some (.int l))) ⟨same_upd nD2, [], upd_same, Nat.le_refl _, fun _ => rfl, fun z => by omega⟩ ?_ ?_
        · rintro j H' hj ⟨sm, acc, hd, al, ae, af⟩
          have e1 : ((0 : Int) + (j : Nat)) = ((j : Nat) : Int) := by omega
          refine ⟨rfl, _, rfl, _, rfl, a, _, _, _, rfl, rfl, SqL.of (sm _ _ ha), by rw [e1]; exact atI_nat (ints_at (by rw [hrow.1]; omega)), rfl, _, rfl, ite2 (fun c1 => ?_) (fun c1 => ?_)⟩
          · have c : (R.getD i []).getD j 0 ≠ 0 := fun z => ne_true c1 (congrArg V.int z)
            have hlj : l ≤ j := by
              rcases Nat.lt_or_ge j l with z | z
              · exact absurd (hlow j z) c
              · exact z
            refine ⟨_, rfl, acc, hd, line_gt (by omega), same_mut sm nD2, acc ++ [.int (0 + (j : Nat))], upd_same, by rw [List.length_append]; simp; omega, fun z => by omega, fun z => ?_⟩
            rcases Nat.lt_or_ge l j with y | y
            · have := af y
              rw [List.getElem?_append_left (List.getElem?_eq_some_iff.mp this).1]
              exact this
            · have e : l = j := by omega
              rw [ae y, e, e1]
              rfl
          · have c : (R.getD i []).getD j 0 = 0 := V.int.inj (ne_false c1)
            have hlj : l ≠ j := fun z => by rw [← z, hone] at c; exact absurd c (by decide)
            exact ⟨sm, acc, hd, by omega, fun z => ae (by omega), fun z => af (by omega)⟩
        · rintro H' ⟨sm, acc, hd, al, ae, af⟩
          have hacc := af (by omega)
          have x9 := x8.same sm
          have hR9 := hR8.same sm
          have hfo9 := sm _ _ hfo8
          have hD9 := sm _ _ hD8
          refine ⟨D2, acc, 0, .int l, rfl, rfl, SqL.of hd, atI_nat (j := 0) hacc, ?_⟩
          refine ⟨_, rfl, _, rfl, _, _, rfl, rfl, _, rfl, ite2 (fun c1 => ?_) (fun c1 => ?_)⟩
          · have hlm : l < many := by have := of_decide_eq_true c1; omega
            refine ⟨_, rfl, _, rfl, a, _, _, _, rfl, rfl, SqL.of (sm _ _ ha), by rw [hmany]; exact atI_nat (ints_at (by rw [hrow.1]; omega)), _, rfl, _, rfl, D, _, _, l, rfl, rfl, hD9, ixN_nat (by rw [List.length_map, DT.row.1]; exact hlm), ?_⟩
            refine ⟨_, _, x.set l (at2 R i many), rfl, x9.mut DH, by rw [upd_ne nDfo]; exact hfo9, RowsL.upd2 hR9 hD9 yD, ?_, DT.set (by omega) RD hl hlm⟩
            rw [upd_same, List.map_set]
            rfl
          · exact ⟨_, _, x, rfl, x9, hfo9, hR9, hD9, DT.skip hl (fun z => c1 (decide_eq_true (by omega)))⟩
      · rintro σ' H8 ⟨y5, y6, x, rfl, h1, h2, h3, h4, h5⟩
        rw [yl] at h5
        exact ⟨y5, y6, x, by rw [hmany], h1, h2, h3, h4, h5⟩
    · rintro σ' H8 ⟨y5, y6, x, rfl, x8, hfo8, hR8, hD8, DT⟩
      -- the rows that lead at the last place
      refine ⟨fun σ' H9 => ∃ (nn : Addr) (acc : List V), σ' = [some (.ref b), some (.int q), some (.int many), some (.ref fo), some (.ref D), y5, y6, some (.ref nn), none, none, none, none] ∧ Same H8 H9 ∧ H8 nn = none ∧ H9 nn = some (.lst acc) ∧ (acc = [] ↔ many ∉ L), ?_, ?_⟩
      · refine ⟨_, rfl, fo, rfl, ⟨_, SqL.of hfo8⟩, fun D3 nD3 => ?_⟩
        have n1 : fo ≠ D3 := ne_of_none hfo8 nD3
        refine lc_it (walk_list (K := K) (a := fo) (xs := ys)) (fun i H' => Same H8 H' ∧ ∃ acc : List V, H' D3 = some (.lst acc) ∧ acc.length ≤ i ∧ (acc = [] ↔ ∀ j, j < i → L[j]? ≠ some many)) ⟨same_upd nD3, [], upd_same, Nat.le_refl _, ⟨fun _ j hj => by omega, fun _ => rfl⟩⟩ (fun i H' _ h => SqL.of (h.1 _ _ hfo8)) ?_ ?_
        · rintro i v H10 H9 hi ⟨sm, acc, hd, al, ai⟩ ⟨rfl, hx⟩
          have hiR : i < R.length := by omega
          obtain ⟨v2, hv2, a, rfl, ha⟩ := paired_get (hR8.same sm) hiR []
          rw [hx] at hv2
          cases hv2
          obtain ⟨l, hl, hln, hone, hlow⟩ := RD.head hiR
          have zz := RD.zeros hiR hl
          refine ⟨rfl, _, rfl, _, rfl, (many : Int), rfl, a, _, rfl, SqL.of ha, fun p np => ?_⟩
          rw [cut_take]
          have hp : SqL K (upd H9 p (.lst (((R.getD i []).map V.int).take many))) p (((R.getD i []).take many).map V.int) := by rw [List.map_take]; exact SqL.of upd_same
          have smp : Same H9 (upd H9 p (.lst (((R.getD i []).map V.int).take many))) := same_upd np
          generalize upd H9 p (.lst (((R.getD i []).map V.int).take many)) = H10 at hp smp
          refine ⟨_, rfl, (many : Int), rfl, by omega, by omega, fun D4 nD4 => ?_⟩
          refine lc_range (lo := 0) (n := ((many : Int)).toNat) (fun j H' => Same H10 H' ∧ H' D4 = some (.lst ((List.replicate j (0 : Int)).map V.int))) ⟨same_upd nD4, upd_same⟩ ?_ ?_
          · rintro j H' hj ⟨sm2, hd2⟩
            refine ⟨rfl, (List.replicate j (0 : Int)).map V.int, hd2, ?_, same_mut sm2 nD4, ?_⟩
            · rw [List.length_map, List.length_replicate]
              exact line_gt (by omega)
            · rw [upd_same, List.replicate_succ', List.map_append]
              rfl
          rintro H11 ⟨sm2, hd2⟩
          rw [show ((many : Int)).toNat = many by omega] at hd2
          have s911 : Same H9 H11 := smp.trans sm2
          have hd11 := s911 _ _ hd
          refine ⟨_, _, dp_ints (sm2.seq hp), dp_ints (SqL.of hd2), shaped_ints _, shaped_ints _, _, rfl, ?_⟩
          rw [eqv_ints]
          refine ite2 (fun c1 => ?_) (fun c1 => ?_)
          · have c := zz.mp (of_decide_eq_true c1)
            refine ⟨_, rfl, acc, hd11, line_gt (by omega), same_mut (sm.trans s911) nD3, acc ++ [.ref a], upd_same, by rw [List.length_append]; simp; omega, ⟨fun z => by simp at z, fun z => absurd (by rw [hl, c]) (z i (by omega))⟩⟩
          · have c : l ≠ many := fun z => c1 (decide_eq_true (zz.mpr z))
            refine ⟨sm.trans s911, acc, hd11, by omega, ⟨fun z j hj => ?_, fun z => ai.mpr fun j hj => z j (by omega)⟩⟩
            by_cases cj : j = i
            · rw [cj, hl]
              exact fun e => c (Option.some.inj e)
            · exact ai.mp z j (by omega)
        · rintro H9 ⟨sm, acc, hd, al, ai⟩
          refine ⟨D3, acc, rfl, sm, nD3, hd, ai.trans ⟨fun z hm => ?_, fun z j hj e => z (List.mem_of_getElem? e)⟩⟩
          obtain ⟨j, hj, e⟩ := List.mem_iff_getElem.mp hm
          exact z j (by rw [yl, ← RD.len]; exact hj) (by rw [List.getElem?_eq_getElem hj, e])
      · rintro σ' H9 ⟨nn, acc, rfl, sm9, nnn, hnn, hno⟩
        have x9 := x8.same sm9
        have hfo9 := sm9 _ _ hfo8
        have hR9 := hR8.same sm9
        have hD9 := sm9 _ _ hD8
        have nnH : H nn = none := x8.free nnn
        have nnb : nn ≠ b := (G.off nnH).1
        have nDb : D ≠ b := (G.off DH).1
        -- zeros
        refine ⟨_, rfl, b, c, 3, rfl, x9.g1, by decide, by decide, fun e H10 e0 e1 x10 => ⟨e, rfl, by omega, by omega, fun D5 nD5 => ?_⟩⟩
        have x910 := x9.trans x10
        have D5H : H D5 = none := x910.free nD5
        refine lc_range (lo := 0) (n := e.toNat) (fun j H' => Same H10 H' ∧ ∃ zs, H' D5 = some (.lst zs) ∧ RowsL H' zs (List.replicate j (List.replicate (many + 1) (0 : Int)))) ⟨same_upd nD5, [], upd_same, .nil⟩ ?_ ?_
        · rintro j H11 hj ⟨sm, zs, hz, hZ⟩
          refine ⟨rfl, _, rfl, _, _, rfl, rfl, _, rfl, by omega, by omega, fun D6 nD6 => ?_⟩
          have n56 : D5 ≠ D6 := ne_of_none hz nD6
          refine lc_range (lo := 0) (n := ((many : Int) + 1).toNat) (fun j H' => Same H11 H' ∧ H' D6 = some (.lst ((List.replicate j (0 : Int)).map V.int))) ⟨same_upd nD6, upd_same⟩ ?_ ?_
          · rintro j H' hj ⟨sm2, hd2⟩
            refine ⟨rfl, (List.replicate j (0 : Int)).map V.int, hd2, ?_, same_mut sm2 nD6, ?_⟩
            · rw [List.length_map, List.length_replicate]
              exact line_gt (by omega)
            · rw [upd_same, List.replicate_succ', List.map_append]
              rfl
          rintro H12 ⟨sm2, hd2⟩
          rw [show ((many : Int) + 1).toNat = many + 1 by omega] at hd2
          have hz12 := sm2 _ _ hz
          have hzl : zs.length = j := by rw [paired_len hZ, List.length_replicate]
          refine ⟨zs, hz12, line_gt (by omega), same_mut (sm.trans sm2) nD5, zs ++ [.ref D6], upd_same, ?_⟩
          rw [List.replicate_succ']
          exact paired_snoc (RowsL.but hz12 (hZ.same sm2) But.refl.upd) ⟨D6, rfl, by rw [upd_ne n56.symm]; exact hd2⟩
        rintro H11 ⟨sm11, zs, hz, hZ⟩
        have x11 := x910.same sm11
        have hfo11 := sm11 _ _ (x10.but _ _ nfb hfo9)
        have hR11 := (x10.rowsL hR9).same sm11
        have hD11 := sm11 _ _ (x10.ints hD9)
        have hnn11 := sm11 _ _ (x10.but _ _ nnb hnn)
        have hzl : zs.length = e.toNat := by rw [paired_len hZ, List.length_replicate]
        have nfo5 : fo ≠ D5 := ne_of_none (x10.but _ _ nfb hfo9) nD5
        have nD55 : D ≠ D5 := ne_of_none (x10.ints hD9) nD5
        have nnn5 : nn ≠ D5 := ne_of_none (x10.but _ _ nnb hnn) nD5
        have y5n : ∀ a ∈ ys, a ≠ .ref D5 := RowsL.old (H' := H10) (x10.rowsL hR9) nD5
        have D5b : D5 ≠ b := (G.off D5H).1
        refine ⟨fun σ' H12 => ∃ (zs : List V) (n : Nat), σ' = [some (.ref b), some (.int q), some (.int many), some (.ref fo), some (.ref D), y5, y6, some (.ref nn), some (.ref D5), none, none, none] ∧ Ext b c H H12 ∧ H12 fo = some (.lst ys) ∧ RowsL H12 ys R ∧ H12 D = some (.lst (x.map V.int)) ∧ H12 nn = some (.lst acc) ∧ H12 D5 = some (.lst zs) ∧ RowsL H12 zs (List.replicate n (List.replicate (many + 1) (0 : Int))) ∧ 0 < R.length + n ∧ n ≤ 3, ?_, ?_⟩
        · have same : 0 < R.length + e.toNat → ∃ (zs : List V) (n : Nat), [some (.ref b), some (.int q), some (.int many), some (.ref fo), some (.ref D), y5, y6, some (.ref nn), some (.ref D5), none, none, none] = [some (.ref b), some (.int q), some (.int many), some (.ref fo), some (.ref D), y5, y6, some (.ref nn), some (.ref D5), none, none, none] ∧ Ext b c H H11 ∧ H11 fo = some (.lst ys) ∧ RowsL H11 ys R ∧ H11 D = some (.lst (x.map V.int)) ∧ H11 nn = some (.lst acc) ∧ H11 D5 = some (.lst zs) ∧ RowsL H11 zs (List.replicate n (List.replicate (many + 1) (0 : Int))) ∧ 0 < R.length + n ∧ n ≤ 3 :=
            fun z => ⟨zs, e.toNat, rfl, x11, hfo11, hR11, hD11, hnn11, hz, hZ, z, by omega⟩
          refine ⟨_, rfl, !ys.isEmpty, .inl ⟨ys, SqL.of hfo11, rfl⟩, ?_⟩
          refine ite2 (fun c1 => ?_) (fun c1 => ?_)
          · refine ⟨_, rfl, !zs.isEmpty, .inl ⟨zs, SqL.of hz, rfl⟩, ite2 (fun c2 => ?_) (fun c2 => same ?_)⟩
            · have ze : zs.length = 0 := by
                cases zs with
                | nil => rfl
                | cons _ _ => simp at c2
              refine ⟨_, rfl, .inl ⟨rfl, _, SqL.of hz⟩, ?_⟩
              refine ⟨_, rfl, _, _, rfl, rfl, _, rfl, by omega, by omega, fun D6 nD6 => ?_⟩
              have n56 : D5 ≠ D6 := ne_of_none hz nD6
              refine lc_range (lo := 0) (n := ((many : Int) + 1).toNat) (fun j H' => Same H11 H' ∧ H' D6 = some (.lst ((List.replicate j (0 : Int)).map V.int))) ⟨same_upd nD6, upd_same⟩ ?_ ?_
              · rintro j H' hj ⟨sm2, hd2⟩
                refine ⟨rfl, (List.replicate j (0 : Int)).map V.int, hd2, ?_, same_mut sm2 nD6, ?_⟩
                · rw [List.length_map, List.length_replicate]
                  exact line_gt (by omega)
                · rw [upd_same, List.replicate_succ', List.map_append]
                  rfl
              rintro H12 ⟨sm2, hd2⟩
              rw [show ((many : Int) + 1).toNat = many + 1 by omega] at hd2
              have hz12 := sm2 _ _ hz
              refine ⟨D5, zs, .ref D6, rfl, rfl, hz12, line_gt (by omega), ?_⟩
              refine ⟨zs ++ [.ref D6], e.toNat + 1, rfl, (x11.same sm2).mut D5H, by rw [upd_ne nfo5]; exact sm2 _ _ hfo11, RowsL.upd2 (hR11.same sm2) hz12 y5n, by rw [upd_ne nD55]; exact sm2 _ _ hD11, by rw [upd_ne nnn5]; exact sm2 _ _ hnn11, upd_same, ?_, by omega, by omega⟩
              rw [List.replicate_succ']
              exact paired_snoc (RowsL.but hz12 (hZ.same sm2) But.refl.upd) ⟨D6, rfl, by rw [upd_ne n56.symm]; exact hd2⟩
            · cases zs with
              | nil => exact absurd rfl c2
              | cons _ _ => simp at hzl; omega
          · refine iteF (same ?_)
            rw [← yl]
            cases ys with
            | nil => exact absurd rfl c1
            | cons _ _ => simp; omega
        · rintro σ' H12 ⟨zs, n, rfl, x12, hfo12, hR12, hD12, hnn12, hz12, hZ12, hpos, hn3⟩
          have hzrow : ∀ r ∈ List.replicate n (List.replicate (many + 1) (0 : Int)), r = List.replicate (many + 1) 0 := fun r hr => (List.mem_replicate.mp hr).2
          have hrows : ∀ r ∈ R ++ List.replicate n (List.replicate (many + 1) (0 : Int)), Row q (many + 1) r := fun r hr => by
            rcases List.mem_append.mp hr with z | z
            · exact RD.rows r z
            · rw [hzrow r z]
              exact ⟨by simp, fun p hp => by rw [(List.mem_replicate.mp hp).2]; exact ⟨Int.le_refl 0, by omega⟩⟩
          refine ⟨_, rfl, _, rfl, _, rfl, _, rfl, b, c, fo, D5, q, many, ys, zs, R, _, rfl, x12.g1, nfb, D5b, hfo12, hz12, hR12, hZ12, hrows, by omega, by rw [List.length_replicate]; omega, hq, fun H13 p us G x13 np hp hG hgrow lk gl => ?_⟩
          rw [List.length_replicate] at gl
          have lk2 : Like q many R G := Like.trans (Like.symm (like_zeros fun r hr j => by rw [hzrow r hr]; exact rep_getD _ j)) lk
          have pb : p ≠ b := (x12.g1.off np).1
          have hnn13 := x13.but _ _ nnb hnn12
          have hD13 := x13.ints hD12
          have gne : G ≠ [] := fun z => by rw [z] at gl; simp at gl; omega
          have x123 := x12.trans x13
          refine ⟨_, rfl, _, rfl, _, rfl, _, rfl, !acc.isEmpty, .inl ⟨acc, SqL.of hnn13, rfl⟩, ite2 (fun c1 => ?_) (fun c1 => ?_)⟩
          · have hin : many ∈ L := Classical.byContradiction fun z => by
              rw [hno.mpr z] at c1
              exact absurd c1 (by decide)
            exact ⟨b, c, p, q, .non, many, none, us, G, rfl, x13.g1, pb, hp, hG, gne, hgrow, by omega, by omega, hq, Ans.like lk2 (a := none) (RD.none q0.1 hin), rfl, fun H14 x14 => hQ H14 (x123.trans x14)⟩
          · have hout : many ∉ L := hno.mp (by
              cases acc with
              | nil => rfl
              | cons _ _ => exact absurd rfl c1)
            refine ⟨_, rfl, D, _, rfl, .inl ⟨SqL.of hD13, fun t nt => ?_⟩⟩
            have st : SqT K (upd H13 t (.tup (x.map V.int))) t (x.map V.int) := SqT.of upd_same
            have smt : Same H13 (upd H13 t (.tup (x.map V.int))) := same_upd nt
            exact ⟨b, c, p, q, .ref t, many, some x, us, G, rfl, (x13.same smt).g1, pb, smt _ _ hp, hG.same smt, gne, hgrow, by omega, by omega, hq, Ans.like lk2 (a := some x) (DT.canon RD hout), ⟨t, rfl, st⟩, fun H14 x14 => hQ H14 ((x123.same smt).trans x14)⟩
end
end K16

set_option Elab.async false
set_option linter.all false
set_option maxRecDepth 100000
set_option maxHeartbeats 4000000
/-! law. -/
namespace K16
open PySem PySem.Spec PyProof.Rows L2 LamX
section
variable {P : Program} {w : World} {K : PySem.W.Frag} {mg : Str → Option Value} {base : Heap} {Pt : Addr}
theorem scLw : FnScope ["_law_script", "_law_bag_here", "_law_k"] ["_law_script"] (defScope sLaw) := ⟨rfl, rfl, rfl, by decide +kernel, rfl, by decide +kernel, by decide +kernel⟩
def spLaw (K : PySem.W.Frag) (Pt : Addr) : Sp := fun vs H Q _ => ∃ (a : Addr) (ns : List Int), vs = [.ref a] ∧ SqL K H a (ns.map V.int) ∧ ns.length ≤ 63 ∧ H Pt = some (.tbl #[]) ∧ ∀ H', Q (.bl true) H'
theorem ok_law (T : Txt mg) {f : Addr} {fd : FuncData} (F : FnP K "law" "law" sLaw f fd) (GB : DefOk P w K mg base CX0 1 "_law_bag" ["_law_script"] (spBag K)) (GF : DefOk P w K mg base CX0 6 "_law_free_so" ["_law_bag_here"] spFree) (GP : DefOk P w K mg base CX0 6 "_law_planted_so" ["_law_bag_here"] spFree)
    (GR : DefOk P w K mg base CX0 7 "_law_refused_so" ["_law_bag_here"] (spRefused Pt)) : FnOk P w K mg base CX0 8 f fd ["_law_script"] (spLaw K Pt) := by
  refine FunD.ok F scLw (fun vs H Q E h => ?_) (fun cdv A outer s H vs Q E hr h => ?_)
  · obtain ⟨a, ns, rfl, _⟩ := h
    rfl
  · obtain ⟨a, ns, rfl, hS, hl, hT, hQ⟩ := h
    refine ⟨_, PSs.nox ((pss_cons (ps_set (i := 1) scLw.nd rfl (.inl rfl) (pe_callD GB (hr.mono (by decide)) pass0 (pa_cons (pv 0) pa_nil)))
      (pss_cons (ps_for PassesOwn.never rfl (pi_range1 (by rfl) T.range_ (pa_cons pe_int pa_nil)) (pg_name (i := 2) scLw.nd rfl (.inl rfl))
      (pss_one (ps_if (PW.pt (pw_or (pt_not (pt_val (pe_callD GF (hr.mono (by decide)) pass0 (pa_cons (pv 1) pa_nil)))) (pw_or1 (pt_not (pt_val (pe_callD GP (hr.mono (by decide)) pass0 (pa_cons (pv 1) pa_nil))))))) (pss_one (ps_ret pe_bl)) pss_nil)))
      (pss_one (ps_ret (pe_callD GR hr pass0 (pa_cons (pv 1) pa_nil))))))), ?_⟩
    refine ⟨_, rfl, a, ns, rfl, hS, hl, fun b c H1 sm nb G => ?_⟩
    have hT1 : Tabs [(Pt, lamQ)] H1 := fun p hp => by
      rw [List.mem_singleton.mp hp]
      exact TabS.nil (sm _ _ hT)
    refine ⟨3, rfl, by decide, by decide, ?_⟩
    refine for_range (lo := 0) (n := ((3 : Int)).toNat) (fun i σ H' => ∃ y, σ = [some (.ref a), some (.ref b), y] ∧ Ext b c H1 H') ⟨none, rfl, Ext.refl G⟩ ?_ ?_
    · rintro i σ H' hi ⟨y, rfl, x⟩
      refine ⟨_, rfl, b, c, rfl, x.g1, fun H2 x2 => ?_⟩
      refine ⟨true, rfl, iteF ?_⟩
      refine ⟨_, rfl, b, c, rfl, x2.g1, fun H3 x3 => ⟨true, rfl, iteF ?_⟩⟩
      exact ⟨_, rfl, (x.trans x2).trans x3⟩
    · rintro σ H' ⟨y, rfl, x⟩
      exact ⟨_, rfl, b, c, rfl, x.g1, tabs_far hT1 x, fun H2 => hQ H2⟩
end
end K16

set_option Elab.async false
set_option linter.all false
set_option maxRecDepth 100000
set_option maxHeartbeats 0
/-! The head: the top is run once in the kernel; what it left is told by names. -/
namespace K16
open PySem PySem.Spec PyProof.Rows L2
def dG (x : Str) (st : Stmt) : He.DefD := ⟨(x, none), x, x, defArgs st, defBody st, defScope st, [], []⟩
def dI : He.DefD := ⟨("InvalidNumber", some "__init__"), "__init__", "InvalidNumber.__init__", defArgs sInit, defBody sInit, defScope sInit, [], []⟩
def defs : List He.DefD := [dI, dG "is_number" sNumber, dG "is_prime" sPrime, dG "_inverse_of" sInv, dG "_pivot_row" sPivot, dG "_scaled" sScaled, dG "_lessened" sLess, dG "_clear_column" sClear, dG "reduced" sReduced, dG "solved" sSolved,
  dG "_law_bag" sBag, dG "_law_draw" sDraw, dG "_law_of" sOf, dG "_law_like" sLike, dG "_law_turned" sTurned, dG "_law_primes" sPrimes, dG "_law_ask" sAsk, dG "_law_formed" sFormed, dG "_law_stirred" sStirred, dG "_law_told_so" sTold,
  dG "_law_all" sAll, dG "_law_meets" sMeets, dG "_law_last" sLast, dG "_law_due" sDue, dG "_law_free_so" sFree, dG "_law_planted_so" sPlanted, dG "_law_refused_so" sRefused, dG "law" sLaw]
def names : List Str := ["InvalidValue", "InvalidNumber", "is_number", "PRIMES", "is_prime", "_inverse_of", "_pivot_row", "_scaled", "_lessened", "_clear_column", "reduced", "solved", "_law_bag", "_law_draw", "_law_of", "_law_like", "_law_turned", "_law_primes", "_law_ask",
  "_law_formed", "_law_stirred", "_law_told_so", "_law_all", "_law_meets", "_law_last", "_law_due", "_law_free_so", "_law_planted_so", "_law_refused_so"]
def frees : List Str := ["isinstance", "int", "bool", "list", "tuple", "str", "dict", "range", "len", "zip", "all", "sum", "max", "ValueError"]
def facts : List He.Fa := (names.map He.Fa.glo) ++ [.glo "law"] ++ (frees.map He.Fa.free) ++ [.noat "InvalidNumber" "value", .exm "InvalidNumber" "InvalidNumber" true, .keep "InvalidNumber", .keep "InvalidValue"]
/-- the class at C: an own exception over ValueError, by own classes -/
def oexB (K : PySem.W.Frag) (C : Addr) : Bool := match K.lookup C with
  | some ⟨.type "type", _, .cls cd, sl⟩ => (match cd.mro, sl.toList with
    | .ref D :: bm, [_, _, _, _, some (.builtin n), _] => decide (D = C) && (decide (n = "ValueError.__new__") && (!cd.hasDel && (cd.hasDict && PySem.HandSPX.refsVE bm)))
    | _, _ => false)
  | _ => false
def exB (K : PySem.W.Frag) : Bool :=
  He.tupB K "PRIMES" [.int 2, .int 3, .int 5, .int 7, .int 11, .int 13, .int 17, .int 19, .int 23, .int 29, .int 31] && (oexB K (He.ga K "InvalidNumber") && (xfB K (He.ga K "InvalidNumber") &&
  (decide (PySem.W.findIn K (.ref (He.ga K "InvalidNumber")) "__setattr__" = some (some (.builtin "object.__setattr__"))) && (decide (PySem.W.typeIn K (.ref (He.ga K "InvalidNumber")) = some (.type "type")) &&
  (decide (PySem.W.findIn K (.ref (He.ga K "InvalidNumber")) "__init__" = some (some (.ref (He.ma K (He.ga K "InvalidNumber") "__init__")))) && decide (PySem.W.typeIn K (.ref (He.ma K (He.ga K "InvalidNumber") "__init__")) = some (.type "function")))))))
abbrev R : PySem.W.OpenRow := PySem.W.OpenLaw.row PySem.Challenge.rw_jartext_k16_whole_equations_solved
def tf : List He.Defn := [("_law_refused_so", none)]
abbrev hk : PySem.W.Hook := He.hookX 5 facts defs [] tf exB
def ob (s : PySem.W.SharedT) : He.AlX := He.obsX 5 facts defs [] tf exB (HandSHeadRun.getT s)
theorem ob_eq (s : PySem.W.SharedT) : ob s = hk.obs s.abs := He.obsX_eq (HandSHeadRun.getT_eq s)
theorem run (w : World) : HandSHeadRun.RunEq R (PySem.W.view R.prog [33]) hk ob 6000 names w := by
  intro os
  kernel_rfl
end K16
open PySem PySem.W PySem.Calls PyProof.Rows
theorem K16.head (hc : PySem.W.WalkO (view (OpenLaw.row PySem.Challenge.rw_jartext_k16_whole_equations_solved).prog [33]) K16.names (XL (view (OpenLaw.row PySem.Challenge.rw_jartext_k16_whole_equations_solved).prog [33]) []) K16.hk.says (OpenLaw.row PySem.Challenge.rw_jartext_k16_whole_equations_solved).toRowW
    (HandSHeadRun.topDef (OpenLaw.row PySem.Challenge.rw_jartext_k16_whole_equations_solved).prog 33) [] fun f vs => PySem.call f vs) : PySem.Challenge.rw_jartext_k16_whole_equations_solved.Holds := by
  w_on; o_law
  refine HandSHeadRun.head_any (r := OpenLaw.row PySem.Challenge.rw_jartext_k16_whole_equations_solved) (q := view (OpenLaw.row PySem.Challenge.rw_jartext_k16_whole_equations_solved).prog [33]) (H := K16.hk) (ob := K16.ob) (M := 6000) (loose := K16.names) (d := HandSHeadRun.topDef (OpenLaw.row PySem.Challenge.rw_jartext_k16_whole_equations_solved).prog 33) (kwd := []) K16.ob_eq
    (by kernel_rfl) (fun s => by kernel_rfl) K16.run (by kernel_rfl) (by kernel_rfl) (by kernel_rfl) (by rfl) (by first | assumption | decide +kernel) (by decide +kernel) ⟨rfl, rfl, rfl, rfl, rfl, by decide +kernel⟩ ?hw hc
  case hw => w_witness2

set_option Elab.async false
set_option linter.all false
set_option maxRecDepth 100000
set_option maxHeartbeats 4000000
/-! The end: the promises joined, the law's theorem. -/
namespace K16
open PySem PySem.Spec PyProof.Rows L2 LamX
theorem oexB_cls {K : PySem.W.Frag} {C : Addr} (h : oexB K C = true) : ∃ nm q N bs bm sn sub ab col dd k0 k1 k2 k3 k5, K.lookup C = some (excClassObj nm q C N bs bm true sn sub ab col dd k0 k1 k2 k3 k5 "ValueError.__new__") ∧ PySem.HandSPX.refsVE bm = true := by
  unfold oexB at h
  split at h
  · rename_i d cd sl e
    split at h
    · rename_i D bm k0 k1 k2 k3 n k5 em es
      obtain ⟨h1, h⟩ := Bool.and_eq_true_iff.mp h
      obtain ⟨h2, h⟩ := Bool.and_eq_true_iff.mp h
      obtain ⟨h3, h⟩ := Bool.and_eq_true_iff.mp h
      obtain ⟨h4, h5⟩ := Bool.and_eq_true_iff.mp h
      have e1 : D = C := of_decide_eq_true h1
      have e2 : n = "ValueError.__new__" := of_decide_eq_true h2
      obtain ⟨nm, bs, mro, N, q, hdct, sn, sub, ab, col, hdel⟩ := cd
      obtain ⟨sl⟩ := sl
      have e3 : mro = .ref D :: bm := em
      have e4 : sl = [k0, k1, k2, k3, some (.builtin n), k5] := es
      have e5 : hdel = false := by
        have h3' : (!hdel) = true := h3
        cases hdel with
        | false => rfl
        | true => cases h3'
      have e6 : hdct = true := h4
      subst e1 e2 e3 e4 e5 e6
      exact ⟨nm, q, N, bs, bm, sn, sub, ab, col, d, k0, k1, k2, k3, k5, e, h5⟩
    · cases h
  · cases h
section
variable {P : Program} {w : World} {K : PySem.W.Frag} {mg : Str → Option Value} {h : Heap}
theorem fnAt {x : Str} {st : Stmt} {ps : List Str} {f : Addr} {fd : FuncData} (hm : mg x = some (.ref f)) (F : FnP K x x st f fd) (b : ∀ (kV doc pm : Value) (an : Option Addr) (cdv ct : Value) (us : List Value), us.length = ps.length → bindArgs (PySem.W.fnOf x x (defArgs st) (defBody st) (defScope st) .none kV doc pm an cdv ct) ⟨us, []⟩ = pure (ps.zip us)) : FnAt K mg x st ps :=
  ⟨f, fd, hm, F, FunD.bindsN F b⟩
theorem txt_of (X : K.In h) (G : h.Ns mainGlobals mg) (c : He.SaysD facts defs K) : Txt mg :=
  ⟨He.free_ok X G (c.fact 30 (f := .free "isinstance") rfl), He.free_ok X G (c.fact 31 (f := .free "int") rfl), He.free_ok X G (c.fact 32 (f := .free "bool") rfl), He.free_ok X G (c.fact 33 (f := .free "list") rfl), He.free_ok X G (c.fact 34 (f := .free "tuple") rfl), He.free_ok X G (c.fact 35 (f := .free "str") rfl), He.free_ok X G (c.fact 36 (f := .free "dict") rfl), He.free_ok X G (c.fact 37 (f := .free "range") rfl), He.free_ok X G (c.fact 38 (f := .free "len") rfl), He.free_ok X G (c.fact 39 (f := .free "zip") rfl), He.free_ok X G (c.fact 40 (f := .free "all") rfl), He.free_ok X G (c.fact 41 (f := .free "sum") rfl), He.free_ok X G (c.fact 42 (f := .free "max") rfl), He.free_ok X G (c.fact 43 (f := .free "ValueError") rfl)⟩
theorem at_is_number (X : K.In h) (G : h.Ns mainGlobals mg) (c : He.SaysD facts defs K) : FnAt K mg "is_number" sNumber ["value"] := by
  obtain ⟨fd, F⟩ := c.def_ 1 (d := dG "is_number" sNumber) rfl
  exact fnAt (He.glo_ok X G (c.fact 2 (f := .glo "is_number") rfl)) F fun _ _ _ _ _ _ us hl => match us, hl with | [_], _ => rfl
theorem at_is_prime (X : K.In h) (G : h.Ns mainGlobals mg) (c : He.SaysD facts defs K) : FnAt K mg "is_prime" sPrime ["value"] := by
  obtain ⟨fd, F⟩ := c.def_ 2 (d := dG "is_prime" sPrime) rfl
  exact fnAt (He.glo_ok X G (c.fact 4 (f := .glo "is_prime") rfl)) F fun _ _ _ _ _ _ us hl => match us, hl with | [_], _ => rfl
theorem at_inverse_of (X : K.In h) (G : h.Ns mainGlobals mg) (c : He.SaysD facts defs K) : FnAt K mg "_inverse_of" sInv ["piece", "prime"] := by
  obtain ⟨fd, F⟩ := c.def_ 3 (d := dG "_inverse_of" sInv) rfl
  exact fnAt (He.glo_ok X G (c.fact 5 (f := .glo "_inverse_of") rfl)) F fun _ _ _ _ _ _ us hl => match us, hl with | [_, _], _ => rfl
theorem at_pivot_row (X : K.In h) (G : h.Ns mainGlobals mg) (c : He.SaysD facts defs K) : FnAt K mg "_pivot_row" sPivot ["table", "top", "column"] := by
  obtain ⟨fd, F⟩ := c.def_ 4 (d := dG "_pivot_row" sPivot) rfl
  exact fnAt (He.glo_ok X G (c.fact 6 (f := .glo "_pivot_row") rfl)) F fun _ _ _ _ _ _ us hl => match us, hl with | [_, _, _], _ => rfl
theorem at_scaled (X : K.In h) (G : h.Ns mainGlobals mg) (c : He.SaysD facts defs K) : FnAt K mg "_scaled" sScaled ["row", "factor", "prime"] := by
  obtain ⟨fd, F⟩ := c.def_ 5 (d := dG "_scaled" sScaled) rfl
  exact fnAt (He.glo_ok X G (c.fact 7 (f := .glo "_scaled") rfl)) F fun _ _ _ _ _ _ us hl => match us, hl with | [_, _, _], _ => rfl
theorem at_lessened (X : K.In h) (G : h.Ns mainGlobals mg) (c : He.SaysD facts defs K) : FnAt K mg "_lessened" sLess ["row", "lead", "times", "prime"] := by
  obtain ⟨fd, F⟩ := c.def_ 6 (d := dG "_lessened" sLess) rfl
  exact fnAt (He.glo_ok X G (c.fact 8 (f := .glo "_lessened") rfl)) F fun _ _ _ _ _ _ us hl => match us, hl with | [_, _, _, _], _ => rfl
theorem at_clear_column (X : K.In h) (G : h.Ns mainGlobals mg) (c : He.SaysD facts defs K) : FnAt K mg "_clear_column" sClear ["table", "top", "column", "prime"] := by
  obtain ⟨fd, F⟩ := c.def_ 7 (d := dG "_clear_column" sClear) rfl
  exact fnAt (He.glo_ok X G (c.fact 9 (f := .glo "_clear_column") rfl)) F fun _ _ _ _ _ _ us hl => match us, hl with | [_, _, _, _], _ => rfl
theorem at_reduced (X : K.In h) (G : h.Ns mainGlobals mg) (c : He.SaysD facts defs K) : FnAt K mg "reduced" sReduced ["rows", "prime"] := by
  obtain ⟨fd, F⟩ := c.def_ 8 (d := dG "reduced" sReduced) rfl
  exact fnAt (He.glo_ok X G (c.fact 10 (f := .glo "reduced") rfl)) F fun _ _ _ _ _ _ us hl => match us, hl with | [_, _], _ => rfl
theorem at_solved (X : K.In h) (G : h.Ns mainGlobals mg) (c : He.SaysD facts defs K) : FnAt K mg "solved" sSolved ["rows", "prime"] := by
  obtain ⟨fd, F⟩ := c.def_ 9 (d := dG "solved" sSolved) rfl
  exact fnAt (He.glo_ok X G (c.fact 11 (f := .glo "solved") rfl)) F fun _ _ _ _ _ _ us hl => match us, hl with | [_, _], _ => rfl
theorem at_law_bag (X : K.In h) (G : h.Ns mainGlobals mg) (c : He.SaysD facts defs K) : FnAt K mg "_law_bag" sBag ["_law_script"] := by
  obtain ⟨fd, F⟩ := c.def_ 10 (d := dG "_law_bag" sBag) rfl
  exact fnAt (He.glo_ok X G (c.fact 12 (f := .glo "_law_bag") rfl)) F fun _ _ _ _ _ _ us hl => match us, hl with | [_], _ => rfl
theorem at_law_draw (X : K.In h) (G : h.Ns mainGlobals mg) (c : He.SaysD facts defs K) : FnAt K mg "_law_draw" sDraw ["_law_bag_here", "_law_limit"] := by
  obtain ⟨fd, F⟩ := c.def_ 11 (d := dG "_law_draw" sDraw) rfl
  exact fnAt (He.glo_ok X G (c.fact 13 (f := .glo "_law_draw") rfl)) F fun _ _ _ _ _ _ us hl => match us, hl with | [_, _], _ => rfl
theorem at_law_of (X : K.In h) (G : h.Ns mainGlobals mg) (c : He.SaysD facts defs K) : FnAt K mg "_law_of" sOf ["_law_bag_here", "_law_things"] := by
  obtain ⟨fd, F⟩ := c.def_ 12 (d := dG "_law_of" sOf) rfl
  exact fnAt (He.glo_ok X G (c.fact 14 (f := .glo "_law_of") rfl)) F fun _ _ _ _ _ _ us hl => match us, hl with | [_, _], _ => rfl
theorem at_law_like (X : K.In h) (G : h.Ns mainGlobals mg) (c : He.SaysD facts defs K) : FnAt K mg "_law_like" sLike ["_law_told", "_law_due_here"] := by
  obtain ⟨fd, F⟩ := c.def_ 13 (d := dG "_law_like" sLike) rfl
  exact fnAt (He.glo_ok X G (c.fact 15 (f := .glo "_law_like") rfl)) F fun _ _ _ _ _ _ us hl => match us, hl with | [_, _], _ => rfl
theorem at_law_turned (X : K.In h) (G : h.Ns mainGlobals mg) (c : He.SaysD facts defs K) : FnAt K mg "_law_turned" sTurned ["_law_bag_here", "_law_things"] := by
  obtain ⟨fd, F⟩ := c.def_ 14 (d := dG "_law_turned" sTurned) rfl
  exact fnAt (He.glo_ok X G (c.fact 16 (f := .glo "_law_turned") rfl)) F fun _ _ _ _ _ _ us hl => match us, hl with | [_, _], _ => rfl
theorem at_law_primes (X : K.In h) (G : h.Ns mainGlobals mg) (c : He.SaysD facts defs K) : FnAt K mg "_law_primes" sPrimes [] := by
  obtain ⟨fd, F⟩ := c.def_ 15 (d := dG "_law_primes" sPrimes) rfl
  exact fnAt (He.glo_ok X G (c.fact 17 (f := .glo "_law_primes") rfl)) F fun _ _ _ _ _ _ us hl => match us, hl with | [], _ => rfl
theorem at_law_ask (X : K.In h) (G : h.Ns mainGlobals mg) (c : He.SaysD facts defs K) : FnAt K mg "_law_ask" sAsk ["_law_deed"] := by
  obtain ⟨fd, F⟩ := c.def_ 16 (d := dG "_law_ask" sAsk) rfl
  exact fnAt (He.glo_ok X G (c.fact 18 (f := .glo "_law_ask") rfl)) F fun _ _ _ _ _ _ us hl => match us, hl with | [_], _ => rfl
theorem at_law_formed (X : K.In h) (G : h.Ns mainGlobals mg) (c : He.SaysD facts defs K) : FnAt K mg "_law_formed" sFormed ["_law_bag_here", "_law_q", "_law_most", "_law_wide"] := by
  obtain ⟨fd, F⟩ := c.def_ 17 (d := dG "_law_formed" sFormed) rfl
  exact fnAt (He.glo_ok X G (c.fact 19 (f := .glo "_law_formed") rfl)) F fun _ _ _ _ _ _ us hl => match us, hl with | [_, _, _, _], _ => rfl
theorem at_law_stirred (X : K.In h) (G : h.Ns mainGlobals mg) (c : He.SaysD facts defs K) : FnAt K mg "_law_stirred" sStirred ["_law_bag_here", "_law_q", "_law_form", "_law_zeros"] := by
  obtain ⟨fd, F⟩ := c.def_ 18 (d := dG "_law_stirred" sStirred) rfl
  exact fnAt (He.glo_ok X G (c.fact 20 (f := .glo "_law_stirred") rfl)) F fun _ _ _ _ _ _ us hl => match us, hl with | [_, _, _, _], _ => rfl
theorem at_law_told_so (X : K.In h) (G : h.Ns mainGlobals mg) (c : He.SaysD facts defs K) : FnAt K mg "_law_told_so" sTold ["_law_bag_here", "_law_grid", "_law_q", "_law_due_here"] := by
  obtain ⟨fd, F⟩ := c.def_ 19 (d := dG "_law_told_so" sTold) rfl
  exact fnAt (He.glo_ok X G (c.fact 21 (f := .glo "_law_told_so") rfl)) F fun _ _ _ _ _ _ us hl => match us, hl with | [_, _, _, _], _ => rfl
theorem at_law_all (X : K.In h) (G : h.Ns mainGlobals mg) (c : He.SaysD facts defs K) : FnAt K mg "_law_all" sAll ["_law_q", "_law_many"] := by
  obtain ⟨fd, F⟩ := c.def_ 20 (d := dG "_law_all" sAll) rfl
  exact fnAt (He.glo_ok X G (c.fact 22 (f := .glo "_law_all") rfl)) F fun _ _ _ _ _ _ us hl => match us, hl with | [_, _], _ => rfl
theorem at_law_meets (X : K.In h) (G : h.Ns mainGlobals mg) (c : He.SaysD facts defs K) : FnAt K mg "_law_meets" sMeets ["_law_some", "_law_grid", "_law_q"] := by
  obtain ⟨fd, F⟩ := c.def_ 21 (d := dG "_law_meets" sMeets) rfl
  exact fnAt (He.glo_ok X G (c.fact 23 (f := .glo "_law_meets") rfl)) F fun _ _ _ _ _ _ us hl => match us, hl with | [_, _, _], _ => rfl
theorem at_law_last (X : K.In h) (G : h.Ns mainGlobals mg) (c : He.SaysD facts defs K) : FnAt K mg "_law_last" sLast ["_law_one", "_law_two"] := by
  obtain ⟨fd, F⟩ := c.def_ 22 (d := dG "_law_last" sLast) rfl
  exact fnAt (He.glo_ok X G (c.fact 24 (f := .glo "_law_last") rfl)) F fun _ _ _ _ _ _ us hl => match us, hl with | [_, _], _ => rfl
theorem at_law_due (X : K.In h) (G : h.Ns mainGlobals mg) (c : He.SaysD facts defs K) : FnAt K mg "_law_due" sDue ["_law_grid", "_law_q", "_law_many"] := by
  obtain ⟨fd, F⟩ := c.def_ 23 (d := dG "_law_due" sDue) rfl
  exact fnAt (He.glo_ok X G (c.fact 25 (f := .glo "_law_due") rfl)) F fun _ _ _ _ _ _ us hl => match us, hl with | [_, _, _], _ => rfl
theorem at_law_free_so (X : K.In h) (G : h.Ns mainGlobals mg) (c : He.SaysD facts defs K) : FnAt K mg "_law_free_so" sFree ["_law_bag_here"] := by
  obtain ⟨fd, F⟩ := c.def_ 24 (d := dG "_law_free_so" sFree) rfl
  exact fnAt (He.glo_ok X G (c.fact 26 (f := .glo "_law_free_so") rfl)) F fun _ _ _ _ _ _ us hl => match us, hl with | [_], _ => rfl
theorem at_law_planted_so (X : K.In h) (G : h.Ns mainGlobals mg) (c : He.SaysD facts defs K) : FnAt K mg "_law_planted_so" sPlanted ["_law_bag_here"] := by
  obtain ⟨fd, F⟩ := c.def_ 25 (d := dG "_law_planted_so" sPlanted) rfl
  exact fnAt (He.glo_ok X G (c.fact 27 (f := .glo "_law_planted_so") rfl)) F fun _ _ _ _ _ _ us hl => match us, hl with | [_], _ => rfl
theorem exc_of (X : K.In h) (G : h.Ns mainGlobals mg) (c : He.SaysD facts defs K) (e : exB K = true) : ExcAt K mg (He.ga K "InvalidNumber") (He.ma K (He.ga K "InvalidNumber") "__init__") ∧ PrAt K mg := by
  unfold exB at e
  obtain ⟨e1, e⟩ := Bool.and_eq_true_iff.mp e
  obtain ⟨e2, e⟩ := Bool.and_eq_true_iff.mp e
  obtain ⟨e3, e⟩ := Bool.and_eq_true_iff.mp e
  obtain ⟨e4, e⟩ := Bool.and_eq_true_iff.mp e
  obtain ⟨e5, e⟩ := Bool.and_eq_true_iff.mp e
  obtain ⟨e6, e7⟩ := Bool.and_eq_true_iff.mp e
  have xf := xfB_ok e3
  obtain ⟨fd, F⟩ := c.def_ 0 (d := dI) rfl
  refine ⟨⟨He.glo_ok X G (c.fact 1 (f := .glo "InvalidNumber") rfl), ⟨oexB_cls e2, of_decide_eq_true e4, xf.exC, of_decide_eq_true e5, He.keep_ok (c.fact 46 (f := .keep "InvalidNumber") rfl)⟩, xf, He.noat_ok (c.fact 44 (f := .noat "InvalidNumber" "value") rfl), of_decide_eq_true e6, of_decide_eq_true e7, He.exm_ok (c.fact 45 (f := .exm "InvalidNumber" "InvalidNumber" true) rfl), ⟨fd, F⟩⟩, ?_⟩
  exact ⟨_, He.glo_ok X G (c.fact 3 (f := .glo "PRIMES") rfl), fun H => He.tupB_ok e1 H⟩
theorem ref_of {base : Heap} (X : K.In base) (G : base.Ns mainGlobals mg) (c : He.SaysD facts defs K) (TB : TabB base mg (He.cT K ("_law_refused_so", none)).1 (He.cT K ("_law_refused_so", none)).2) : RefAt K mg base (He.cT K ("_law_refused_so", none)).2 := by
  obtain ⟨fd, F⟩ := c.def_ 26 (d := dG "_law_refused_so" sRefused) rfl
  have F : FnP K "_law_refused_so" "_law_refused_so" sRefused (He.fAd K ("_law_refused_so", none)) fd := F
  have b : L2.Binds K fd ["_law_bag_here"] [] := FunD.bindsN F fun _ _ _ _ _ _ us hl => match us, hl with | [_], _ => rfl
  have hk := F.kp
  obtain ⟨oc, od, dV, kV, doc, pm, an, cdv, ct, osl, rfl, lk, hcd, _, _⟩ := F.ex
  obtain ⟨c0, rfl⟩ := He.codeIn_ref hcd
  have ec : He.codeOf K ("_law_refused_so", none) = c0 := He.codeOf_eq lk rfl
  have TB2 : TabB base mg (He.codeOf K ("_law_refused_so", none)) (He.cT K ("_law_refused_so", none)).2 := TB
  rw [ec] at TB2
  exact ⟨_, c0, oc, od, dV, kV, doc, pm, an, ct, osl, He.glo_ok X G (c.fact 28 (f := .glo "_law_refused_so") rfl), hk, lk, hcd, b, TB2⟩
theorem joined {base : Heap} {f : Addr} {fd : FuncData} (X : K.In base) (G : base.Ns mainGlobals mg) (c : He.SaysD facts defs K) (e : exB K = true) (F : FnP K "law" "law" sLaw f fd)
    (TB : TabB base mg (He.cT K ("_law_refused_so", none)).1 (He.cT K ("_law_refused_so", none)).2) : FnOk P w K mg base CX0 8 f fd ["_law_script"] (spLaw K (He.cT K ("_law_refused_so", none)).2) := by
  have T := txt_of X G c
  obtain ⟨Xc, Pr⟩ := exc_of X G c e
  have GN := ok_number (P := P) (w := w) (base := base) T (at_is_number X G c)
  have GP := ok_prime T Pr (at_is_prime X G c) GN
  have GI := ok_inv (P := P) (w := w) (base := base) T (at_inverse_of X G c)
  have GV := ok_pivot (P := P) (w := w) (base := base) T (at_pivot_row X G c)
  have GSc := ok_scaled (P := P) (w := w) (base := base) (at_scaled X G c)
  have GLe := ok_less (P := P) (w := w) (base := base) T (at_lessened X G c)
  have GC := ok_clear T (at_clear_column X G c) GLe
  have GR := ok_reduced T Xc (at_reduced X G c) GP GV GI GSc GC
  have GS := ok_solved T (at_solved X G c) GR
  have GB := ok_bag (P := P) (w := w) (base := base) T (at_law_bag X G c)
  have GD := ok_draw (P := P) (w := w) (base := base) T (at_law_draw X G c)
  have GO := ok_of T (at_law_of X G c) GD
  have GLi := ok_like (P := P) (w := w) (base := base) T (at_law_like X G c) 3
  have GT := ok_turned T (at_law_turned X G c) GD
  have GPs := ok_primes (P := P) (w := w) (base := base) (at_law_primes X G c)
  have GFo := ok_formed T (at_law_formed X G c) GD GO
  have GSt := ok_stirred T (at_law_stirred X G c) GD GT
  have GTs := ok_told T (at_law_told_so X G c) GD GS GLi
  have GA := ok_all (P := P) (w := w) (base := base) T (at_law_all X G c)
  have GM := ok_meets (P := P) (w := w) (base := base) T (at_law_meets X G c)
  have GZ := ok_last (P := P) (w := w) (base := base) T (at_law_last X G c)
  have GDu := ok_due T (at_law_due X G c) GA GM GZ
  have GF := ok_free T (at_law_free_so X G c) GD GO GTs GDu
  have GPl := ok_planted T (at_law_planted_so X G c) GD GO GPs GFo GSt GTs
  have GRf := ok_refused T Xc (ref_of X G c TB) (at_law_ask X G c) GD GO GS.ok GLi GTs GDu
  exact ok_law T F GB GF GPl GRf
end
end K16
open PySem PySem.W PySem.Calls PyProof.Rows
theorem PySem.Challenge.cw_jartext_k16_whole_equations_solved_holds : PySem.Challenge.rw_jartext_k16_whole_equations_solved.Holds := by
  refine K16.head ?_
  refine LamX.walk_ofTsE (l := PySem.Challenge.rw_jartext_k16_whole_equations_solved) (n := 63) (k := 8) (x := "_law_script") (CX := fun _ => L2.CX0) rfl (by decide) (by kernel_rfl) ⟨rfl, by decide, by decide⟩ ?F (fun _ _ _ _ _ z => z)
  intro w mg fa h Y G hmg0
  obtain ⟨K, KX, c⟩ := Y
  have hmg : mg ("law" : PySem.Str) = some (.ref fa) := by
    have e : (HandSHeadRun.topDef (OpenLaw.row PySem.Challenge.rw_jartext_k16_whole_equations_solved).prog 33).name = ("law" : PySem.Str) := by kernel_rfl
    rw [← e]
    exact hmg0
  have d := c.t.d
  obtain ⟨fd, F⟩ := d.def_ 27 (d := K16.dG "law" K16.sLaw) rfl
  have e := hmg.symm.trans (He.glo_ok KX G (d.fact 29 (f := .glo "law") rfl))
  cases e
  have b := L2.FunD.bindsA (ps := ["_law_script"]) F fun _ _ _ _ _ _ us hl => match us, hl with | [_], _ => rfl
  refine ⟨K, KX, fd, [He.cT K ("_law_refused_so", none)], K16.spLaw K (He.cT K ("_law_refused_so", none)).2, fun p hp => ?_, fun p hp => ?_, fun p hp => ?_, fun s u => b s [u] rfl, fun H a ns hl _ hT hS => ⟨a, ns, rfl, hS, hl, hT _ List.mem_cons_self, fun _ => rfl⟩, fun base KB GB TB => ?_⟩
  · rw [List.mem_singleton.mp hp]
    exact c.empty _ List.mem_cons_self
  · rw [List.mem_singleton.mp hp]
    exact c.out _ List.mem_cons_self
  · rw [List.mem_singleton.mp hp]
    exact PySem.W.codeHd_of_K KX (c.hd _ List.mem_cons_self)
  · exact K16.joined KB GB d c.more F (TB _ List.mem_cons_self)
