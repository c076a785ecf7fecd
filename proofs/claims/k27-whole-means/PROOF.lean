import PyProof.Rows.All
import Wide.All
import OpenK.AllK
import Wide.FinOn
import HandS.ForMost
import HandS.Wide
import HandS.IsInst
import HandS.Style
import HandS.TupAny
import HandS.TupMul
import HandS.Strs
import HandS.Rev
import HandS.Zip
import HandS.More
import KE.GoesEnum
import KE.GoesEnumKw
import KE.GoesMore
import KE.GoesZip
import HandS.SetFor
import KE.DataEq
import HandS.EndBits
import PySem.Challenge.RW_splitclimb_k27_whole_means_and_complemen
set_option Elab.async false
set_option linter.all false
set_option maxRecDepth 100000
set_option maxHeartbeats 4100000
namespace M
/-- a power of two, as a name -/
def P2 (k : Nat) : Int := 2 ^ k
theorem P2_pos (k : Nat) : 0 < P2 k := Int.pow_pos (by decide)
theorem P2_add (a b : Nat) : P2 (a + b) = P2 a * P2 b := Int.pow_add 2 a b
theorem P2_le {a b : Nat} (h : a ≤ b) : P2 a ≤ P2 b := by
  obtain ⟨c, rfl⟩ : ∃ c, b = a + c := ⟨b - a, by omega⟩
  rw [P2_add]
  have h1 := P2_pos a
  have h2 := P2_pos c
  have h3 : P2 a * 1 ≤ P2 a * P2 c := Int.mul_le_mul_of_nonneg_left (by omega) (by omega)
  simpa using h3
theorem P2_nat (k : Nat) : P2 k = ((2 ^ k : Nat) : Int) := by
  unfold P2
  rw [Int.natCast_pow]
  rfl
theorem P2_abs {i : Int} {a : Nat} (h0 : 0 ≤ i) (h : i < P2 a) : i.natAbs < 2 ^ a := by
  rw [P2_nat] at h
  omega
theorem P2_mul {i j : Int} {a b : Nat} (h0 : 0 ≤ i) (h : i < P2 a) (g0 : 0 ≤ j) (g : j < P2 b) : i * j < P2 (a + b) := by
  rw [P2_add]
  rcases Int.lt_or_eq_of_le g0 with q | q
  · exact Int.lt_of_le_of_lt (Int.mul_le_mul_of_nonneg_right (Int.le_of_lt h) g0) (Int.mul_lt_mul_of_pos_left g (P2_pos a))
  · rw [← q, Int.mul_zero]
    exact Int.mul_pos (P2_pos a) (P2_pos b)
/-- the product of the first d entries -/
def pd (ns : List Int) : Nat → Int
  | 0 => 1
  | d + 1 => pd ns d * ns.getD d 1
def sizes (ns : List Int) : List Int := (List.range (ns.length + 1)).map (pd ns)
structure Sched (ns : List Int) : Prop where
  len : ns.length ≤ 200
  two : ∀ n ∈ ns, 2 ≤ n
  big : pd ns ns.length < P2 700
theorem getD_two {ns : List Int} (h : ∀ n ∈ ns, 2 ≤ n) (d : Nat) : 1 ≤ ns.getD d 1 := by
  rw [List.getD_eq_getElem?_getD]
  cases e : ns[d]? with
  | none => exact Int.le_refl _
  | some x =>
    have := h x (List.mem_of_getElem? e)
    show 1 ≤ x
    omega
theorem pd_pos {ns : List Int} (h : ∀ n ∈ ns, 2 ≤ n) : ∀ d, 1 ≤ pd ns d
  | 0 => Int.le_refl _
  | d + 1 => by
    have h1 := pd_pos h d
    have h2 := getD_two h d
    show 1 ≤ pd ns d * ns.getD d 1
    have h3 : 1 * 1 ≤ pd ns d * ns.getD d 1 := Int.mul_le_mul h1 h2 (by omega) (by omega)
    simpa using h3
theorem pd_step {ns : List Int} (h : ∀ n ∈ ns, 2 ≤ n) (d : Nat) : pd ns d ≤ pd ns (d + 1) := by
  have h1 := pd_pos h d
  have h2 := getD_two h d
  show pd ns d ≤ pd ns d * ns.getD d 1
  have h3 : pd ns d * 1 ≤ pd ns d * ns.getD d 1 := Int.mul_le_mul_of_nonneg_left h2 (by omega)
  simpa using h3
theorem pd_mono {ns : List Int} (h : ∀ n ∈ ns, 2 ≤ n) {d e : Nat} (hde : d ≤ e) : pd ns d ≤ pd ns e := by
  induction e with
  | zero =>
    have : d = 0 := by omega
    rw [this]
    exact Int.le_refl _
  | succ e ih =>
    by_cases q : d = e + 1
    · rw [q]
      exact Int.le_refl _
    · exact Int.le_trans (ih (by omega)) (pd_step h e)
theorem sizes_len (ns : List Int) : (sizes ns).length = ns.length + 1 := by simp [sizes]
theorem sizes_get {ns : List Int} {d : Nat} (h : d ≤ ns.length) : (sizes ns)[d]? = some (pd ns d) := by
  unfold sizes
  rw [List.getElem?_map, List.getElem?_range (by omega)]
  rfl
theorem range_snoc {α : Type} (f : Nat → α) (i : Nat) : (List.range (i + 1)).map f ++ [f (i + 1)] = (List.range (i + 2)).map f := by
  rw [show i + 2 = (i + 1) + 1 from rfl, List.range_succ (n := i + 1), List.map_append]
  rfl
theorem getD_of {ns : List Int} {d : Nat} {x : Int} (h : ns[d]? = some x) (z : Int) : ns.getD d z = x := by
  rw [List.getD_eq_getElem?_getD, h]
  rfl
theorem pd_succ {ns : List Int} {d : Nat} {x : Int} (h : ns[d]? = some x) : pd ns (d + 1) = pd ns d * x := by
  show pd ns d * ns.getD d 1 = _
  rw [getD_of h]
/-- the numbers of the beginnings of a word -/
def wn (ns cs : List Int) : Nat → Int
  | 0 => 0
  | i + 1 => wn ns cs i * ns.getD i 0 + cs.getD i 0
def nums (ns cs : List Int) : List Int := (List.range (min ns.length cs.length + 1)).map (wn ns cs)
/-- the word of a length with a number -/
def word (ns : List Int) : Nat → Int → List Int
  | 0, _ => []
  | l + 1, z => word ns l (z / ns.getD l 1) ++ [z % ns.getD l 1]
theorem word_len (ns : List Int) : ∀ l z, (word ns l z).length = l
  | 0, _ => rfl
  | l + 1, z => by
    show (word ns l (z / ns.getD l 1) ++ [z % ns.getD l 1]).length = l + 1
    rw [List.length_append, word_len ns l]
    rfl
/-- choices within their rounds -/
def Choices (ns cs : List Int) : Prop := cs.length ≤ ns.length ∧ ∀ (i : Nat) (c n : Int), cs[i]? = some c → ns[i]? = some n → 0 ≤ c ∧ c < n
/-- rows of a plan -/
structure Row where
  d : Nat
  f : Int
  c : Int
structure RowOk (ns : List Int) (r : Row) : Prop where
  d1 : 1 ≤ r.d
  dn : r.d ≤ ns.length
  f0 : 0 ≤ r.f
  f1 : r.f < pd ns r.d
  c1 : 1 ≤ r.c
  cb : r.c < P2 710
def Plan (ns : List Int) (rs : List Row) : Prop := rs.length ≤ 20 ∧ ∀ r ∈ rs, RowOk ns r
end M
namespace M
theorem Sched.pos {ns : List Int} (h : Sched ns) (d : Nat) : 1 ≤ pd ns d := pd_pos h.two d
theorem Sched.lt {ns : List Int} (h : Sched ns) {d : Nat} (hd : d ≤ ns.length) : pd ns d < P2 700 := Int.lt_of_le_of_lt (pd_mono h.two hd) h.big
theorem Sched.entry {ns : List Int} (h : Sched ns) {i : Nat} {x : Int} (e : ns[i]? = some x) : 2 ≤ x ∧ x < P2 700 := by
  have h2 := h.two x (List.mem_of_getElem? e)
  refine ⟨h2, ?_⟩
  have hi : i < ns.length := (List.getElem?_eq_some_iff.mp e).1
  have h3 := h.lt (d := i + 1) hi
  rw [pd_succ e] at h3
  have h4 := h.pos i
  have h5 : 1 * x ≤ pd ns i * x := Int.mul_le_mul_of_nonneg_right h4 (by omega)
  rw [Int.one_mul] at h5
  omega
end M
namespace M
structure Counts (cs : List Int) : Prop where
  len : cs.length ≤ 200
  nn : ∀ c ∈ cs, 0 ≤ c ∧ c < P2 800
def scaled (ns cs : List Int) : Int := ((List.range cs.length).map fun i => cs.getD i 0 * (pd ns ns.length / pd ns (i + 1))).sum
def rowT (ns : List Int) (r : Row) (x : Int) : Int := r.c / pd ns r.d + if (x - r.f) % pd ns r.d < r.c % pd ns r.d then 1 else 0
def covT (ns cs : List Int) (r : Row) : Int := if r.d ≤ cs.length then rowT ns r (wn ns cs r.d) else 0
def cov (ns : List Int) (rs : List Row) (cs : List Int) : Int := (rs.map (covT ns cs)).sum
def unit (ns : List Int) (r : Row) : Int := pd ns ns.length / pd ns r.d
def lvl (ns : List Int) (rs : List Row) (p : Int) : Int := (rs.map fun r => rowT ns r (p / unit ns r)).sum
def endp (ns : List Int) (r : Row) : Int := (r.f + r.c) % pd ns r.d
structure IsPlaces (ns : List Int) (rs : List Row) (ps : List Int) : Prop where
  sorted : ps.Pairwise (· < ·)
  mem : ∀ p, p ∈ ps ↔ p = 0 ∨ ∃ r ∈ rs, p = r.f * unit ns r ∨ p = endp ns r * unit ns r
def amount (rs : List Row) (d : Nat) : Int := ((rs.filter fun r => decide (r.d = d)).map Row.c).sum
def amounts (ns : List Int) (rs : List Row) : List Int := (List.range ns.length).map fun i => amount rs (i + 1)
/-- the sum of the beginnings -/
theorem sum_snoc (xs : List Int) (x : Int) : (xs ++ [x]).sum = xs.sum + x := by simp
theorem take_map_sum {α : Type} (f : α → Int) {xs : List α} {i : Nat} {x : α} (h : xs[i]? = some x) : ((xs.take (i + 1)).map f).sum = ((xs.take i).map f).sum + f x := by
  rw [List.take_add_one, h, List.map_append]
  simp
theorem pd_dvd {ns : List Int} (h : ∀ n ∈ ns, 2 ≤ n) {d e : Nat} (hde : d ≤ e) : pd ns d ∣ pd ns e := by
  induction e with
  | zero =>
    have : d = 0 := by omega
    rw [this]
    exact Int.dvd_refl _
  | succ e ih =>
    by_cases q : d = e + 1
    · rw [q]
      exact Int.dvd_refl _
    · exact Int.dvd_trans (ih (by omega)) ⟨_, rfl⟩
theorem unit_mul {ns : List Int} (h : ∀ n ∈ ns, 2 ≤ n) {d : Nat} (hd : d ≤ ns.length) : pd ns ns.length / pd ns d * pd ns d = pd ns ns.length := Int.ediv_mul_cancel (pd_dvd h hd)
theorem unit_pos {ns : List Int} (h : ∀ n ∈ ns, 2 ≤ n) {d : Nat} (hd : d ≤ ns.length) : 0 < pd ns ns.length / pd ns d := by
  have h1 := pd_pos h ns.length
  have h2 := pd_pos h d
  have h3 := pd_mono h hd
  exact Int.ediv_pos_of_pos_of_dvd (by omega) (by omega) (pd_dvd h hd)
theorem unit_le {ns : List Int} (h : ∀ n ∈ ns, 2 ≤ n) {d : Nat} : pd ns ns.length / pd ns d ≤ pd ns ns.length := by
  have h1 := pd_pos h ns.length
  exact Int.ediv_le_self _ (by omega)
theorem Sched.ulpos {ns : List Int} (h : Sched ns) {d : Nat} (hd : d ≤ ns.length) : 0 < pd ns ns.length / pd ns d := unit_pos h.two hd
theorem Sched.ulow {ns : List Int} (h : Sched ns) {d : Nat} : pd ns ns.length / pd ns d < P2 700 := Int.lt_of_le_of_lt (unit_le h.two) h.big
end M
namespace M
theorem wn_bound {ns cs : List Int} (h : ∀ n ∈ ns, 2 ≤ n) (hc : Choices ns cs) : ∀ i, i ≤ cs.length → 0 ≤ wn ns cs i ∧ wn ns cs i < pd ns i
  | 0, _ => ⟨Int.le_refl _, by show (0 : Int) < 1; decide⟩
  | i + 1, hi => by
    have ih := wn_bound h hc i (by omega)
    have hl : i < ns.length := by
      have := hc.1
      omega
    have e1 : cs[i]? = some cs[i] := List.getElem?_eq_getElem (by omega)
    have e2 : ns[i]? = some ns[i] := List.getElem?_eq_getElem hl
    have b := hc.2 i _ _ e1 e2
    have n2 := h _ (List.mem_of_getElem? e2)
    show 0 ≤ wn ns cs i * ns.getD i 0 + cs.getD i 0 ∧ wn ns cs i * ns.getD i 0 + cs.getD i 0 < pd ns (i + 1)
    rw [getD_of e1, getD_of e2, pd_succ e2]
    have m1 : 0 ≤ wn ns cs i * ns[i] := Int.mul_nonneg ih.1 (by omega)
    have m2 : (wn ns cs i + 1) * ns[i] ≤ pd ns i * ns[i] := Int.mul_le_mul_of_nonneg_right (by omega) (by omega)
    rw [Int.add_mul, Int.one_mul] at m2
    omega
theorem nums_len (ns cs : List Int) : (nums ns cs).length = min ns.length cs.length + 1 := by simp [nums]
theorem nums_get {ns cs : List Int} {d : Nat} (h : d ≤ cs.length) (h2 : cs.length ≤ ns.length) : (nums ns cs)[d]? = some (wn ns cs d) := by
  unfold nums
  rw [List.getElem?_map, List.getElem?_range (by omega)]
  rfl
theorem nums_eq {ns cs : List Int} (h2 : cs.length ≤ ns.length) : nums ns cs = (List.range (cs.length + 1)).map (wn ns cs) := by
  unfold nums
  rw [Nat.min_eq_right h2]
theorem sum_nonneg {xs : List Int} (h : ∀ x ∈ xs, 0 ≤ x) : 0 ≤ xs.sum := by
  induction xs with
  | nil => exact Int.le_refl 0
  | cons a r ih =>
    rw [List.sum_cons]
    have := h a List.mem_cons_self
    have := ih fun x hx => h x (List.mem_cons_of_mem _ hx)
    omega
theorem sum_le {xs : List Int} {b : Int} (h : ∀ x ∈ xs, x ≤ b) : xs.sum ≤ (xs.length : Int) * b := by
  induction xs with
  | nil => simp
  | cons a r ih =>
    rw [List.sum_cons, List.length_cons]
    have := h a List.mem_cons_self
    have := ih fun x hx => h x (List.mem_cons_of_mem _ hx)
    have e : (((r.length + 1 : Nat) : Int)) * b = (r.length : Int) * b + b := by
      rw [Int.natCast_add, Int.add_mul]
      simp
    omega
theorem P2_20 : (20 : Int) * P2 710 < P2 800 := by decide +kernel
theorem amount_bound {ns : List Int} {rs : List Row} (h : Plan ns rs) (d : Nat) : 0 ≤ amount rs d ∧ amount rs d < P2 800 := by
  have k : ∀ x ∈ (rs.filter fun r => decide (r.d = d)).map Row.c, 0 ≤ x ∧ x ≤ P2 710 := fun x hx => by
    obtain ⟨r, hr, rfl⟩ := List.mem_map.mp hx
    have o := h.2 r (List.mem_filter.mp hr).1
    have := o.c1
    have := o.cb
    omega
  refine ⟨sum_nonneg fun x hx => (k x hx).1, ?_⟩
  have b := sum_le fun x hx => (k x hx).2
  rw [List.length_map] at b
  have l : (rs.filter fun r => decide (r.d = d)).length ≤ rs.length := List.length_filter_le ..
  have l2 := h.1
  have m : (((rs.filter fun r => decide (r.d = d)).length : Nat) : Int) * P2 710 ≤ 20 * P2 710 := Int.mul_le_mul_of_nonneg_right (by omega) (Int.le_of_lt (P2_pos _))
  have q := P2_20
  unfold amount
  omega
theorem amounts_len (ns : List Int) (rs : List Row) : (amounts ns rs).length = ns.length := by simp [amounts]
theorem amounts_counts {ns : List Int} {rs : List Row} (hs : Sched ns) (h : Plan ns rs) : Counts (amounts ns rs) where
  len := by
    rw [amounts_len]
    exact hs.len
  nn := fun c hc => by
    obtain ⟨i, _, rfl⟩ := List.mem_map.mp hc
    exact amount_bound h (i + 1)
theorem amount_take {rs : List Row} {i : Nat} {r : Row} (h : rs[i]? = some r) (d : Nat) : amount (rs.take (i + 1)) d = amount (rs.take i) d + if r.d = d then r.c else 0 := by
  unfold amount
  rw [List.take_add_one, h, List.filter_append, List.map_append, List.sum_append]
  by_cases q : r.d = d
  · rw [if_pos q]
    simp [q]
  · rw [if_neg q]
    simp [q]
theorem amounts_take {ns : List Int} {rs : List Row} {i : Nat} {r : Row} (h : rs[i]? = some r) (h1 : 1 ≤ r.d) (h2 : r.d ≤ ns.length) : amounts ns (rs.take (i + 1)) = (amounts ns (rs.take i)).set (r.d - 1) ((amount (rs.take i) r.d) + r.c) := by
  refine List.ext_getElem? fun j => ?_
  by_cases e : r.d - 1 = j
  · subst e
    rw [List.getElem?_set_self (by rw [amounts_len]; omega)]
    unfold amounts
    rw [List.getElem?_map, List.getElem?_range (by omega)]
    show some (amount (rs.take (i + 1)) (r.d - 1 + 1)) = some _
    rw [show r.d - 1 + 1 = r.d by omega, amount_take h, if_pos rfl]
  · rw [List.getElem?_set_ne e]
    unfold amounts
    rw [List.getElem?_map, List.getElem?_map]
    cases q : (List.range ns.length)[j]? with
    | none => rfl
    | some k =>
      have hk : k = j := by
        have := List.getElem?_eq_some_iff.mp q
        obtain ⟨a, b⟩ := this
        rw [List.getElem_range] at b
        exact b.symm
      subst hk
      show some (amount (rs.take (i + 1)) (k + 1)) = some (amount (rs.take i) (k + 1))
      rw [amount_take h, if_neg (by omega), Int.add_zero]
theorem amounts_nil (ns : List Int) : amounts ns [] = List.replicate ns.length 0 := by
  unfold amounts amount
  rw [List.eq_replicate_iff]
  refine ⟨by simp, fun b hb => ?_⟩
  obtain ⟨i, _, rfl⟩ := List.mem_map.mp hb
  rfl
/-- the greatest common divisor as the def has it -/
def gcd (a b : Int) : Int := ((Nat.gcd a.toNat b.toNat : Nat) : Int)
theorem gcd_pos {a b : Int} (h : 0 < b) : 0 < gcd a b ∧ gcd a b ≤ b := by
  unfold gcd
  have h1 : 0 < b.toNat := by omega
  have h2 := Nat.gcd_pos_of_pos_right a.toNat h1
  have h3 := Nat.le_of_dvd h1 (Nat.gcd_dvd_right a.toNat b.toNat)
  omega
theorem gcd_dvd {a b : Int} (h : 0 ≤ a) (h2 : 0 ≤ b) : gcd a b ∣ a ∧ gcd a b ∣ b := by
  unfold gcd
  have h3 := Int.natCast_dvd_natCast.mpr (Nat.gcd_dvd_left a.toNat b.toNat)
  have h4 := Int.natCast_dvd_natCast.mpr (Nat.gcd_dvd_right a.toNat b.toNat)
  rw [Int.toNat_of_nonneg h] at h3
  rw [Int.toNat_of_nonneg h2] at h4
  exact ⟨h3, h4⟩
theorem scaled_nonneg {ns cs : List Int} (h : ∀ n ∈ ns, 2 ≤ n) (hc : ∀ c ∈ cs, 0 ≤ c) : 0 ≤ scaled ns cs := by
  refine sum_nonneg fun x hx => ?_
  obtain ⟨i, _, rfl⟩ := List.mem_map.mp hx
  refine Int.mul_nonneg ?_ ?_
  · rw [List.getD_eq_getElem?_getD]
    cases e : cs[i]? with
    | none => exact Int.le_refl 0
    | some z => exact hc z (List.mem_of_getElem? e)
  · have h1 := pd_pos h ns.length
    have h2 := pd_pos h (i + 1)
    exact Int.ediv_nonneg (by omega) (by omega)
end M
namespace M
theorem gcd_turn {x y : Int} (hx : 0 ≤ x) (hy : 0 < y) : gcd y (x % y) = gcd x y := by
  unfold gcd
  obtain ⟨n, rfl⟩ := Int.eq_ofNat_of_zero_le hx
  obtain ⟨k, rfl⟩ := Int.eq_ofNat_of_zero_le (Int.le_of_lt hy)
  rw [← Int.natCast_emod, Int.toNat_natCast, Int.toNat_natCast, Int.toNat_natCast, Nat.gcd_comm n k, Nat.gcd_rec k n, Nat.gcd_comm]
theorem gcd_zero {x : Int} (hx : 0 ≤ x) : gcd x 0 = x := by
  unfold gcd
  rw [Int.toNat_zero, Nat.gcd_zero_right, Int.toNat_of_nonneg hx]
end M
namespace M
/-- 1 if true -/
def ind (p : Prop) [Decidable p] : Int := if p then 1 else 0
/-- what the def's changes hold at k for a row -/
def chg (ns : List Int) (r : Row) (k : Int) : Int :=
  ind (k = r.f * unit ns r) - ind (k = endp ns r * unit ns r) + (if k = 0 then ind (pd ns r.d ≤ r.f + r.c % pd ns r.d) else 0)
def chgs (ns : List Int) (rs : List Row) (k : Int) : Int := (rs.map fun r => chg ns r k).sum
def turns (ns : List Int) (rs : List Row) : Int := (rs.map fun r => r.c / pd ns r.d).sum
/-- running sums -/
def run (f : Int → Int) : Int → List Int → List (Int × Int)
  | _, [] => []
  | l, p :: r => (p, l + f p) :: run f (l + f p) r
theorem endp_eq {ns : List Int} {r : Row} : endp ns r = (r.f + r.c % pd ns r.d) % pd ns r.d := by
  unfold endp
  rw [Int.add_emod_emod]
/-- the row at place x: a start, an end, a wrap -/
theorem row_steps {q f m x : Int} (hq : 0 < q) (hf : 0 ≤ f) (hf2 : f < q) (hm : 0 ≤ m) (hm2 : m < q) (hx : 0 ≤ x) (hx2 : x < q) :
    (if (x - f) % q < m then (1 : Int) else 0) = ind (f ≤ x) - ind ((f + m) % q ≤ x) + ind (q ≤ f + m) := by
  unfold ind
  have e1 : (x - f) % q = if f ≤ x then x - f else x - f + q := by
    split
    · exact Int.emod_eq_of_lt (by omega) (by omega)
    · rw [← Int.add_emod_right]
      exact Int.emod_eq_of_lt (by omega) (by omega)
  have e2 : (f + m) % q = if f + m < q then f + m else f + m - q := by
    split
    · exact Int.emod_eq_of_lt (by omega) (by omega)
    · rw [← Int.sub_emod_right]
      exact Int.emod_eq_of_lt (by omega) (by omega)
  rw [e1, e2]
  by_cases h1 : f ≤ x <;> by_cases h2 : f + m < q
  · rw [if_pos h1, if_pos h2, if_pos h1, if_neg (show ¬ q ≤ f + m by omega)]
    by_cases h3 : f + m ≤ x
    · rw [if_pos h3, if_neg (by omega)]
      rfl
    · rw [if_neg h3, if_pos (by omega)]
      rfl
  · rw [if_pos h1, if_neg h2, if_pos h1, if_pos (show q ≤ f + m by omega), if_pos (show f + m - q ≤ x by omega), if_pos (show x - f < m by omega)]
    rfl
  · rw [if_neg h1, if_pos h2, if_neg h1, if_neg (show ¬ q ≤ f + m by omega), if_neg (show ¬ f + m ≤ x by omega), if_neg (show ¬ x - f + q < m by omega)]
    rfl
  · rw [if_neg h1, if_neg h2, if_neg h1, if_pos (show q ≤ f + m by omega)]
    by_cases h3 : f + m - q ≤ x
    · rw [if_pos h3, if_neg (show ¬ x - f + q < m by omega)]
      rfl
    · rw [if_neg h3, if_pos (show x - f + q < m by omega)]
      rfl
/-- the sum of a mark over places in order -/
theorem sum_mark {ps : List Int} (hs : ps.Pairwise (· < ·)) {a : Int} (g : Int) : (ps.map fun k => if k = a then g else 0).sum = if a ∈ ps then g else 0 := by
  induction ps with
  | nil => rfl
  | cons p r ih =>
    obtain ⟨h1, h2⟩ := List.pairwise_cons.mp hs
    rw [List.map_cons, List.sum_cons, ih h2]
    by_cases e : p = a
    · subst e
      have n : p ∉ r := fun z => by
        have := h1 p z
        omega
      rw [if_pos rfl, if_neg n, if_pos List.mem_cons_self, Int.add_zero]
    · have k : a ∈ p :: r ↔ a ∈ r := by
        rw [List.mem_cons]
        exact ⟨fun z => z.elim (fun w => absurd w.symm e) id, .inr⟩
      rw [if_neg e, Int.zero_add]
      simp only [k]
theorem sum_map_add {α : Type} (f g : α → Int) (xs : List α) : (xs.map fun x => f x + g x).sum = (xs.map f).sum + (xs.map g).sum := by
  induction xs with
  | nil => rfl
  | cons a r ih =>
    simp only [List.map_cons, List.sum_cons, ih]
    omega
theorem sum_map_sub {α : Type} (f g : α → Int) (xs : List α) : (xs.map fun x => f x - g x).sum = (xs.map f).sum - (xs.map g).sum := by
  induction xs with
  | nil => rfl
  | cons a r ih =>
    simp only [List.map_cons, List.sum_cons, ih]
    omega
theorem sum_map_congr {α : Type} {f g : α → Int} {xs : List α} (h : ∀ x ∈ xs, f x = g x) : (xs.map f).sum = (xs.map g).sum := by
  rw [List.map_congr_left h]
theorem sum_swap {α β : Type} (f : α → β → Int) (xs : List α) (ys : List β) : (xs.map fun x => (ys.map fun y => f x y).sum).sum = (ys.map fun y => (xs.map fun x => f x y).sum).sum := by
  induction xs with
  | nil =>
    simp only [List.map_nil, List.sum_nil]
    induction ys with
    | nil => rfl
    | cons y s ih =>
      rw [List.map_cons, List.sum_cons, ← ih]
      rfl
  | cons a r ih =>
    simp only [List.map_cons, List.sum_cons]
    rw [ih, sum_map_add]
theorem div_le_iff {p u a : Int} (hu : 0 < u) : a ≤ p / u ↔ a * u ≤ p := Int.le_ediv_iff_mul_le hu
theorem Sched.unit_q {ns : List Int} (h : Sched ns) {d : Nat} (hd : d ≤ ns.length) : pd ns ns.length / pd ns d * pd ns d = pd ns ns.length := unit_mul h.two hd
theorem place_div {ns : List Int} (h : Sched ns) {d : Nat} (hd : d ≤ ns.length) {p : Int} (h0 : 0 ≤ p) (h1 : p < pd ns ns.length) : 0 ≤ p / (pd ns ns.length / pd ns d) ∧ p / (pd ns ns.length / pd ns d) < pd ns d := by
  have u0 := h.ulpos hd
  refine ⟨Int.ediv_nonneg h0 (Int.le_of_lt u0), ?_⟩
  rw [Int.ediv_lt_iff_lt_mul u0, Int.mul_comm, h.unit_q hd]
  exact h1
/-- sum over the places up to p -/
theorem upto_row {ns : List Int} (h : Sched ns) {r : Row} (o : RowOk ns r) {ps : List Int} (hs : ps.Pairwise (· < ·)) {p : Int} (hp0 : 0 ≤ p) (hp1 : p < pd ns ns.length)
    (m0 : 0 ∈ ps) (mf : r.f * unit ns r ∈ ps) (me : endp ns r * unit ns r ∈ ps) :
    rowT ns r (p / unit ns r) = r.c / pd ns r.d + ((ps.filter fun k => decide (k ≤ p)).map fun k => chg ns r k).sum := by
  have u0 : 0 < unit ns r := h.ulpos o.dn
  have q0 := h.pos r.d
  have x : 0 ≤ p / unit ns r ∧ p / unit ns r < pd ns r.d := place_div h o.dn hp0 hp1
  have hf := o.f0
  have hf1 := o.f1
  have m1 := Int.emod_nonneg r.c (show pd ns r.d ≠ 0 by omega)
  have m2 := Int.emod_lt_of_pos r.c (show 0 < pd ns r.d by omega)
  unfold rowT
  rw [row_steps (by omega) o.f0 o.f1 m1 m2 x.1 x.2, ← endp_eq]
  have hsf : (ps.filter fun k => decide (k ≤ p)).Pairwise (· < ·) := hs.filter _
  unfold chg
  rw [sum_map_add, sum_map_sub]
  have k1 : ∀ a : Int, ((ps.filter fun k => decide (k ≤ p)).map fun k => ind (k = a)).sum = if a ∈ ps.filter fun k => decide (k ≤ p) then 1 else 0 := fun a => sum_mark hsf 1
  rw [k1, k1, sum_mark hsf]
  have k2 : ∀ a : Int, a ∈ ps → ((a ∈ ps.filter fun k => decide (k ≤ p)) ↔ a ≤ p) := fun a ha => by
    rw [List.mem_filter]
    exact ⟨fun z => of_decide_eq_true z.2, fun z => ⟨ha, decide_eq_true z⟩⟩
  have c1 : ind (r.f ≤ p / unit ns r) = if r.f * unit ns r ∈ ps.filter (fun k => decide (k ≤ p)) then 1 else 0 := by
    unfold ind
    simp only [k2 _ mf, div_le_iff u0]
  have c2 : ind (endp ns r ≤ p / unit ns r) = if endp ns r * unit ns r ∈ ps.filter (fun k => decide (k ≤ p)) then 1 else 0 := by
    unfold ind
    simp only [k2 _ me, div_le_iff u0]
  show _ + (ind (r.f ≤ p / unit ns r) - ind (endp ns r ≤ p / unit ns r) + _) = _
  rw [c1, c2, if_pos ((k2 0 m0).mpr hp0)]
theorem upto_all {ns : List Int} (h : Sched ns) {rs : List Row} (ho : ∀ r ∈ rs, RowOk ns r) {ps : List Int} (hs : IsPlaces ns rs ps) {p : Int} (hp0 : 0 ≤ p) (hp1 : p < pd ns ns.length) :
    lvl ns rs p = turns ns rs + ((ps.filter fun k => decide (k ≤ p)).map (chgs ns rs)).sum := by
  unfold lvl turns chgs
  rw [sum_swap, ← sum_map_add]
  refine sum_map_congr fun r hr => ?_
  exact upto_row h (ho r hr) hs.sorted hp0 hp1 ((hs.mem 0).mpr (.inl rfl)) ((hs.mem _).mpr (.inr ⟨r, hr, .inl rfl⟩)) ((hs.mem _).mpr (.inr ⟨r, hr, .inr rfl⟩))
/-- places lie within the whole -/
theorem place_in {ns : List Int} (h : Sched ns) {rs : List Row} (ho : ∀ r ∈ rs, RowOk ns r) {ps : List Int} (hs : IsPlaces ns rs ps) {p : Int} (hp : p ∈ ps) : 0 ≤ p ∧ p < pd ns ns.length := by
  rcases (hs.mem p).mp hp with e | ⟨r, hr, e⟩
  · have := h.pos ns.length
    omega
  · have o := ho r hr
    have u0 : 0 < unit ns r := h.ulpos o.dn
    have uq : unit ns r * pd ns r.d = pd ns ns.length := h.unit_q o.dn
    have q0 := h.pos r.d
    have k : ∀ a : Int, 0 ≤ a → a < pd ns r.d → 0 ≤ a * unit ns r ∧ a * unit ns r < pd ns ns.length := fun a h0 h1 => by
      refine ⟨Int.mul_nonneg h0 (Int.le_of_lt u0), ?_⟩
      rw [← uq, Int.mul_comm (unit ns r)]
      exact Int.mul_lt_mul_of_pos_right h1 u0
    rcases e with e | e
    · rw [e]
      exact k _ o.f0 o.f1
    · rw [e]
      exact k _ (Int.emod_nonneg _ (by omega)) (Int.emod_lt_of_pos _ (by omega))
theorem run_eq (f : Int → Int) : ∀ (ps : List Int) (l : Int) (g : Int → Int), (∀ (i : Nat) (p : Int), ps[i]? = some p → g p = l + ((ps.take (i + 1)).map f).sum) → run f l ps = ps.map fun p => (p, g p)
  | [], _, _, _ => rfl
  | p :: r, l, g, h => by
    have h0 := h 0 p rfl
    simp at h0
    show (p, l + f p) :: run f (l + f p) r = (p, g p) :: r.map fun p => (p, g p)
    rw [h0, run_eq f r (l + f p) g fun i q hq => ?_]
    have := h (i + 1) q hq
    rw [this, List.take_succ_cons, List.map_cons, List.sum_cons]
    omega
theorem filter_upto {ps : List Int} (hs : ps.Pairwise (· < ·)) {i : Nat} {p : Int} (h : ps[i]? = some p) : ps.filter (fun k => decide (k ≤ p)) = ps.take (i + 1) := by
  induction ps generalizing i with
  | nil => cases h
  | cons a r ih =>
    obtain ⟨h1, h2⟩ := List.pairwise_cons.mp hs
    cases i with
    | zero =>
      have e : a = p := Option.some.inj h
      subst e
      rw [List.filter_cons_of_pos (by simp)]
      have : r.filter (fun k => decide (k ≤ a)) = [] := List.filter_eq_nil_iff.mpr fun b hb => by
        have := h1 b hb
        simp only [decide_eq_true_eq]
        omega
      rw [this]
      rfl
    | succ i =>
      have hr : r[i]? = some p := by simpa using h
      have := h1 p (List.mem_of_getElem? hr)
      rw [List.filter_cons_of_pos (by simp only [decide_eq_true_eq]; omega), ih h2 hr]
      rfl
/-- the def's running sums are the levels -/
theorem run_levels {ns : List Int} (h : Sched ns) {rs : List Row} (ho : ∀ r ∈ rs, RowOk ns r) {ps : List Int} (hs : IsPlaces ns rs ps) : run (chgs ns rs) (turns ns rs) ps = ps.map fun p => (p, lvl ns rs p) := by
  refine run_eq _ ps _ _ fun i p hp => ?_
  have b := place_in h ho hs (List.mem_of_getElem? hp)
  rw [upto_all h ho hs b.1 b.2, filter_upto hs.sorted hp]
end M
namespace M
def IsP (ns : List Int) (rs : List Row) (p : Int) : Prop := p = 0 ∨ ∃ r ∈ rs, p = r.f * unit ns r ∨ p = endp ns r * unit ns r
/-- p is the first place with level v -/
structure First (ns : List Int) (rs : List Row) (v p : Int) : Prop where
  isP : IsP ns rs p
  lv : lvl ns rs p = v
  first : ∀ p', IsP ns rs p' → lvl ns rs p' = v → p ≤ p'
structure Ext (ns : List Int) (rs : List Row) (lo plo hi phi : Int) : Prop where
  atLo : First ns rs lo plo
  atHi : First ns rs hi phi
  least : ∀ p, IsP ns rs p → lo ≤ lvl ns rs p
  most : ∀ p, IsP ns rs p → lvl ns rs p ≤ hi
/-- outside the rounded mean -/
def bad (ns : List Int) (rs : List Row) (p : Int) : Bool :=
  !(decide (scaled ns (amounts ns rs) / pd ns ns.length ≤ lvl ns rs p) && decide (lvl ns rs p ≤ -((-scaled ns (amounts ns rs)) / pd ns ns.length)))
/-- climbers of a row in a window -/
def clim (size : Int) (r : Row) (start length : Int) : Int :=
  r.c / size * length + (max 0 (min (r.c % size) ((start - r.f) % size + length) - (start - r.f) % size) + max 0 (min (r.c % size) ((start - r.f) % size + length - size)))
/-- a row of the rest -/
def restRow (ns : List Int) (done : Nat) (num : Int) (r : Row) : Row :=
  { d := r.d - done
    f := if (r.f - num * (pd ns r.d / pd ns done)) % pd ns r.d < pd ns r.d / pd ns done then (r.f - num * (pd ns r.d / pd ns done)) % pd ns r.d else 0
    c := clim (pd ns r.d) r (num * (pd ns r.d / pd ns done)) (pd ns r.d / pd ns done) }
def restF (ns : List Int) (done : Nat) (num : Int) (r : Row) : Option Row :=
  if done < r.d ∧ 0 < (restRow ns done num r).c then some (restRow ns done num r) else none
def restR (ns : List Int) (rs : List Row) (cs : List Int) : List Row := rs.filterMap (restF ns cs.length (wn ns cs cs.length))
theorem IsPlaces.isP {ns : List Int} {rs : List Row} {ps : List Int} (h : IsPlaces ns rs ps) {p : Int} : p ∈ ps ↔ IsP ns rs p := h.mem p
/-- the first item of a list in order that a test takes -/
theorem filter_first {ps : List Int} (hs : ps.Pairwise (· < ·)) (t : Int → Bool) {p : Int} {r : List Int} (h : ps.filter t = p :: r) : p ∈ ps ∧ t p = true ∧ ∀ q ∈ ps, t q = true → p ≤ q := by
  have m : p ∈ ps.filter t := by
    rw [h]
    exact List.mem_cons_self
  obtain ⟨m1, m2⟩ := List.mem_filter.mp m
  refine ⟨m1, m2, fun q hq ht => ?_⟩
  have mq : q ∈ ps.filter t := List.mem_filter.mpr ⟨hq, ht⟩
  have s := hs.filter t
  rw [h] at mq s
  rcases List.mem_cons.mp mq with e | e
  · rw [e]
    exact Int.le_refl _
  · exact Int.le_of_lt ((List.pairwise_cons.mp s).1 q e)
theorem First.of {ns : List Int} {rs : List Row} {ps : List Int} (h : IsPlaces ns rs ps) {v p : Int} {r : List Int} (e : ps.filter (fun q => decide (lvl ns rs q = v)) = p :: r) : First ns rs v p := by
  obtain ⟨h1, h2, h3⟩ := filter_first h.sorted _ e
  exact ⟨h.isP.mp h1, of_decide_eq_true h2, fun p' hp hv => h3 p' (h.isP.mpr hp) (decide_eq_true hv)⟩
theorem First.uniq {ns : List Int} {rs : List Row} {v p p' : Int} (h : First ns rs v p) (g : First ns rs v p') : p = p' := by
  have := h.first p' g.isP g.lv
  have := g.first p h.isP h.lv
  omega
theorem Ext.uniq {ns : List Int} {rs : List Row} {lo plo hi phi lo' plo' hi' phi' : Int} (h : Ext ns rs lo plo hi phi) (g : Ext ns rs lo' plo' hi' phi') : lo = lo' ∧ plo = plo' ∧ hi = hi' ∧ phi = phi' := by
  have e1 : lo = lo' := by
    have := h.least plo' g.atLo.isP
    have := g.least plo h.atLo.isP
    have := h.atLo.lv
    have := g.atLo.lv
    omega
  have e2 : hi = hi' := by
    have := h.most phi' g.atHi.isP
    have := g.most phi h.atHi.isP
    have := h.atHi.lv
    have := g.atHi.lv
    omega
  subst e1 e2
  exact ⟨rfl, h.atLo.uniq g.atLo, rfl, h.atHi.uniq g.atHi⟩
theorem places_uniq {ns : List Int} {rs : List Row} : ∀ {ps qs : List Int}, ps.Pairwise (· < ·) → qs.Pairwise (· < ·) → (∀ p, p ∈ ps ↔ p ∈ qs) → ps = qs
  | [], [], _, _, _ => rfl
  | [], q :: s, _, _, h => absurd ((h q).mpr List.mem_cons_self) (fun z => nomatch z)
  | p :: r, [], _, _, h => absurd ((h p).mp List.mem_cons_self) (fun z => nomatch z)
  | p :: r, q :: s, hp, hq, h => by
    obtain ⟨p1, p2⟩ := List.pairwise_cons.mp hp
    obtain ⟨q1, q2⟩ := List.pairwise_cons.mp hq
    have e : p = q := by
      rcases List.mem_cons.mp ((h p).mp List.mem_cons_self) with z | z
      · exact z
      · rcases List.mem_cons.mp ((h q).mpr List.mem_cons_self) with w | w
        · exact w.symm
        · have := q1 p z
          have := p1 q w
          omega
    subst e
    refine congrArg (p :: ·) (places_uniq (ns := ns) (rs := rs) p2 q2 fun k => ⟨fun z => ?_, fun z => ?_⟩)
    · rcases List.mem_cons.mp ((h k).mp (List.mem_cons_of_mem _ z)) with w | w
      · have := p1 k z
        omega
      · exact w
    · rcases List.mem_cons.mp ((h k).mpr (List.mem_cons_of_mem _ z)) with w | w
      · have := q1 k z
        omega
      · exact w
theorem IsPlaces.uniq {ns : List Int} {rs : List Row} {ps qs : List Int} (h : IsPlaces ns rs ps) (g : IsPlaces ns rs qs) : ps = qs :=
  places_uniq (ns := ns) (rs := rs) h.sorted g.sorted fun p => by rw [h.mem, g.mem]
end M
namespace M
theorem places_sub : ∀ {ps : List Int}, ps.Pairwise (· < ·) → ∀ (xs : List Int), (∀ p ∈ ps, p ∈ xs) → ps.length ≤ xs.length
  | [], _, _, _ => Nat.zero_le _
  | p :: r, hs, xs, h => by
    obtain ⟨h1, h2⟩ := List.pairwise_cons.mp hs
    have m : p ∈ xs := h p List.mem_cons_self
    have ih := places_sub h2 (xs.erase p) fun q hq => by
      have n : q ≠ p := fun e => by
        have := h1 q hq
        omega
      exact (List.mem_erase_of_ne n).mpr (h q (List.mem_cons_of_mem _ hq))
    rw [List.length_erase_of_mem m] at ih
    have := List.length_pos_of_mem m
    show r.length + 1 ≤ _
    omega
theorem places_len {ns : List Int} {rs : List Row} {ps : List Int} (h : IsPlaces ns rs ps) : ps.length ≤ 1 + 2 * rs.length := by
  have k := places_sub h.sorted (0 :: rs.flatMap fun r => [r.f * unit ns r, endp ns r * unit ns r]) fun p hp => by
    rcases (h.mem p).mp hp with z | ⟨r, hr, z⟩
    · rw [z]
      exact List.mem_cons_self
    · refine List.mem_cons_of_mem _ (List.mem_flatMap.mpr ⟨r, hr, ?_⟩)
      rcases z with z | z
      · simp [z]
      · simp [z]
  have e : (rs.flatMap fun r => [r.f * unit ns r, endp ns r * unit ns r]).length = 2 * rs.length := by
    clear k h
    induction rs with
    | nil => rfl
    | cons a r ih =>
      rw [List.flatMap_cons, List.length_append, ih]
      show 2 + _ = _
      rw [List.length_cons]
      omega
  rw [List.length_cons, e] at k
  omega
end M
namespace M
theorem find_first {ps : List Int} {i : Nat} {y : Int} {t : Int → Bool} (hy : ps[i]? = some y) (hb : ∀ q ∈ ps.take i, t q = false) (h : t y = true) : ps.find? t = some y := by
  induction ps generalizing i with
  | nil => cases hy
  | cons a r ih =>
    cases i with
    | zero =>
      have e : a = y := Option.some.inj hy
      rw [e, List.find?_cons_of_pos h]
    | succ i =>
      have ha : t a = false := hb a (by rw [List.take_succ_cons]; exact List.mem_cons_self)
      rw [List.find?_cons_of_neg (by rw [ha]; decide)]
      exact ih (by simpa using hy) fun q hq => hb q (by rw [List.take_succ_cons]; exact List.mem_cons_of_mem _ hq)
end M
namespace M
theorem pd_le_pow {ns : List Int} (h : ∀ n ∈ ns, 2 ≤ n ∧ n < P2 50) : ∀ d, d ≤ ns.length → pd ns d ≤ P2 (50 * d)
  | 0, _ => Int.le_refl _
  | d + 1, hd => by
    have ih := pd_le_pow h d (by omega)
    have e : ns[d]? = some ns[d] := List.getElem?_eq_getElem (by omega)
    have b := h _ (List.mem_of_getElem? e)
    have p0 := pd_pos (fun n hn => (h n hn).1) d
    rw [pd_succ e, show 50 * (d + 1) = 50 * d + 50 by omega, P2_add]
    exact Int.mul_le_mul ih (Int.le_of_lt b.2) (by omega) (Int.le_of_lt (P2_pos _))
theorem sched_of {ns : List Int} (hl : ns.length ≤ 12) (h : ∀ n ∈ ns, 2 ≤ n ∧ n < P2 50) : Sched ns where
  len := by omega
  two := fun n hn => (h n hn).1
  big := by
    have b := pd_le_pow h ns.length (Nat.le_refl _)
    have c : P2 (50 * ns.length) ≤ P2 600 := P2_le (by omega)
    have e : P2 600 < P2 700 := by decide +kernel
    omega
end M
namespace M
/-- the list that the law's levels are sorted from -/
def marks (ns : List Int) (rs : List Row) : List Int := 0 :: rs.flatMap fun r => [r.f * unit ns r, endp ns r * unit ns r]
theorem marks_app (ns : List Int) (rs ss : List Row) : marks ns (rs ++ ss) = marks ns rs ++ ss.flatMap fun r => [r.f * unit ns r, endp ns r * unit ns r] := by
  unfold marks
  rw [List.flatMap_append]
  rfl
theorem marks_len (ns : List Int) (rs : List Row) : (marks ns rs).length = 1 + 2 * rs.length := by
  unfold marks
  rw [List.length_cons]
  induction rs with
  | nil => rfl
  | cons a r ih =>
    rw [List.flatMap_cons, List.length_append, List.length_cons (as := r)]
    show 2 + _ + 1 = _
    omega
theorem marks_mem (ns : List Int) (rs : List Row) (p : Int) : p ∈ marks ns rs ↔ p = 0 ∨ ∃ r ∈ rs, p = r.f * unit ns r ∨ p = endp ns r * unit ns r := by
  unfold marks
  rw [List.mem_cons, List.mem_flatMap]
  simp
end M
namespace M
theorem word_choices {ns : List Int} (h : ∀ n ∈ ns, 2 ≤ n) : ∀ (l : Nat) (z : Int), l ≤ ns.length → Choices ns (word ns l z)
  | 0, z, _ => ⟨Nat.zero_le _, fun i c n e => by cases e⟩
  | l + 1, z, hl => by
    have ih := word_choices h l (z / ns.getD l 1) (by omega)
    have wl := word_len ns l (z / ns.getD l 1)
    refine ⟨by rw [word_len]; exact hl, fun i c n e g => ?_⟩
    have e2 : (word ns l (z / ns.getD l 1) ++ [z % ns.getD l 1])[i]? = some c := e
    by_cases hi : i < l
    · rw [List.getElem?_append_left (by omega)] at e2
      exact ih.2 i c n e2 g
    · rw [List.getElem?_append_right (by omega), wl] at e2
      have hi2 : i = l := by
        have := (List.getElem?_eq_some_iff.mp e2).1
        simp at this
        omega
      subst hi2
      rw [Nat.sub_self] at e2
      have e3 : z % ns.getD i 1 = c := Option.some.inj e2
      rw [getD_of g] at e3
      have n2 := h n (List.mem_of_getElem? g)
      rw [← e3]
      exact ⟨Int.emod_nonneg _ (by omega), Int.emod_lt_of_pos _ (by omega)⟩
theorem wn_app {ns xs ys : List Int} : ∀ i, i ≤ xs.length → wn ns (xs ++ ys) i = wn ns xs i
  | 0, _ => rfl
  | i + 1, h => by
    show wn ns (xs ++ ys) i * ns.getD i 0 + (xs ++ ys).getD i 0 = wn ns xs i * ns.getD i 0 + xs.getD i 0
    have e : (xs ++ ys).getD i 0 = xs.getD i 0 := by
      rw [List.getD_eq_getElem?_getD, List.getD_eq_getElem?_getD, List.getElem?_append_left (by omega)]
    rw [wn_app i (by omega), e]
/-- the number of a beginning of a word -/
theorem wn_word {ns : List Int} (h : ∀ n ∈ ns, 2 ≤ n) : ∀ (l : Nat), l ≤ ns.length → ∀ (z : Int), 0 ≤ z → z < pd ns l → ∀ d, d ≤ l → wn ns (word ns l z) d = z / (pd ns l / pd ns d)
  | 0, _, z, h0, h1, d, hd => by
    have e : d = 0 := by omega
    subst e
    have e2 : z = 0 := by
      have : z < 1 := h1
      omega
    subst e2
    simp [wn]
  | l + 1, hl, z, h0, h1, d, hd => by
    have e : ns[l]? = some ns[l] := List.getElem?_eq_getElem (by omega)
    have n2 := h _ (List.mem_of_getElem? e)
    generalize ns[l] = n at e n2
    have p0 := pd_pos h l
    have ps : pd ns (l + 1) = pd ns l * n := pd_succ e
    rw [ps] at h1 ⊢
    have q0 : 0 ≤ z / n := Int.ediv_nonneg h0 (by omega)
    have q1 : z / n < pd ns l := by
      rw [Int.ediv_lt_iff_lt_mul (by omega)]
      exact h1
    have ih := wn_word h l (by omega) (z / n) q0 q1
    have wl := word_len ns l (z / n)
    have ew : word ns (l + 1) z = word ns l (z / n) ++ [z % n] := by
      show word ns l (z / ns.getD l 1) ++ [z % ns.getD l 1] = _
      rw [getD_of e]
    rw [ew]
    by_cases c : d ≤ l
    · rw [wn_app d (by omega), ih d c]
      have d0 := pd_pos h d
      obtain ⟨k, hk⟩ := pd_dvd h c
      have k0 : 0 < k := by
        rw [hk] at p0
        rcases Int.lt_or_le 0 k with w | w
        · exact w
        · have := Int.mul_le_mul_of_nonneg_left w (show 0 ≤ pd ns d by omega)
          omega
      rw [hk, Int.mul_assoc, Int.mul_ediv_cancel_left _ (by omega), Int.mul_ediv_cancel_left _ (by omega), Int.mul_comm k n, Int.ediv_ediv_of_nonneg (by omega)]
    · have e2 : d = l + 1 := by omega
      subst e2
      show wn ns (word ns l (z / n) ++ [z % n]) l * ns.getD l 0 + (word ns l (z / n) ++ [z % n]).getD l 0 = _
      rw [wn_app l (by omega), ih l (Nat.le_refl _), getD_of e, List.getD_eq_getElem?_getD, List.getElem?_append_right (by omega), wl, Nat.sub_self]
      show z / n / (pd ns l / pd ns l) * n + z % n = z / (pd ns l * n / pd ns (l + 1))
      rw [ps, Int.ediv_self (by omega), Int.ediv_self (by have := Int.mul_pos (show 0 < pd ns l by omega) (show 0 < n by omega); omega), Int.ediv_one, Int.ediv_one]
      exact Int.ediv_mul_add_emod z n
theorem cov_word {ns : List Int} (h : Sched ns) {rs : List Row} (ho : ∀ r ∈ rs, RowOk ns r) {p : Int} (h0 : 0 ≤ p) (h1 : p < pd ns ns.length) : cov ns rs (word ns ns.length p) = lvl ns rs p := by
  unfold cov lvl
  refine sum_map_congr fun r hr => ?_
  have o := ho r hr
  unfold covT
  rw [word_len, if_pos o.dn, wn_word h.two ns.length (Nat.le_refl _) p h0 h1 r.d o.dn]
  rfl
theorem number_word {ns : List Int} (h : Sched ns) {p : Int} (h0 : 0 ≤ p) (h1 : p < pd ns ns.length) : wn ns (word ns ns.length p) ns.length = p := by
  have w0 := h.pos ns.length
  rw [wn_word h.two ns.length (Nat.le_refl _) p h0 h1 ns.length (Nat.le_refl _), Int.ediv_self (by omega), Int.ediv_one]
theorem word_zero (ns : List Int) : ∀ l, word ns l 0 = List.replicate l 0
  | 0 => rfl
  | l + 1 => by
    show word ns l (0 / ns.getD l 1) ++ [0 % ns.getD l 1] = _
    rw [Int.zero_ediv, Int.zero_emod, word_zero ns l, List.replicate_succ']
/-- the law's ends: the next place, the whole at last -/
def area (g : Int → Int) (W : Int) : List Int → Int
  | [] => 0
  | [p] => (W - p) * g p
  | p :: q :: r => (q - p) * g p + area g W (q :: r)
theorem area_run (f g : Int → Int) (W : Int) : ∀ (ps : List Int) (l : Int), run f l ps = ps.map (fun p => (p, g p)) → ∀ p r, ps = p :: r → area g W ps = l * (W - p) + (ps.map fun q => f q * (W - q)).sum
  | [], _, _, p, r, h => by cases h
  | [a], l, hr, p, r, h => by
    cases h
    have e : l + f a = g a := by
      have := congrArg (fun z => (z.head?).map Prod.snd) hr
      simpa [run] using this
    show (W - a) * g a = _
    rw [← e]
    simp only [List.map_cons, List.map_nil, List.sum_cons, List.sum_nil, Int.add_zero]
    rw [Int.mul_comm, Int.add_mul]
  | a :: b :: s, l, hr, p, r, h => by
    obtain ⟨h1, h2⟩ := List.cons.inj h
    subst h1
    have hc : (a, l + f a) = (a, g a) ∧ run f (l + f a) (b :: s) = (b :: s).map fun p => (p, g p) := List.cons.inj hr
    have e : l + f a = g a := congrArg Prod.snd hc.1
    have ih := area_run f g W (b :: s) (l + f a) hc.2 b s rfl
    show (b - a) * g a + area g W (b :: s) = _
    rw [ih, ← e]
    simp only [List.map_cons, List.sum_cons]
    have x1 : (b - a) * (l + f a) = (l + f a) * b - (l + f a) * a := by rw [Int.mul_comm, Int.mul_sub]
    have x2 : (l + f a) * (W - b) = (l + f a) * W - (l + f a) * b := Int.mul_sub ..
    have x3 : l * (W - a) = l * W - l * a := Int.mul_sub ..
    have x4 : f a * (W - a) = f a * W - f a * a := Int.mul_sub ..
    have x5 : (l + f a) * W = l * W + f a * W := Int.add_mul ..
    have x6 : (l + f a) * a = l * a + f a * a := Int.add_mul ..
    omega
theorem sum_at {ps : List Int} (hs : ps.Pairwise (· < ·)) {a : Int} (ha : a ∈ ps) (g : Int → Int) : (ps.map fun k => ind (k = a) * g k).sum = g a := by
  have e : (ps.map fun k => ind (k = a) * g k) = ps.map fun k => if k = a then g a else 0 := by
    refine List.map_congr_left fun k _ => ?_
    unfold ind
    by_cases c : k = a
    · rw [if_pos c, if_pos c, c, Int.one_mul]
    · rw [if_neg c, if_neg c, Int.zero_mul]
  rw [e, sum_mark hs, if_pos ha]
theorem row_area {ns : List Int} (h : Sched ns) {r : Row} (o : RowOk ns r) {ps : List Int} (hs : ps.Pairwise (· < ·)) (m0 : 0 ∈ ps) (mf : r.f * unit ns r ∈ ps) (me : endp ns r * unit ns r ∈ ps) :
    r.c / pd ns r.d * pd ns ns.length + (ps.map fun k => chg ns r k * (pd ns ns.length - k)).sum = r.c * unit ns r := by
  have q0 := h.pos r.d
  have uq : unit ns r * pd ns r.d = pd ns ns.length := h.unit_q o.dn
  have e : (ps.map fun k => chg ns r k * (pd ns ns.length - k)) = ps.map fun k => (ind (k = r.f * unit ns r) * (pd ns ns.length - k) - ind (k = endp ns r * unit ns r) * (pd ns ns.length - k)) + ind (k = 0) * (ind (pd ns r.d ≤ r.f + r.c % pd ns r.d) * (pd ns ns.length - k)) := by
    refine List.map_congr_left fun k _ => ?_
    unfold chg
    rw [Int.add_mul, Int.sub_mul]
    refine congrArg _ ?_
    by_cases c : k = 0
    · rw [if_pos c]
      unfold ind
      rw [if_pos c, Int.one_mul]
    · rw [if_neg c]
      unfold ind
      rw [if_neg c, Int.zero_mul, Int.zero_mul]
  rw [e, sum_map_add, sum_map_sub, sum_at hs mf (fun k => pd ns ns.length - k), sum_at hs me (fun k => pd ns ns.length - k), sum_at hs m0 (fun k => ind (pd ns r.d ≤ r.f + r.c % pd ns r.d) * (pd ns ns.length - k))]
  rw [← uq]
  generalize unit ns r = u at *
  generalize hq : pd ns r.d = q at *
  have m1 := Int.emod_nonneg r.c (show q ≠ 0 by omega)
  have m2 := Int.emod_lt_of_pos r.c (show 0 < q by omega)
  have dm := Int.ediv_mul_add_emod r.c q
  have f0 := o.f0
  have f1 := o.f1
  rw [hq] at f1
  rw [endp_eq, hq]
  generalize r.c % q = m at *
  generalize r.c / q = t at *
  have key : t * (u * q) + m * u = r.c * u := by
    rw [← dm, Int.add_mul, Int.mul_assoc, Int.mul_comm u q]
  have e2 : (r.f + m) % q = if r.f + m < q then r.f + m else r.f + m - q := by
    split
    · exact Int.emod_eq_of_lt (by omega) (by omega)
    · rw [← Int.sub_emod_right]
      exact Int.emod_eq_of_lt (by omega) (by omega)
  rw [e2]
  have a1 : (r.f + m) * u = r.f * u + m * u := Int.add_mul ..
  have a2 : (r.f + m - q) * u = r.f * u + m * u - q * u := by rw [Int.sub_mul, Int.add_mul]
  have a3 : q * u = u * q := Int.mul_comm ..
  unfold ind
  by_cases c : r.f + m < q
  · rw [if_pos c, if_neg (show ¬ q ≤ r.f + m by omega)]
    omega
  · rw [if_neg c, if_pos (show q ≤ r.f + m by omega)]
    omega
theorem sum_mul_right {α : Type} (f : α → Int) (k : Int) (xs : List α) : (xs.map f).sum * k = (xs.map fun x => f x * k).sum := by
  induction xs with
  | nil => simp
  | cons a r ih => simp only [List.map_cons, List.sum_cons, Int.add_mul, ih]
/-- what the climbers are worth together -/
def worth (ns : List Int) (rs : List Row) : Int := (rs.map fun r => r.c * unit ns r).sum
theorem area_worth {ns : List Int} (h : Sched ns) {rs : List Row} (ho : ∀ r ∈ rs, RowOk ns r) {ps : List Int} (hs : IsPlaces ns rs ps) : area (lvl ns rs) (pd ns ns.length) ps = worth ns rs := by
  have m0 : (0 : Int) ∈ ps := (hs.mem 0).mpr (.inl rfl)
  cases hp : ps with
  | nil =>
    rw [hp] at m0
    cases m0
  | cons p r =>
    have p0 : p = 0 := by
      have b := (place_in h ho hs (p := p) (by rw [hp]; exact List.mem_cons_self)).1
      have s := hs.sorted
      rw [hp] at s m0
      rcases List.mem_cons.mp m0 with z | z
      · exact z.symm
      · have := (List.pairwise_cons.mp s).1 0 z
        omega
    rw [← hp, area_run (chgs ns rs) (lvl ns rs) (pd ns ns.length) ps (turns ns rs) (run_levels h ho hs) p r hp, p0, Int.sub_zero]
    unfold turns worth
    rw [sum_mul_right]
    have e : (ps.map fun q => chgs ns rs q * (pd ns ns.length - q)) = ps.map fun q => (rs.map fun r => chg ns r q * (pd ns ns.length - q)).sum := by
      refine List.map_congr_left fun q _ => ?_
      unfold chgs
      rw [sum_mul_right]
    rw [e, sum_swap, ← sum_map_add]
    exact sum_map_congr fun r hr => row_area h (ho r hr) hs.sorted m0 ((hs.mem _).mpr (.inr ⟨r, hr, .inl rfl⟩)) ((hs.mem _).mpr (.inr ⟨r, hr, .inr rfl⟩))
theorem scaled_worth {ns : List Int} {rs : List Row} (ho : ∀ r ∈ rs, RowOk ns r) : scaled ns (amounts ns rs) = worth ns rs := by
  unfold scaled
  rw [amounts_len]
  have e : ((List.range ns.length).map fun i => (amounts ns rs).getD i 0 * (pd ns ns.length / pd ns (i + 1))) = (List.range ns.length).map fun i => (rs.map fun r => if r.d = i + 1 then r.c * unit ns r else 0).sum := by
    refine List.map_congr_left fun i hi => ?_
    have hi2 : i < ns.length := List.mem_range.mp hi
    have g : (amounts ns rs).getD i 0 = amount rs (i + 1) := by
      refine getD_of ?_ 0
      unfold amounts
      rw [List.getElem?_map, List.getElem?_range hi2]
      rfl
    rw [g]
    unfold amount
    clear hi hi2 g ho
    induction rs with
    | nil => simp
    | cons a s ih =>
      by_cases c : a.d = i + 1
      · rw [List.filter_cons_of_pos (by simp [c])]
        simp only [List.map_cons, List.sum_cons]
        rw [if_pos c, ← ih, Int.add_mul]
        unfold unit
        rw [c]
      · rw [List.filter_cons_of_neg (by simp [c])]
        simp only [List.map_cons, List.sum_cons]
        rw [if_neg c, ← ih, Int.zero_add]
  rw [e, sum_swap]
  unfold worth
  refine sum_map_congr fun r hr => ?_
  have o := ho r hr
  have o1 := o.d1
  have o2 := o.dn
  have k : ∀ n, ((List.range n).map fun i => if r.d = i + 1 then r.c * unit ns r else 0).sum = if r.d ≤ n then r.c * unit ns r else 0 := by
    intro n
    induction n with
    | zero =>
      rw [if_neg (by omega)]
      rfl
    | succ n ih =>
      rw [List.range_succ, List.map_append, List.sum_append, ih]
      simp only [List.map_cons, List.map_nil, List.sum_cons, List.sum_nil, Int.add_zero]
      by_cases c : r.d ≤ n
      · rw [if_pos c, if_neg (show ¬ r.d = n + 1 by omega), if_pos (show r.d ≤ n + 1 by omega), Int.add_zero]
      · rw [if_neg c, Int.zero_add]
        by_cases c2 : r.d = n + 1
        · rw [if_pos c2, if_pos (show r.d ≤ n + 1 by omega)]
        · rw [if_neg c2, if_neg (show ¬ r.d ≤ n + 1 by omega)]
  rw [k, if_pos o2]
/-- lowest terms -/
theorem low_cross {a b : Int} (h : 0 ≤ a) (h2 : 0 < b) : a * (b / gcd a b) = a / gcd a b * b := by
  obtain ⟨d1, d2⟩ := gcd_dvd h (Int.le_of_lt h2)
  have g := (gcd_pos (a := a) h2).1
  obtain ⟨x, hx⟩ := d1
  obtain ⟨y, hy⟩ := d2
  generalize gcd a b = g' at *
  subst hx
  subst hy
  rw [Int.mul_ediv_cancel_left _ (by omega), Int.mul_ediv_cancel_left _ (by omega)]
  rw [Int.mul_comm g' x, Int.mul_assoc]
theorem low_div {a b : Int} (h : 0 ≤ a) (h2 : 0 < b) : a / gcd a b / (b / gcd a b) = a / b ∧ (-(a / gcd a b)) / (b / gcd a b) = (-a) / b := by
  obtain ⟨d1, d2⟩ := gcd_dvd h (Int.le_of_lt h2)
  have g := (gcd_pos (a := a) h2).1
  obtain ⟨x, hx⟩ := d1
  obtain ⟨y, hy⟩ := d2
  generalize gcd a b = g' at *
  subst hx
  subst hy
  rw [Int.mul_ediv_cancel_left _ (by omega), Int.mul_ediv_cancel_left _ (by omega), ← Int.mul_neg, Int.mul_ediv_mul_of_pos _ _ g, Int.mul_ediv_mul_of_pos _ _ g]
  exact ⟨rfl, rfl⟩
def other (ns : List Int) (r : Row) (more : Int) : Row := { d := r.d, f := endp ns r, c := more * pd ns r.d - r.c }
theorem other_row {ns : List Int} (h : Sched ns) {r : Row} (o : RowOk ns r) (more x : Int) : rowT ns (other ns r more) x = more - rowT ns r x := by
  have q0 := h.pos r.d
  unfold rowT other endp
  dsimp only
  generalize hq : pd ns r.d = q at *
  have m1 := Int.emod_nonneg r.c (show q ≠ 0 by omega)
  have m2 := Int.emod_lt_of_pos r.c (show 0 < q by omega)
  have dm := Int.ediv_mul_add_emod r.c q
  generalize hm : r.c % q = m at *
  generalize ht : r.c / q = t at *
  have y1 := Int.emod_nonneg (x - r.f) (show q ≠ 0 by omega)
  have y2 := Int.emod_lt_of_pos (x - r.f) (show 0 < q by omega)
  have ex : (x - (r.f + r.c) % q) % q = ((x - r.f) % q - m) % q := by
    rw [Int.sub_emod_emod, Int.emod_sub_emod, ← hm, Int.sub_emod_emod]
    congr 1
    omega
  rw [ex]
  generalize (x - r.f) % q = y at *
  by_cases c : m = 0
  · subst c
    have e1 : more * q - r.c = (more - t) * q := by
      rw [Int.sub_mul]
      omega
    rw [e1, Int.mul_ediv_cancel _ (by omega), Int.mul_emod_left]
    rw [Int.sub_zero, Int.emod_eq_of_lt y1 y2, if_neg (by omega)]
    omega
  · have e1 : more * q - r.c = (q - m) + (more - t - 1) * q := by
      rw [Int.sub_mul, Int.sub_mul, Int.one_mul]
      omega
    have d1 : (more * q - r.c) / q = more - t - 1 := by
      rw [e1, Int.add_mul_ediv_right _ _ (by omega), Int.ediv_eq_zero_of_lt (by omega) (by omega), Int.zero_add]
    have d2 : (more * q - r.c) % q = q - m := by
      rw [e1, Int.add_mul_emod_self_right]
      exact Int.emod_eq_of_lt (by omega) (by omega)
    rw [d1, d2]
    by_cases c2 : y < m
    · have e3 : (y - m) % q = y - m + q := by
        rw [← Int.add_emod_right]
        exact Int.emod_eq_of_lt (by omega) (by omega)
      rw [e3, if_pos c2, if_neg (by omega)]
      omega
    · rw [Int.emod_eq_of_lt (show 0 ≤ y - m by omega) (by omega), if_neg c2, if_pos (by omega)]
      omega
end M
namespace M
section
variable {ns : List Int} {prs : List (Row × Int)}
abbrev oths (ns : List Int) (prs : List (Row × Int)) : List Row := prs.map fun x => other ns x.1 x.2
theorem lvl_oths (h : Sched ns) (ho : ∀ r ∈ prs.map (·.1), RowOk ns r) (p : Int) : lvl ns (oths ns prs) p = (prs.map (·.2)).sum - lvl ns (prs.map (·.1)) p := by
  unfold lvl oths
  rw [List.map_map, List.map_map, ← sum_map_sub]
  refine sum_map_congr fun x hx => ?_
  exact other_row h (ho _ (List.mem_map.mpr ⟨x, hx, rfl⟩)) x.2 (p / unit ns x.1)
theorem endp_other (h : Sched ns) {r : Row} (o : RowOk ns r) (more : Int) : endp ns (other ns r more) = r.f := by
  have f0 := o.f0
  have f1 := o.f1
  unfold endp other
  dsimp only
  unfold endp
  rw [Int.emod_add_emod]
  have e : r.f + r.c + (more * pd ns r.d - r.c) = r.f + more * pd ns r.d := by omega
  rw [e, Int.add_mul_emod_self_right]
  exact Int.emod_eq_of_lt f0 f1
theorem isP_oths (h : Sched ns) (ho : ∀ r ∈ prs.map (·.1), RowOk ns r) (p : Int) : IsP ns (oths ns prs) p ↔ IsP ns (prs.map (·.1)) p := by
  unfold IsP
  refine or_congr Iff.rfl ⟨?_, ?_⟩
  · rintro ⟨r, hr, z⟩
    obtain ⟨x, hx, rfl⟩ := List.mem_map.mp hr
    have o := ho x.1 (List.mem_map.mpr ⟨x, hx, rfl⟩)
    refine ⟨x.1, List.mem_map.mpr ⟨x, hx, rfl⟩, ?_⟩
    rw [endp_other h o] at z
    exact z.symm
  · rintro ⟨r, hr, z⟩
    obtain ⟨x, hx, rfl⟩ := List.mem_map.mp hr
    have o := ho x.1 (List.mem_map.mpr ⟨x, hx, rfl⟩)
    refine ⟨other ns x.1 x.2, List.mem_map.mpr ⟨x, hx, rfl⟩, ?_⟩
    rw [endp_other h o]
    exact z.symm
theorem ext_oths (h : Sched ns) (ho : ∀ r ∈ prs.map (·.1), RowOk ns r) {lo plo hi phi : Int} (e : Ext ns (prs.map (·.1)) lo plo hi phi) : Ext ns (oths ns prs) ((prs.map (·.2)).sum - hi) phi ((prs.map (·.2)).sum - lo) plo where
  atLo := ⟨(isP_oths h ho _).mpr e.atHi.isP, by rw [lvl_oths h ho, e.atHi.lv], fun p hp hv => e.atHi.first p ((isP_oths h ho p).mp hp) (by rw [lvl_oths h ho] at hv; omega)⟩
  atHi := ⟨(isP_oths h ho _).mpr e.atLo.isP, by rw [lvl_oths h ho, e.atLo.lv], fun p hp hv => e.atLo.first p ((isP_oths h ho p).mp hp) (by rw [lvl_oths h ho] at hv; omega)⟩
  least := fun p hp => by
    have := e.most p ((isP_oths h ho p).mp hp)
    rw [lvl_oths h ho]
    omega
  most := fun p hp => by
    have := e.least p ((isP_oths h ho p).mp hp)
    rw [lvl_oths h ho]
    omega
theorem lvl_app (rs ss : List Row) (p : Int) : lvl ns (rs ++ ss) p = lvl ns rs p + lvl ns ss p := by
  unfold lvl
  rw [List.map_append, List.sum_append]
theorem ext_both (h : Sched ns) (ho : ∀ r ∈ prs.map (·.1), RowOk ns r) : Ext ns (prs.map (·.1) ++ oths ns prs) (prs.map (·.2)).sum 0 (prs.map (·.2)).sum 0 := by
  have c : ∀ p, lvl ns (prs.map (·.1) ++ oths ns prs) p = (prs.map (·.2)).sum := fun p => by
    rw [lvl_app, lvl_oths h ho]
    omega
  have pos : ∀ p, IsP ns (prs.map (·.1) ++ oths ns prs) p → 0 ≤ p := by
    rintro p (z | ⟨r, hr, z⟩)
    · omega
    · have b : ∀ r : Row, RowOk ns r → 0 ≤ r.f * unit ns r ∧ 0 ≤ endp ns r * unit ns r := fun r o => by
        have u0 : 0 < unit ns r := h.ulpos o.dn
        have q0 := h.pos r.d
        exact ⟨Int.mul_nonneg o.f0 (by omega), Int.mul_nonneg (Int.emod_nonneg _ (by omega)) (by omega)⟩
      have b2 : 0 ≤ r.f * unit ns r ∧ 0 ≤ endp ns r * unit ns r := by
        rcases List.mem_append.mp hr with w | w
        · exact b r (ho r w)
        · obtain ⟨x, hx, rfl⟩ := List.mem_map.mp w
          have o := ho x.1 (List.mem_map.mpr ⟨x, hx, rfl⟩)
          have k := b x.1 o
          rw [endp_other h o]
          exact ⟨k.2, k.1⟩
      rcases z with z | z
      · rw [z]
        exact b2.1
      · rw [z]
        exact b2.2
  exact ⟨⟨.inl rfl, c 0, fun p hp _ => pos p hp⟩, ⟨.inl rfl, c 0, fun p hp _ => pos p hp⟩, fun p _ => by rw [c p]; exact Int.le_refl _, fun p _ => by rw [c p]; exact Int.le_refl _⟩
theorem P2_3 : (3 : Int) * P2 700 < P2 710 := by decide +kernel
theorem other_ok (h : Sched ns) {r : Row} (o : RowOk ns r) {more : Int} (h1 : r.c / pd ns r.d + 1 ≤ more) (h2 : more ≤ r.c / pd ns r.d + 3) : RowOk ns (other ns r more) := by
  have q0 := h.pos r.d
  have q1 := h.lt o.dn
  have m1 := Int.emod_nonneg r.c (show pd ns r.d ≠ 0 by omega)
  have m2 := Int.emod_lt_of_pos r.c (show 0 < pd ns r.d by omega)
  have dm := Int.ediv_mul_add_emod r.c (pd ns r.d)
  have a1 : (r.c / pd ns r.d + 1) * pd ns r.d ≤ more * pd ns r.d := Int.mul_le_mul_of_nonneg_right h1 (by omega)
  have a2 : more * pd ns r.d ≤ (r.c / pd ns r.d + 3) * pd ns r.d := Int.mul_le_mul_of_nonneg_right h2 (by omega)
  rw [Int.add_mul] at a1 a2
  have p := P2_3
  exact ⟨o.d1, o.dn, Int.emod_nonneg _ (by omega), Int.emod_lt_of_pos _ (by omega), by show 1 ≤ more * pd ns r.d - r.c; omega, by show more * pd ns r.d - r.c < P2 710; omega⟩
end
theorem drop_getD (ns : List Int) (k i : Nat) (z : Int) : (ns.drop k).getD i z = ns.getD (k + i) z := by
  rw [List.getD_eq_getElem?_getD, List.getD_eq_getElem?_getD, List.getElem?_drop]
theorem pd_drop (ns : List Int) (k : Nat) : ∀ e, pd ns (k + e) = pd ns k * pd (ns.drop k) e
  | 0 => by simp [pd]
  | e + 1 => by
    show pd ns (k + e) * ns.getD (k + e) 1 = pd ns k * (pd (ns.drop k) e * (ns.drop k).getD e 1)
    rw [pd_drop ns k e, drop_getD, Int.mul_assoc]
theorem wn_drop (ns w : List Int) (k : Nat) : ∀ e, k + e ≤ ns.length → wn ns w (k + e) = wn ns w k * pd (ns.drop k) e + wn (ns.drop k) (w.drop k) e
  | 0, _ => by simp [pd, wn]
  | e + 1, hk => by
    have e1 : ns[k + e]? = some ns[k + e] := List.getElem?_eq_getElem (by omega)
    have e2 : (ns.drop k)[e]? = some ns[k + e] := by rw [List.getElem?_drop, e1]
    show wn ns w (k + e) * ns.getD (k + e) 0 + w.getD (k + e) 0 = _
    have e3 : wn (ns.drop k) (w.drop k) (e + 1) = wn (ns.drop k) (w.drop k) e * (ns.drop k).getD e 0 + (w.drop k).getD e 0 := rfl
    rw [wn_drop ns w k e (by omega), e3, drop_getD, drop_getD, pd_succ e2, getD_of e1, Int.add_mul, Int.mul_assoc, Int.add_assoc]
theorem Sched.drop {ns : List Int} (h : Sched ns) (k : Nat) (hk : k ≤ ns.length) : Sched (ns.drop k) where
  len := by
    rw [List.length_drop]
    have := h.len
    omega
  two := fun n hn => h.two n (List.mem_of_mem_drop hn)
  big := by
    have e := pd_drop ns k (ns.length - k)
    rw [show k + (ns.length - k) = ns.length by omega] at e
    have b := h.big
    have p0 := h.pos k
    have q0 := pd_pos (fun n hn => h.two n (List.mem_of_mem_drop hn)) (ns := ns.drop k) (ns.length - k)
    rw [List.length_drop]
    have m : 1 * pd (ns.drop k) (ns.length - k) ≤ pd ns k * pd (ns.drop k) (ns.length - k) := Int.mul_le_mul_of_nonneg_right p0 (by omega)
    omega
theorem Choices.take {ns w : List Int} (h : Choices ns w) (k : Nat) : Choices ns (w.take k) :=
  ⟨by rw [List.length_take]; have := h.1; omega, fun i c n e g => by
    rw [List.getElem?_take] at e
    split at e
    · exact h.2 i c n e g
    · cases e⟩
theorem Choices.drop {ns w : List Int} (h : Choices ns w) (k : Nat) : Choices (ns.drop k) (w.drop k) :=
  ⟨by rw [List.length_drop, List.length_drop]; have := h.1; omega, fun i c n e g => by
    rw [List.getElem?_drop] at e g
    exact h.2 (k + i) c n e g⟩
/-- a window of a row: q the size, L the window's length, s the distance of its start from the row's -/
theorem window {q L m s y : Int} (hL : 0 < L) (hq : L ≤ q) (m0 : 0 ≤ m) (m1 : m < q) (s0 : 0 ≤ s) (s1 : s < q) (y0 : 0 ≤ y) (y1 : y < L) {i t fp : Int}
    (hi : i = max 0 (min m (s + L) - s) + max 0 (min m (s + L - q))) (ht : t = if s = 0 then 0 else q - s) (hf : fp = if t < L then t else 0) :
    0 ≤ i ∧ i ≤ L ∧ i ≤ m ∧ 0 ≤ fp ∧ fp < L ∧ ((if s + y < q then s + y else s + y - q) < m ↔ i = L ∨ (i < L ∧ (if fp ≤ y then y - fp else y - fp + L) < i)) := by
  by_cases h0 : s = 0
  · subst h0
    rw [if_pos rfl] at ht
    subst ht
    rw [if_pos hL] at hf
    subst hf
    rw [if_pos y0, if_pos (show 0 + y < q by omega)]
    refine ⟨by omega, by omega, by omega, by omega, by omega, ?_⟩
    constructor <;> intro _ <;> omega
  · rw [if_neg h0] at ht
    subst ht
    by_cases h1 : q - s < L
    · rw [if_pos h1] at hf
      subst hf
      refine ⟨by omega, by omega, by omega, by omega, by omega, ?_⟩
      by_cases h2 : s + y < q
      · rw [if_pos h2, if_neg (show ¬ q - s ≤ y by omega)]
        constructor <;> intro _ <;> omega
      · rw [if_neg h2, if_pos (show q - s ≤ y by omega)]
        constructor <;> intro _ <;> omega
    · rw [if_neg h1] at hf
      subst hf
      rw [if_pos y0, if_pos (show s + y < q by omega)]
      refine ⟨by omega, by omega, by omega, by omega, by omega, ?_⟩
      constructor <;> intro _ <;> omega
theorem emod_neg {a q : Int} (hq : 0 < q) : (-a) % q = if a % q = 0 then 0 else q - a % q := by
  have m0 := Int.emod_nonneg a (show q ≠ 0 by omega)
  have m1 := Int.emod_lt_of_pos a hq
  have d := Int.ediv_mul_add_emod a q
  by_cases h : a % q = 0
  · rw [if_pos h]
    have e : -a = -(a / q) * q := by
      rw [Int.neg_mul]
      omega
    rw [e, Int.mul_emod_left]
  · rw [if_neg h]
    have e : -a = (q - a % q) + (-(a / q) - 1) * q := by
      rw [Int.sub_mul, Int.neg_mul, Int.one_mul]
      omega
    rw [e, Int.add_mul_emod_self_right]
    exact Int.emod_eq_of_lt (by omega) (by omega)
theorem emod_wrap {a q : Int} (h0 : 0 ≤ a) (h1 : a < q + q) : a % q = if a < q then a else a - q := by
  split
  · exact Int.emod_eq_of_lt h0 (by omega)
  · rw [← Int.sub_emod_right]
    exact Int.emod_eq_of_lt (by omega) (by omega)
theorem emod_wrapN {a q : Int} (h0 : -q < a) (h1 : a < q) : a % q = if 0 ≤ a then a else a + q := by
  split
  · exact Int.emod_eq_of_lt (by omega) h1
  · rw [← Int.add_emod_right]
    exact Int.emod_eq_of_lt (by omega) (by omega)
structure RestCx (ns w : List Int) (k : Nat) : Prop where
  h : Sched ns
  c : Choices ns w
  l : w.length = ns.length
  kl : k ≤ ns.length
theorem RestCx.num {ns w : List Int} {k : Nat} (C : RestCx ns w k) : wn ns (w.take k) k = wn ns w k := by
  have e : w = w.take k ++ w.drop k := (List.take_append_drop k w).symm
  have l : (w.take k).length = k := by
    rw [List.length_take, C.l]
    have := C.kl
    omega
  rw [show wn ns w k = wn ns (w.take k ++ w.drop k) k by rw [← e], wn_app k (by omega)]
theorem RestCx.same {ns w : List Int} {k d : Nat} (C : RestCx ns w k) (hd : d ≤ k) : wn ns (w.take k) d = wn ns w d := by
  have e : w = w.take k ++ w.drop k := (List.take_append_drop k w).symm
  have l : (w.take k).length = k := by
    rw [List.length_take, C.l]
    have := C.kl
    omega
  rw [show wn ns w d = wn ns (w.take k ++ w.drop k) d by rw [← e], wn_app d (by omega)]
theorem rest_core {ns w : List Int} {k : Nat} (C : RestCx ns w k) {r : Row} (o : RowOk ns r) (hk : k < r.d) :
    let R := restRow ns k (wn ns w k) r
    pd (ns.drop k) R.d = pd ns r.d / pd ns k ∧ 0 ≤ R.f ∧ R.f < pd (ns.drop k) R.d ∧ 0 ≤ R.c ∧ R.c ≤ r.c ∧
      (0 < R.c → rowT ns r (wn ns w r.d) = rowT (ns.drop k) R (wn (ns.drop k) (w.drop k) R.d)) ∧ (¬ 0 < R.c → rowT ns r (wn ns w r.d) = 0) := by
  intro R
  have dn := o.dn
  have hd : k + (r.d - k) = r.d := by omega
  have ed : R.d = r.d - k := rfl
  have p0 := C.h.pos k
  have q0 := C.h.pos r.d
  have hk2 := C.kl
  have Sd := C.h.drop k hk2
  have L0 := Sd.pos (r.d - k)
  have eq : pd ns r.d = pd ns k * pd (ns.drop k) (r.d - k) := by
    have := pd_drop ns k (r.d - k)
    rwa [hd] at this
  have eL : pd ns r.d / pd ns k = pd (ns.drop k) (r.d - k) := by
    rw [eq, Int.mul_ediv_cancel_left _ (by omega)]
  have Lq : pd (ns.drop k) (r.d - k) ≤ pd ns r.d := by
    rw [eq]
    have := Int.mul_le_mul_of_nonneg_right p0 (show 0 ≤ pd (ns.drop k) (r.d - k) by omega)
    omega
  have yb := wn_bound Sd.two (C.c.drop k) (r.d - k) (by rw [List.length_drop, C.l]; omega)
  have ex : wn ns w r.d = wn ns w k * pd (ns.drop k) (r.d - k) + wn (ns.drop k) (w.drop k) (r.d - k) := by
    have := wn_drop ns w k (r.d - k) (by omega)
    rwa [hd] at this
  have ef : R.f = if (r.f - wn ns w k * (pd ns r.d / pd ns k)) % pd ns r.d < pd ns r.d / pd ns k then (r.f - wn ns w k * (pd ns r.d / pd ns k)) % pd ns r.d else 0 := rfl
  have ec : R.c = clim (pd ns r.d) r (wn ns w k * (pd ns r.d / pd ns k)) (pd ns r.d / pd ns k) := rfl
  rw [ed, ef, ec, eL, ex]
  unfold rowT
  rw [ed, ef, ec, eL]
  unfold clim
  have m0 := Int.emod_nonneg r.c (show pd ns r.d ≠ 0 by omega)
  have m1 := Int.emod_lt_of_pos r.c (show 0 < pd ns r.d by omega)
  have dm := Int.ediv_mul_add_emod r.c (pd ns r.d)
  have t0 : 0 ≤ r.c / pd ns r.d := Int.ediv_nonneg (by have := o.c1; omega) (by omega)
  generalize wn (ns.drop k) (w.drop k) (r.d - k) = y at *
  generalize pd (ns.drop k) (r.d - k) = L at *
  generalize wn ns w k * L = b at *
  generalize hq : pd ns r.d = q at *
  generalize hm : r.c % q = m at *
  generalize ht : r.c / q = t at *
  have s0 := Int.emod_nonneg (b - r.f) (show q ≠ 0 by omega)
  have s1 := Int.emod_lt_of_pos (b - r.f) (show 0 < q by omega)
  have en : (r.f - b) % q = if (b - r.f) % q = 0 then 0 else q - (b - r.f) % q := by
    have := emod_neg (a := b - r.f) (show 0 < q by omega)
    rwa [Int.neg_sub] at this
  have exf : (b + y - r.f) % q = if (b - r.f) % q + y < q then (b - r.f) % q + y else (b - r.f) % q + y - q := by
    rw [← emod_wrap (by omega) (by omega), Int.emod_add_emod]
    congr 1
    omega
  rw [exf]
  generalize (b - r.f) % q = s at *
  generalize hfp : (if (r.f - b) % q < L then (r.f - b) % q else 0) = fp at *
  rw [en] at hfp
  generalize hi : max 0 (min m (s + L) - s) + max 0 (min m (s + L - q)) = i at *
  obtain ⟨i0, iL, im, f0, f1, iff⟩ := window (q := q) (L := L) (m := m) (s := s) (y := y) (by omega) Lq m0 m1 s0 s1 yb.1 yb.2 hi.symm rfl hfp.symm
  have tL : 0 ≤ t * L := Int.mul_nonneg t0 (by omega)
  have tq : t * L ≤ t * q := Int.mul_le_mul_of_nonneg_left Lq t0
  refine ⟨rfl, f0, f1, by omega, by omega, fun hc => ?_, fun hc => ?_⟩
  · have em : (y - fp) % L = if fp ≤ y then y - fp else y - fp + L := by
      rw [emod_wrapN (by omega) (by omega)]
      by_cases z : fp ≤ y
      · rw [if_pos z, if_pos (by omega)]
      · rw [if_neg z, if_neg (by omega)]
    rw [em]
    by_cases z : i = L
    · rw [if_pos (iff.mpr (.inl z)), z]
      have e2 : t * L + L = (t + 1) * L := by rw [Int.add_mul, Int.one_mul]
      rw [e2, Int.mul_ediv_cancel _ (by omega), Int.mul_emod_left, if_neg (by split <;> omega)]
      omega
    · have d1 : (t * L + i) / L = t := by
        rw [Int.add_comm, Int.add_mul_ediv_right _ _ (by omega), Int.ediv_eq_zero_of_lt i0 (by omega), Int.zero_add]
      have d2 : (t * L + i) % L = i := by
        rw [Int.add_comm, Int.add_mul_emod_self_right]
        exact Int.emod_eq_of_lt i0 (by omega)
      rw [d1, d2]
      by_cases c : (if fp ≤ y then y - fp else y - fp + L) < i
      · rw [if_pos (iff.mpr (.inr ⟨by omega, c⟩)), if_pos c]
      · rw [if_neg c, if_neg fun hh => ?_]
        rcases iff.mp hh with u | u
        · exact z u
        · exact c u.2
  · have z1 : t * L = 0 := by omega
    have z2 : i = 0 := by omega
    have z3 : t = 0 := by
      rcases Int.mul_eq_zero.mp z1 with u | u
      · exact u
      · omega
    rw [z3, if_neg fun hh => ?_]
    · rfl
    · rcases iff.mp hh with u | u
      · omega
      · rw [z2] at u
        have := u.2
        split at this <;> omega
theorem rest_row {ns w : List Int} {k : Nat} (C : RestCx ns w k) {r : Row} (o : RowOk ns r) :
    covT ns w r = covT ns (w.take k) r + match restF ns k (wn ns (w.take k) k) r with
      | none => 0
      | some r' => covT (ns.drop k) (w.drop k) r' := by
  have tl : (w.take k).length = k := by
    rw [List.length_take, C.l]
    have := C.kl
    omega
  have dn := o.dn
  have cl := C.l
  unfold covT
  rw [if_pos (show r.d ≤ w.length by omega), tl, C.num]
  by_cases hk : k < r.d
  · rw [if_neg (show ¬ r.d ≤ k by omega), Int.zero_add]
    obtain ⟨h1, h2, h3, h4, h5, h6, h7⟩ := rest_core C o hk
    by_cases hc : 0 < (restRow ns k (wn ns w k) r).c
    · have e : restF ns k (wn ns w k) r = some (restRow ns k (wn ns w k) r) := if_pos ⟨hk, hc⟩
      rw [e, h6 hc]
      dsimp only
      rw [if_pos (show (restRow ns k (wn ns w k) r).d ≤ (w.drop k).length by rw [List.length_drop]; show r.d - k ≤ _; omega)]
    · have e : restF ns k (wn ns w k) r = none := if_neg fun z => hc z.2
      rw [e, h7 hc]
  · have e : restF ns k (wn ns w k) r = none := if_neg fun z => hk z.1
    rw [if_pos (show r.d ≤ k by omega), C.same (show r.d ≤ k by omega), e]
    simp
theorem sum_filterMap {α β : Type} (F : α → Option β) (g : β → Int) (xs : List α) : ((xs.filterMap F).map g).sum = (xs.map fun x => match F x with | none => 0 | some y => g y).sum := by
  induction xs with
  | nil => rfl
  | cons a r ih =>
    cases e : F a with
    | none =>
      rw [List.filterMap_cons_none e, List.map_cons, List.sum_cons, ih, e]
      simp
    | some y =>
      rw [List.filterMap_cons_some e, List.map_cons, List.sum_cons, List.map_cons, List.sum_cons, ih, e]
theorem rest_cov {ns w : List Int} {k : Nat} (C : RestCx ns w k) {rs : List Row} (ho : ∀ r ∈ rs, RowOk ns r) :
    cov ns rs w = cov ns rs (w.take k) + cov (ns.drop k) (restR ns rs (w.take k)) (w.drop k) := by
  have tl : (w.take k).length = k := by
    rw [List.length_take, C.l]
    have := C.kl
    omega
  unfold cov restR
  rw [sum_filterMap, ← sum_map_add, tl]
  refine sum_map_congr fun r hr => ?_
  rw [rest_row C (ho r hr)]
  cases restF ns k (wn ns (w.take k) k) r <;> rfl
theorem rest_plan {ns w : List Int} {k : Nat} (C : RestCx ns w k) {rs : List Row} (hp : Plan ns rs) : Plan (ns.drop k) (restR ns rs (w.take k)) := by
  have tl : (w.take k).length = k := by
    rw [List.length_take, C.l]
    have := C.kl
    omega
  refine ⟨Nat.le_trans (List.length_filterMap_le _ _) hp.1, fun r' hr' => ?_⟩
  obtain ⟨r, hr, e⟩ := List.mem_filterMap.mp hr'
  have o := hp.2 r hr
  rw [tl, C.num] at e
  unfold restF at e
  split at e
  · rename_i hc
    cases e
    obtain ⟨h1, h2, h3, h4, h5, h6, h7⟩ := rest_core C o hc.1
    have a := hc.1
    have b := hc.2
    have d := o.dn
    have cb := o.cb
    exact ⟨by show 1 ≤ r.d - k; omega, by show r.d - k ≤ (ns.drop k).length; rw [List.length_drop]; omega, h2, h3, by omega, by omega⟩
  · cases e
end M
namespace M
theorem P2_abs2 {i : Int} {a : Nat} (h1 : -P2 a < i) (h2 : i < P2 a) : i.natAbs < 2 ^ a := by
  rw [P2_nat] at h1 h2
  generalize 2 ^ a = k at *
  omega
theorem P2_21 : (20 : Int) * P2 711 < P2 800 := by decide +kernel
theorem P2_711 : P2 710 + 1 ≤ P2 711 := by decide +kernel
theorem row_bound {ns : List Int} (h : Sched ns) {r : Row} (o : RowOk ns r) (x : Int) : 0 ≤ rowT ns r x ∧ rowT ns r x ≤ P2 711 := by
  have q0 := h.pos r.d
  have c1 := o.c1
  have cb := o.cb
  have t0 : 0 ≤ r.c / pd ns r.d := Int.ediv_nonneg (by omega) (by omega)
  have t1 : r.c / pd ns r.d ≤ r.c := Int.ediv_le_self _ (by omega)
  have p := P2_711
  unfold rowT
  split <;> omega
theorem lvl_bound {ns : List Int} (h : Sched ns) {rs : List Row} (hp : Plan ns rs) (p : Int) : 0 ≤ lvl ns rs p ∧ lvl ns rs p < P2 800 := by
  have k : ∀ x ∈ rs.map (fun r => rowT ns r (p / unit ns r)), 0 ≤ x ∧ x ≤ P2 711 := fun x hx => by
    obtain ⟨r, hr, rfl⟩ := List.mem_map.mp hx
    exact row_bound h (hp.2 r hr) _
  refine ⟨sum_nonneg fun x hx => (k x hx).1, ?_⟩
  have b := sum_le fun x hx => (k x hx).2
  rw [List.length_map] at b
  have l := hp.1
  have m : ((rs.length : Nat) : Int) * P2 711 ≤ 20 * P2 711 := Int.mul_le_mul_of_nonneg_right (by omega) (Int.le_of_lt (P2_pos _))
  have q := P2_21
  unfold lvl
  omega
theorem P2_22 : (20 : Int) * (P2 710 * P2 700) < P2 1500 := by decide +kernel
theorem worth_bound {ns : List Int} (h : Sched ns) {rs : List Row} (hp : Plan ns rs) : 0 ≤ worth ns rs ∧ worth ns rs < P2 1500 := by
  have k : ∀ x ∈ rs.map (fun r => r.c * unit ns r), 0 ≤ x ∧ x ≤ P2 710 * P2 700 := fun x hx => by
    obtain ⟨r, hr, rfl⟩ := List.mem_map.mp hx
    have o := hp.2 r hr
    have c1 := o.c1
    have cb := o.cb
    have u0 : 0 < unit ns r := h.ulpos o.dn
    have u1 : unit ns r < P2 700 := h.ulow
    exact ⟨Int.mul_nonneg (by omega) (by omega), Int.mul_le_mul (by omega) (by omega) (by omega) (by have := P2_pos 710; omega)⟩
  refine ⟨sum_nonneg fun x hx => (k x hx).1, ?_⟩
  have b := sum_le fun x hx => (k x hx).2
  rw [List.length_map] at b
  have l := hp.1
  have m : ((rs.length : Nat) : Int) * (P2 710 * P2 700) ≤ 20 * (P2 710 * P2 700) := Int.mul_le_mul_of_nonneg_right (by omega) (Int.mul_nonneg (Int.le_of_lt (P2_pos _)) (Int.le_of_lt (P2_pos _)))
  have q := P2_22
  unfold worth
  omega
def areaL (g : Int → Int) (W : Int) : List Int → List Int
  | [] => []
  | [p] => [(W - p) * g p]
  | p :: q :: r => (q - p) * g p :: areaL g W (q :: r)
theorem areaL_sum (g : Int → Int) (W : Int) : ∀ ps, (areaL g W ps).sum = area g W ps
  | [] => rfl
  | [p] => by simp [areaL, area]
  | p :: q :: r => by
    show ((q - p) * g p :: areaL g W (q :: r)).sum = (q - p) * g p + area g W (q :: r)
    rw [List.sum_cons, areaL_sum g W (q :: r)]
/-- the first row alone, one climber -/
def ones (rs : List Row) : List Row := (rs.take 1).map fun r => { r with c := 1 }
theorem ones_plan {ns : List Int} {rs : List Row} (hp : Plan ns rs) : Plan ns (ones rs) := by
  refine ⟨?_, fun r hr => ?_⟩
  · unfold ones
    rw [List.length_map, List.length_take]
    omega
  · obtain ⟨s, hs, rfl⟩ := List.mem_map.mp hr
    have o := hp.2 s (List.mem_of_mem_take hs)
    exact ⟨o.d1, o.dn, o.f0, o.f1, Int.le_refl _, by show (1 : Int) < P2 710; decide +kernel⟩
theorem ones_lvl {ns : List Int} (h : Sched ns) {rs : List Row} (hp : Plan ns rs) (p : Int) : lvl ns (ones rs) p ≤ 1 := by
  cases rs with
  | nil =>
    show (0 : Int) ≤ 1
    decide
  | cons r s =>
    show (((ones (r :: s)).map fun r => rowT ns r (p / unit ns r)).sum) ≤ 1
    have e : ones (r :: s) = [{ r with c := 1 }] := rfl
    rw [e]
    simp only [List.map_cons, List.map_nil, List.sum_cons, List.sum_nil, Int.add_zero]
    have o := hp.2 r List.mem_cons_self
    have d1 := o.d1
    have dn := o.dn
    have q2 : 2 ≤ pd ns r.d := by
      have e1 : ns[0]? = some ns[0] := List.getElem?_eq_getElem (by omega)
      have n2 := h.two _ (List.mem_of_getElem? e1)
      have e2 : pd ns 1 = pd ns 0 * ns[0] := pd_succ e1
      have e3 : pd ns 0 = 1 := rfl
      have m := pd_mono h.two d1
      rw [e2, e3, Int.one_mul] at m
      omega
    unfold rowT
    dsimp only
    rw [Int.ediv_eq_zero_of_lt (by decide) (by omega)]
    split <;> decide
end M
namespace D
open PySem PySem.Spec PyProof.Rows L2
def Le (H H' : Hp) : Prop := ∀ a o, H a = some o → H' a = some o
theorem Le.refl (H : Hp) : Le H H := fun _ _ h => h
theorem Le.trans {H H1 H2 : Hp} (a : Le H H1) (b : Le H1 H2) : Le H H2 := fun x o h => b x o (a x o h)
theorem Le.new {H : Hp} {p : Addr} {o : HO} (h : H p = none) : Le H (upd H p o) := fun a u e => by
  rw [upd_ne (ne_of_none e h)]
  exact e
theorem Le.none {H H' : Hp} {p : Addr} (e : Le H H') (h : H' p = none) : H p = none := by
  cases q : H p with
  | none => rfl
  | some o =>
    have z := e p o q
    rw [h] at z
    cases z
theorem Le.rd {H H' : Hp} {a : Addr} {u : HO} (e : Le H H') (h : Rd H a u) : Rd H' a u := by
  rcases h with h | ⟨o, h⟩
  · exact Or.inl (e a _ h)
  · exact Or.inr ⟨o, e a _ h⟩
theorem Le.l {K : PySem.W.Frag} {H H' : Hp} {a : Addr} {xs : List V} (e : Le H H') (h : SqL K H a xs) : SqL K H' a xs := by
  rcases h with h | h
  · exact Or.inl (e.rd h)
  · exact Or.inr h
theorem Le.t {K : PySem.W.Frag} {H H' : Hp} {a : Addr} {xs : List V} (e : Le H H') (h : SqT K H a xs) : SqT K H' a xs := by
  rcases h with h | h
  · exact Or.inl (e.rd h)
  · exact Or.inr h
open Classical in
noncomputable def hide (S : Addr → Prop) (H : Hp) : Hp := fun b => if S b then Option.none else H b
theorem hide_in {S : Addr → Prop} {H : Hp} {b : Addr} (h : S b) : hide S H b = Option.none := by
  unfold hide
  rw [if_pos h]
theorem hide_out {S : Addr → Prop} {H : Hp} {b : Addr} (h : ¬ S b) : hide S H b = H b := by
  unfold hide
  rw [if_neg h]
theorem hide_some {S : Addr → Prop} {H : Hp} {b : Addr} {o : HO} (h : hide S H b = some o) : ¬ S b ∧ H b = some o := by
  by_cases q : S b
  · rw [hide_in q] at h
    cases h
  · rw [hide_out q] at h
    exact ⟨q, h⟩
theorem hide_le (S : Addr → Prop) (H : Hp) : Le (hide S H) H := fun _ _ h => (hide_some h).2
theorem hide_mono {S T : Addr → Prop} {H H' : Hp} (e : Le H H') (h : ∀ b o, H b = some o → ¬ S b → ¬ T b) : Le (hide S H) (hide T H') := fun b o q => by
  obtain ⟨q1, q2⟩ := hide_some q
  rw [hide_out (h b o q2 q1)]
  exact e b o q2
mutual
theorem dp_mono {K : PySem.W.Frag} {H H' : Hp} (e : Le H H') : ∀ {v : V} {d : PyData}, Dp K H v d → Dp K H' v d
  | _, _, .non => .non
  | _, _, .bl b => .bl b
  | _, _, .int i => .int i
  | _, _, .str x => .str x
  | _, _, .lst hs ha => .lst (e.l hs) (dpa_mono e ha)
  | _, _, .tup hs ha => .tup (e.t hs) (dpa_mono e ha)
theorem dpa_mono {K : PySem.W.Frag} {H H' : Hp} (e : Le H H') : ∀ {vs : List V} {ds : List PyData}, DpAll K H vs ds → DpAll K H' vs ds
  | _, _, .nil => .nil
  | _, _, .cons h t => .cons (dp_mono e h) (dpa_mono e t)
end
section
variable {K : PySem.W.Frag} {H : Hp}
theorem dpa_len : ∀ {vs : List V} {ds : List PyData}, DpAll K H vs ds → vs.length = ds.length
  | _, _, .nil => rfl
  | _, _, .cons _ t => by rw [List.length_cons, List.length_cons, dpa_len t]
theorem dpa_get : ∀ {vs : List V} {ds : List PyData} {i : Nat} {d : PyData}, DpAll K H vs ds → ds[i]? = some d → ∃ v, vs[i]? = some v ∧ Dp K H v d
  | _, _, 0, _, .cons h _, e => by
    simp at e
    subst e
    exact ⟨_, rfl, h⟩
  | _, _, i + 1, d, .cons _ t, e => dpa_get (i := i) t (by simpa using e)
  | _, _, _, _, .nil, e => by simp at e
theorem dpa_getV : ∀ {vs : List V} {ds : List PyData} {i : Nat} {v : V}, DpAll K H vs ds → vs[i]? = some v → ∃ d, ds[i]? = some d ∧ Dp K H v d
  | _, _, 0, _, .cons h _, e => by
    simp at e
    subst e
    exact ⟨_, rfl, h⟩
  | _, _, i + 1, d, .cons _ t, e => dpa_getV (i := i) t (by simpa using e)
  | _, _, _, _, .nil, e => by simp at e
theorem dpa_append : ∀ {vs ws : List V} {ds es : List PyData}, DpAll K H vs ds → DpAll K H ws es → DpAll K H (vs ++ ws) (ds ++ es)
  | _, _, _, _, .nil, s => s
  | _, _, _, _, .cons h t, s => .cons h (dpa_append t s)
theorem dpa_take : ∀ {vs : List V} {ds : List PyData} (n : Nat), DpAll K H vs ds → DpAll K H (vs.take n) (ds.take n)
  | _, _, 0, _ => .nil
  | _, _, _ + 1, .nil => .nil
  | _, _, n + 1, .cons h t => .cons h (dpa_take n t)
theorem dpa_drop : ∀ {vs : List V} {ds : List PyData} (n : Nat), DpAll K H vs ds → DpAll K H (vs.drop n) (ds.drop n)
  | _, _, 0, h => h
  | _, _, _ + 1, .nil => .nil
  | _, _, n + 1, .cons _ t => dpa_drop n t
theorem dpa_reverse : ∀ {vs : List V} {ds : List PyData}, DpAll K H vs ds → DpAll K H vs.reverse ds.reverse
  | _, _, .nil => .nil
  | _, _, .cons h t => by
    rw [List.reverse_cons, List.reverse_cons]
    exact dpa_append (dpa_reverse t) (.cons h .nil)
theorem dpa_set : ∀ {vs : List V} {ds : List PyData} (i : Nat) {v : V} {d : PyData}, DpAll K H vs ds → Dp K H v d → DpAll K H (vs.set i v) (ds.set i d)
  | _, _, _, _, _, .nil, _ => .nil
  | _, _, 0, _, _, .cons _ t, q => .cons q t
  | _, _, i + 1, _, _, .cons h t, q => .cons h (dpa_set i t q)
theorem dpa_rep {v : V} {d : PyData} (h : Dp K H v d) : ∀ n : Nat, DpAll K H (List.replicate n v) (List.replicate n d)
  | 0 => .nil
  | n + 1 => by
    rw [List.replicate_succ, List.replicate_succ]
    exact .cons h (dpa_rep h n)
theorem dp_int {v : V} {i : Int} (h : Dp K H v (.int i)) : v = .int i := by
  cases h
  rfl
theorem dp_bl {v : V} {i : Bool} (h : Dp K H v (.bool i)) : v = .bl i := by
  cases h
  rfl
theorem dp_non {v : V} (h : Dp K H v .none) : v = .non := by
  cases h
  rfl
theorem dp_list {v : V} {ds : List PyData} (h : Dp K H v (.list ds)) : ∃ a xs, v = .ref a ∧ SqL K H a xs ∧ DpAll K H xs ds := by
  cases h with
  | lst h1 h2 => exact ⟨_, _, rfl, h1, h2⟩
theorem dp_tup {v : V} {ds : List PyData} (h : Dp K H v (.tuple ds)) : ∃ a xs, v = .ref a ∧ SqT K H a xs ∧ DpAll K H xs ds := by
  cases h with
  | tup h1 h2 => exact ⟨_, _, rfl, h1, h2⟩
/-- a list of ints as data -/
abbrev di (ns : List Int) : List PyData := ns.map PyData.int
theorem dpa_ints : ∀ {ns : List Int} {vs : List V}, DpAll K H vs (di ns) → vs = ns.map V.int
  | [], _, h => by
    cases h
    rfl
  | n :: r, _, h => by
    cases h with
    | cons h t =>
      rw [dp_int h, dpa_ints t]
      rfl
theorem dpa_ofInts : ∀ ns : List Int, DpAll K H (ns.map V.int) (di ns)
  | [] => .nil
  | n :: r => .cons (.int n) (dpa_ofInts r)
theorem dpa_bools : ∀ {bs : List Bool} {vs : List V}, DpAll K H vs (bs.map PyData.bool) → vs = bs.map V.bl
  | [], _, h => by
    cases h
    rfl
  | n :: r, _, h => by
    cases h with
    | cons h t =>
      rw [dp_bl h, dpa_bools t]
      rfl
end
/-- what a slot holds: unknown, data, the address of an object that changes -/
inductive Sl where
  | no | dat (d : PyData) | adr (p : Addr)
/-- an object that changes -/
inductive MO where
  | lst (ds : List PyData) | dct (kvs : List (Key × V))
abbrev MS := List (Addr × MO)
def VOk (K : PySem.W.Frag) (Hm : Hp) (v : V) : Sl → Prop
  | .no => True
  | .dat d => Dp K Hm v d
  | .adr p => v = .ref p
theorem VOk.mono {K : PySem.W.Frag} {H H' : Hp} {v : V} {s : Sl} (e : Le H H') (h : VOk K H v s) : VOk K H' v s := by
  cases s with
  | no => trivial
  | dat d => exact dp_mono e h
  | adr p => exact h
def SlOk (K : PySem.W.Frag) (Hm : Hp) (o : Option (Option V)) : Sl → Prop
  | .no => True
  | .dat d => ∃ v, o = some (some v) ∧ Dp K Hm v d
  | .adr p => o = some (some (.ref p))
theorem SlOk.mono {K : PySem.W.Frag} {H H' : Hp} {v : Option (Option V)} {s : Sl} (e : Le H H') (h : SlOk K H v s) : SlOk K H' v s := by
  cases s with
  | no => trivial
  | dat d =>
    obtain ⟨v, h1, h2⟩ := h
    exact ⟨v, h1, dp_mono e h2⟩
  | adr p => exact h
theorem VOk.sl {K : PySem.W.Frag} {H : Hp} {v : V} {s : Sl} (h : VOk K H v s) : SlOk K H (some (some v)) s := by
  cases s with
  | no => trivial
  | dat d => exact ⟨v, rfl, h⟩
  | adr p =>
    have e : v = .ref p := h
    subst e
    rfl
def MOk (K : PySem.W.Frag) (Hm : Hp) (o : Option HO) : MO → Prop
  | .lst ds => ∃ xs, o = some (.lst xs) ∧ DpAll K Hm xs ds
  | .dct kvs => o = some (.dK kvs)
theorem MOk.mono {K : PySem.W.Frag} {H H' : Hp} {o : Option HO} {m : MO} (e : Le H H') (h : MOk K H o m) : MOk K H' o m := by
  cases m with
  | lst ds =>
    obtain ⟨xs, h1, h2⟩ := h
    exact ⟨xs, h1, dpa_mono e h2⟩
  | dct k => exact h
theorem MOk.some {K : PySem.W.Frag} {H : Hp} {o : Option HO} {m : MO} (h : MOk K H o m) : ∃ u, o = some u ∧ Mut (some u) := by
  cases m with
  | lst ds =>
    obtain ⟨xs, h1, h2⟩ := h
    exact ⟨_, h1, trivial⟩
  | dct k => exact ⟨_, h, trivial⟩
/-- the addresses of M -/
abbrev ad (M : MS) : List Addr := M.map (·.1)
/-- the heap of what does not change -/
noncomputable def hm (S : Addr → Prop) (M : MS) (H : Hp) : Hp := hide (fun b => S b ∨ b ∈ ad M) H
structure Sta (K : PySem.W.Frag) (S : Addr → Prop) (H0 : Hp) (M : MS) (ρ : List Sl) (σ : L2.St) (H : Hp) : Prop where
  ex : Le H0 H
  fr : ∀ p ∈ ad M, H0 p = none
  sd : ∀ b, S b → H b ≠ none
  sm : ∀ p ∈ ad M, ¬ S p
  nd : (ad M).Nodup
  len : σ.length = ρ.length
  env : ∀ (i : Nat) s, ρ[i]? = some s → SlOk K (hm S M H) (σ[i]?) s
  obs : ∀ q ∈ M, MOk K (hm S M H) (H q.1) q.2
section
variable {K : PySem.W.Frag} {S : Addr → Prop} {H0 H H' : Hp} {M M' : MS} {ρ ρ' : List Sl} {σ : L2.St}
theorem hm_some {b : Addr} {o : HO} (h : hm S M H b = some o) : ¬ S b ∧ b ∉ ad M ∧ H b = some o := by
  obtain ⟨h1, h2⟩ := hide_some h
  exact ⟨fun z => h1 (.inl z), fun z => h1 (.inr z), h2⟩
theorem hm_at {b : Addr} (h1 : ¬ S b) (h2 : b ∉ ad M) : hm S M H b = H b := hide_out fun z => z.elim h1 h2
theorem hm_le : Le (hm S M H) H := hide_le _ _
theorem hm_leS : Le (hm S M H) (hide S H) := fun b o h => by
  obtain ⟨h1, h2, h3⟩ := hm_some h
  rw [hide_out h1]
  exact h3
theorem hm_mono (e : Le H H') : Le (hm S M H) (hm S M H') := hide_mono e fun _ _ _ h => h
theorem hm_monoM (e : Le H H') (h : ∀ b o, H b = some o → b ∉ ad M → b ∉ ad M') : Le (hm S M H) (hm S M' H') := hide_mono e fun b o q n z => by
  rcases z with z | z
  · exact n (.inl z)
  · exact n (.inr (Classical.byContradiction fun w => h b o q w z))
theorem Sta.tracked (s : Sta K S H0 M ρ σ H) {p : Addr} (h : p ∈ ad M) : H p ≠ none := fun z => by
  obtain ⟨q, hq, e⟩ := List.mem_map.mp h
  obtain ⟨u, hu, _⟩ := (s.obs q hq).some
  rw [e, z] at hu
  cases hu
/-- the heap grows -/
theorem Sta.grow (s : Sta K S H0 M ρ σ H) (e : Le H H') : Sta K S H0 M ρ σ H' where
  ex := s.ex.trans e
  fr := s.fr
  sd := fun b hb => by
    cases q : H b with
    | none => exact absurd q (s.sd b hb)
    | some o =>
      rw [e b o q]
      exact fun z => nomatch z
  sm := s.sm
  nd := s.nd
  len := s.len
  env := fun i x hx => (s.env i x hx).mono (hm_mono e)
  obs := fun q hq => by
    have m := (s.obs q hq).mono (hm_mono (S := S) (M := M) e)
    obtain ⟨u, hu, _⟩ := (s.obs q hq).some
    rw [hu] at m
    rw [e q.1 u hu]
    exact m
theorem Sta.new_out (s : Sta K S H0 M ρ σ H) {p : Addr} (h : H p = none) : ¬ S p ∧ p ∉ ad M := ⟨fun z => s.sd p z h, fun z => s.tracked z h⟩
/-- a new object -/
theorem Sta.new (s : Sta K S H0 M ρ σ H) {p : Addr} {o : HO} (h : H p = none) : Sta K S H0 M ρ σ (upd H p o) ∧ Le (hm S M H) (hm S M (upd H p o)) ∧ hm S M (upd H p o) p = some o := by
  obtain ⟨h1, h2⟩ := s.new_out h
  refine ⟨s.grow (.new h), hm_mono (.new h), ?_⟩
  rw [hm_at h1 h2, upd_same]
/-- the base may be raised, lowered -/
theorem Sta.lower {H0' : Hp} (s : Sta K S H0' M ρ σ H) (e : Le H0 H0') : Sta K S H0 M ρ σ H := { s with
  ex := e.trans s.ex
  fr := fun p hp => e.none (s.fr p hp) }
noncomputable def base (M : MS) (H : Hp) : Hp := hide (fun b => b ∈ ad M) H
theorem Sta.raise (s : Sta K S H0 M ρ σ H) : Sta K S (base M H) M ρ σ H ∧ Le H0 (base M H) ∧ Le (hm S M H) (base M H) := by
  refine ⟨{ s with ex := hide_le _ _, fr := fun p hp => hide_in hp }, fun b o h => ?_, fun b o h => ?_⟩
  · unfold base
    rw [hide_out fun z => by rw [s.fr b z] at h; cases h]
    exact s.ex b o h
  · obtain ⟨h1, h2, h3⟩ := hm_some h
    unfold base
    rw [hide_out h2]
    exact h3
/-- what stood at the base and is not S's still stands among what does not change -/
theorem Sta.keeps {B : Hp} (s : Sta K S H0 M ρ σ H) (e : Le B H0) (h : ∀ b o, B b = some o → ¬ S b) : Le B (hm S M H) := fun b o q => by
  rw [hm_at (h b o q) fun z => by
    have w := s.fr b z
    rw [e b o q] at w
    cases w]
  exact s.ex b o (e b o q)
theorem Sta.set (s : Sta K S H0 M ρ σ H) {i : Nat} {v : V} {x : Sl} (h : VOk K (hm S M H) v x) : Sta K S H0 M (ρ.set i x) (σ.set i (some v)) H := { s with
  len := by rw [List.length_set, List.length_set, s.len]
  env := fun j y hy => by
    by_cases e : i = j
    · subst e
      by_cases hl : i < ρ.length
      · rw [List.getElem?_set_self hl] at hy
        cases hy
        rw [List.getElem?_set_self (by rw [s.len]; exact hl)]
        exact h.sl
      · rw [List.getElem?_eq_none (by rw [List.length_set]; omega)] at hy
        cases hy
    · rw [List.getElem?_set_ne e] at hy
      rw [List.getElem?_set_ne e]
      exact s.env j y hy }
/-- ρ' says less -/
def Weak (ρ ρ' : List Sl) : Prop := ρ.length = ρ'.length ∧ ∀ (i : Nat) s, ρ'[i]? = some s → s = .no ∨ ρ[i]? = some s
theorem Weak.refl (ρ : List Sl) : Weak ρ ρ := ⟨rfl, fun _ _ h => .inr h⟩
theorem Weak.nil : Weak [] [] := .refl _
theorem Weak.no {ρ ρ' : List Sl} {s : Sl} (h : Weak ρ ρ') : Weak (s :: ρ) (.no :: ρ') := ⟨by rw [List.length_cons, List.length_cons, h.1], fun i x e => by
  cases i with
  | zero =>
    simp at e
    exact .inl e.symm
  | succ i => exact h.2 i x (by simpa using e)⟩
theorem Weak.cons {ρ ρ' : List Sl} {s : Sl} (h : Weak ρ ρ') : Weak (s :: ρ) (s :: ρ') := ⟨by rw [List.length_cons, List.length_cons, h.1], fun i x e => by
  cases i with
  | zero => exact .inr e
  | succ i => exact h.2 i x (by simpa using e)⟩
theorem Sta.weak (s : Sta K S H0 M ρ σ H) (h : Weak ρ ρ') : Sta K S H0 M ρ' σ H := { s with
  len := s.len.trans h.1
  env := fun i x e => by
    rcases h.2 i x e with q | q
    · subst q
      trivial
    · exact s.env i x q }
/-- the object at k of M is told anew -/
theorem Sta.put (s : Sta K S H0 M ρ σ H) {k : Nat} {p : Addr} {m m' : MO} {o : HO} (hk : M[k]? = some (p, m)) (h : MOk K (hm S M H) (some o) m') : Sta K S H0 (M.set k (p, m')) ρ σ (upd H p o) ∧ Le (hm S M H) (hm S (M.set k (p, m')) (upd H p o)) := by
  have hkl : k < M.length := (List.getElem?_eq_some_iff.mp hk).1
  have ea : ad (M.set k (p, m')) = ad M := by
    unfold ad
    rw [List.map_set]
    refine List.ext_getElem? fun j => ?_
    by_cases e : k = j
    · subst e
      rw [List.getElem?_set_self (by rw [List.length_map]; exact hkl), List.getElem?_map, hk]
      rfl
    · rw [List.getElem?_set_ne e]
  have hp : p ∈ ad M := List.mem_map.mpr ⟨(p, m), List.mem_of_getElem? hk, rfl⟩
  have el : Le (hm S M H) (hm S (M.set k (p, m')) (upd H p o)) := fun b u q => by
    obtain ⟨h1, h2, h3⟩ := hm_some q
    have nb : b ≠ p := fun z => h2 (by rw [z]; exact hp)
    rw [hm_at h1 (by rw [ea]; exact h2), upd_ne nb]
    exact h3
  refine ⟨⟨fun b u q => ?_, by rw [ea]; exact s.fr, fun b hb => ?_, by rw [ea]; exact s.sm, by rw [ea]; exact s.nd, s.len, fun i x e => (s.env i x e).mono el, fun q hq => ?_⟩, el⟩
  · have nb : b ≠ p := fun z => by
      rw [z, s.fr p hp] at q
      cases q
    rw [upd_ne nb]
    exact s.ex b u q
  · have nb : b ≠ p := fun z => s.sm p hp (by rw [← z]; exact hb)
    rw [upd_ne nb]
    exact s.sd b hb
  · obtain ⟨j, hj, e⟩ := List.getElem_of_mem hq
    by_cases ej : k = j
    · subst ej
      rw [List.getElem_set_self] at e
      subst e
      show MOk K _ (upd H p o p) m'
      rw [upd_same]
      exact h.mono el
    · rw [List.getElem_set_ne ej] at e
      rw [List.length_set] at hj
      have hq' : q ∈ M := by
        rw [← e]
        exact List.getElem_mem hj
      have nb : q.1 ≠ p := fun z => by
        have e1 : (ad M)[j]? = some p := by
          rw [List.getElem?_map, List.getElem?_eq_getElem hj, e, ← z]
          rfl
        have e2 : (ad M)[k]? = some p := by
          rw [List.getElem?_map, hk]
          rfl
        exact ej (nd_ix s.nd e2 e1)
      rw [upd_ne nb]
      exact (s.obs q hq').mono el
/-- a new object that will change -/
theorem Sta.own (s : Sta K S H0 M ρ σ H) {p : Addr} {m : MO} {o : HO} (hp : H p = none) (h : MOk K (hm S M H) (some o) m) : Sta K S H0 ((p, m) :: M) ρ σ (upd H p o) ∧ Le (hm S M H) (hm S ((p, m) :: M) (upd H p o)) := by
  obtain ⟨n1, n2⟩ := s.new_out hp
  have el : Le (hm S M H) (hm S ((p, m) :: M) (upd H p o)) := fun b u q => by
    obtain ⟨h1, h2, h3⟩ := hm_some q
    have nb : b ≠ p := ne_of_none h3 hp
    rw [hm_at h1 (by
      intro z
      rcases List.mem_cons.mp z with z | z
      · exact nb z
      · exact h2 z), upd_ne nb]
    exact h3
  have g := s.grow (.new (o := o) hp)
  refine ⟨⟨g.ex, fun q hq => ?_, g.sd, fun q hq => ?_, List.nodup_cons.mpr ⟨n2, s.nd⟩, s.len, fun i x e => (s.env i x e).mono el, fun q hq => ?_⟩, el⟩
  · rcases List.mem_cons.mp hq with z | z
    · rw [z]
      exact s.ex.none hp
    · exact s.fr q z
  · rcases List.mem_cons.mp hq with z | z
    · rw [z]
      exact n1
    · exact s.sm q z
  · rcases List.mem_cons.mp hq with z | z
    · subst z
      show MOk K _ (upd H p o p) m
      rw [upd_same]
      exact h.mono el
    · have nb : q.1 ≠ p := fun w => s.tracked (List.mem_map.mpr ⟨q, z, rfl⟩) (by rw [w]; exact hp)
      rw [upd_ne nb]
      exact (s.obs q z).mono el
/-- an object is forgotten: it changes no more -/
theorem Sta.drop (s : Sta K S H0 M ρ σ H) (k : Nat) : Sta K S H0 (M.eraseIdx k) ρ σ H ∧ Le (hm S M H) (hm S (M.eraseIdx k) H) := by
  have sub : ∀ b, b ∈ ad (M.eraseIdx k) → b ∈ ad M := fun b hb => by
    obtain ⟨q, hq, e⟩ := List.mem_map.mp hb
    exact List.mem_map.mpr ⟨q, List.mem_of_mem_eraseIdx hq, e⟩
  have el : Le (hm S M H) (hm S (M.eraseIdx k) H) := hm_monoM (.refl _) fun b o _ hb z => hb (sub b z)
  refine ⟨⟨s.ex, fun p hp => s.fr p (sub p hp), s.sd, fun p hp => s.sm p (sub p hp), ?_, s.len, fun i x e => (s.env i x e).mono el, fun q hq => (s.obs q (List.mem_of_mem_eraseIdx hq)).mono el⟩, el⟩
  exact List.Nodup.sublist ((List.eraseIdx_sublist M k).map _) s.nd
/-- .. and stands as data in the slot that held its address -/
theorem Sta.freeze (s : Sta K S H0 M ρ σ H) {k i : Nat} {p : Addr} {ds : List PyData} (hk : M[k]? = some (p, .lst ds)) (hi : ρ[i]? = some (.adr p)) : Sta K S H0 (M.eraseIdx k) (ρ.set i (.dat (.list ds))) σ H ∧ Le (hm S M H) (hm S (M.eraseIdx k) H) := by
  obtain ⟨g, el⟩ := s.drop k
  have hkl : k < M.length := (List.getElem?_eq_some_iff.mp hk).1
  have hp : p ∈ ad M := List.mem_map.mpr ⟨(p, .lst ds), List.mem_of_getElem? hk, rfl⟩
  have np : p ∉ ad (M.eraseIdx k) := fun z => by
    have e : ad (M.eraseIdx k) = (ad M).eraseIdx k := by
      refine List.ext_getElem? fun j => ?_
      rw [List.getElem?_map, List.getElem?_eraseIdx, List.getElem?_eraseIdx]
      split <;> rw [List.getElem?_map]
    rw [e] at z
    obtain ⟨j, hj⟩ := List.mem_iff_getElem?.mp z
    have e2 : (ad M)[k]? = some p := by
      rw [List.getElem?_map, hk]
      rfl
    rw [List.getElem?_eraseIdx] at hj
    split at hj
    · rename_i hlt
      exact absurd (nd_ix s.nd hj e2) (by omega)
    · rename_i hlt
      exact absurd (nd_ix s.nd hj e2) (by omega)
  obtain ⟨xs, e1, e2⟩ := s.obs _ (List.mem_of_getElem? hk)
  have hsq : SqL K (hm S (M.eraseIdx k) H) p xs := SqL.of (by rw [hm_at (s.sm p hp) np]; exact e1)
  have hd : Dp K (hm S (M.eraseIdx k) H) (.ref p) (.list ds) := .lst hsq (dpa_mono el e2)
  refine ⟨{ g with len := ?_, env := fun j y hy => ?_ }, el⟩
  · rw [List.length_set]
    exact s.len
  · by_cases e : i = j
    · subst e
      rw [List.getElem?_set_self (List.getElem?_eq_some_iff.mp hi).1] at hy
      cases hy
      exact ⟨.ref p, s.env i _ hi, hd⟩
    · rw [List.getElem?_set_ne e] at hy
      exact g.env j y hy
end
end D
namespace D
open PySem PySem.Spec PyProof.Rows L2
inductive VAll (K : PySem.W.Frag) (H : Hp) : List V → List Sl → Prop
  | nil : VAll K H [] []
  | cons {v : V} {vs : List V} {s : Sl} {ss : List Sl} : VOk K H v s → VAll K H vs ss → VAll K H (v :: vs) (s :: ss)
theorem VAll.mono {K : PySem.W.Frag} {H H' : Hp} (e : Le H H') : ∀ {vs : List V} {ss : List Sl}, VAll K H vs ss → VAll K H' vs ss
  | _, _, .nil => .nil
  | _, _, .cons h t => .cons (h.mono e) (VAll.mono e t)
theorem VAll.dats {K : PySem.W.Frag} {H : Hp} : ∀ {vs : List V} {ds : List PyData}, VAll K H vs (ds.map Sl.dat) → DpAll K H vs ds
  | _, [], h => by
    cases h
    exact .nil
  | _, d :: ds, h => by
    cases h with
    | cons h t => exact .cons h (VAll.dats t)
/-- what is shown of the end of an evaluation that began at (M, H) -/
def Fin (K : PySem.W.Frag) (S : Addr → Prop) (H0 : Hp) (M : MS) (ρ : List Sl) (σ : L2.St) (H : Hp) (P : MS → Sl → Prop) (Q : VK) : Prop :=
  ∀ M' s v H', P M' s → Sta K S H0 M' ρ σ H' → Le (hm S M H) (hm S M' H') → VOk K (hm S M' H') v s → Q v H'
def FinT (K : PySem.W.Frag) (S : Addr → Prop) (H0 : Hp) (M : MS) (ρ : List Sl) (σ : L2.St) (H : Hp) (P : MS → Bool → Prop) (Q : Bool → Hp → Prop) : Prop :=
  ∀ M' b H', P M' b → Sta K S H0 M' ρ σ H' → Le (hm S M H) (hm S M' H') → Q b H'
def FinA (K : PySem.W.Frag) (S : Addr → Prop) (H0 : Hp) (M : MS) (ρ : List Sl) (σ : L2.St) (H : Hp) (P : MS → List Sl → Prop) (Q : List V → Hp → Prop) : Prop :=
  ∀ M' ss vs H', P M' ss → Sta K S H0 M' ρ σ H' → Le (hm S M H) (hm S M' H') → VAll K (hm S M' H') vs ss → Q vs H'
def Eva (K : PySem.W.Frag) (M : MS) (ρ : List Sl) (te : TE) (P : MS → Sl → Prop) : Prop :=
  ∀ S H0 σ H, Sta K S H0 M ρ σ H → ∀ Q : VK, Fin K S H0 M ρ σ H P Q → te σ H Q
def EvT (K : PySem.W.Frag) (M : MS) (ρ : List Sl) (tt : TT) (P : MS → Bool → Prop) : Prop :=
  ∀ S H0 σ H, Sta K S H0 M ρ σ H → ∀ Q : Bool → Hp → Prop, FinT K S H0 M ρ σ H P Q → tt σ H Q
def EvA (K : PySem.W.Frag) (M : MS) (ρ : List Sl) (ta : TA) (P : MS → List Sl → Prop) : Prop :=
  ∀ S H0 σ H, Sta K S H0 M ρ σ H → ∀ Q : List V → Hp → Prop, FinA K S H0 M ρ σ H P Q → ta σ H Q
def OpD (K : PySem.W.Frag) (M : MS) (ρ : List Sl) (r : R2) (x y : Sl) (P : MS → Sl → Prop) : Prop :=
  ∀ S H0 σ H, Sta K S H0 M ρ σ H → ∀ v w, VOk K (hm S M H) v x → VOk K (hm S M H) w y → ∀ Q : VK, Fin K S H0 M ρ σ H P Q → r v w H Q
def CbD (K : PySem.W.Frag) (M : MS) (ρ : List Sl) (r : List V → Hp → VK → Prop) (ss : List Sl) (P : MS → Sl → Prop) : Prop :=
  ∀ S H0 σ H, Sta K S H0 M ρ σ H → ∀ vs, VAll K (hm S M H) vs ss → ∀ Q : VK, Fin K S H0 M ρ σ H P Q → r vs H Q
/-- an optional part of a slice -/
def EvO (K : PySem.W.Frag) (M : MS) (ρ : List Sl) (to : TO) (P : MS → Option Int → Prop) : Prop :=
  ∀ S H0 σ H, Sta K S H0 M ρ σ H → ∀ Q : Option Int → Hp → Prop, (∀ M' o H', P M' o → Sta K S H0 M' ρ σ H' → Le (hm S M H) (hm S M' H') → Q o H') → to σ H Q
section
variable {K : PySem.W.Frag} {S : Addr → Prop} {H0 H H' : Hp} {M M' : MS} {ρ ρ' : List Sl} {σ : L2.St} {ta tb tc te : TE} {t u : TT} {P : MS → Sl → Prop} {Q : VK}
/-- the value is told; nothing has changed -/
theorem Fin.here (f : Fin K S H0 M ρ σ H P Q) (s : Sta K S H0 M ρ σ H) {x : Sl} {v : V} (h : VOk K (hm S M H) v x) (p : P M x) : Q v H := f M x v H p s (.refl _) h
/-- a new object that will not change -/
theorem Fin.newT (f : Fin K S H0 M ρ σ H P Q) (s : Sta K S H0 M ρ σ H) {ds : List PyData} {xs : List V} (h : DpAll K (hm S M H) xs ds) (p : P M (.dat (.tuple ds))) {q : Addr} (hq : H q = none) : Q (.ref q) (upd H q (.tup xs)) := by
  obtain ⟨s', l, e⟩ := s.new (o := .tup xs) hq
  exact f M _ _ _ p s' l (.tup (SqT.of e) (dpa_mono l h))
theorem Fin.newL (f : Fin K S H0 M ρ σ H P Q) (s : Sta K S H0 M ρ σ H) {ds : List PyData} {xs : List V} (h : DpAll K (hm S M H) xs ds) (p : P M (.dat (.list ds))) {q : Addr} (hq : H q = none) : Q (.ref q) (upd H q (.lst xs)) := by
  obtain ⟨s', l, e⟩ := s.new (o := .lst xs) hq
  exact f M _ _ _ p s' l (.lst (SqL.of e) (dpa_mono l h))
theorem Fin.then_ (f : Fin K S H0 M ρ σ H P Q) {M1 : MS} {H1 : Hp} (l : Le (hm S M H) (hm S M1 H1)) : Fin K S H0 M1 ρ σ H1 P Q := fun M' s v H' p st e h => f M' s v H' p st (l.trans e) h
theorem FinT.then_ {P : MS → Bool → Prop} {Q : Bool → Hp → Prop} (f : FinT K S H0 M ρ σ H P Q) {M1 : MS} {H1 : Hp} (l : Le (hm S M H) (hm S M1 H1)) : FinT K S H0 M1 ρ σ H1 P Q := fun M' s H' p st e => f M' s H' p st (l.trans e)
theorem FinA.then_ {P : MS → List Sl → Prop} {Q : List V → Hp → Prop} (f : FinA K S H0 M ρ σ H P Q) {M1 : MS} {H1 : Hp} (l : Le (hm S M H) (hm S M1 H1)) : FinA K S H0 M1 ρ σ H1 P Q := fun M' s v H' p st e h => f M' s v H' p st (l.trans e) h
theorem eva_dat {i : Nat} {d : PyData} (h : ρ[i]? = some (.dat d)) (p : P M (.dat d)) : Eva K M ρ (tVar i) P := fun S H0 σ H s Q f => by
  obtain ⟨v, e, hv⟩ := s.env i _ h
  exact ⟨v, e, f.here s (x := .dat d) hv p⟩
theorem eva_adr {i : Nat} {a : Addr} (h : ρ[i]? = some (.adr a)) (p : P M (.adr a)) : Eva K M ρ (tVar i) P := fun S H0 σ H s Q f =>
  ⟨.ref a, s.env i _ h, f.here s (x := .adr a) rfl p⟩
theorem eva_int {i : Int} (p : P M (.dat (.int i))) : Eva K M ρ (tC (.int i)) P := fun S H0 σ H s Q f => f.here s (x := .dat (.int i)) (.int i) p
theorem eva_bl {i : Bool} (p : P M (.dat (.bool i))) : Eva K M ρ (tC (.bl i)) P := fun S H0 σ H s Q f => f.here s (x := .dat (.bool i)) (.bl i) p
theorem eva_non (p : P M (.dat .none)) : Eva K M ρ (tC .non) P := fun S H0 σ H s Q f => f.here s (x := .dat .none) .non p
theorem eva_op {r : R2} (h : Eva K M ρ ta (fun M1 x => Eva K M1 ρ tb (fun M2 y => OpD K M2 ρ r x y P))) : Eva K M ρ (tOp r ta tb) P := fun S H0 σ H s Q f => by
  refine h S H0 σ H s _ fun M1 x v H1 h1 s1 l1 hv => ?_
  refine h1 S H0 σ H1 s1 _ fun M2 y w H2 h2 s2 l2 hw => ?_
  exact h2 S H0 σ H2 s2 v w (hv.mono l2) hw Q (f.then_ (l1.trans l2))
theorem eva_un {r : V → Hp → VK → Prop} (h : Eva K M ρ ta (fun M1 x => CbD K M1 ρ (fun vs H Q => ∃ v, vs = [v] ∧ r v H Q) [x] P)) : Eva K M ρ (tUn r ta) P := fun S H0 σ H s Q f => by
  refine h S H0 σ H s _ fun M1 x v H1 h1 s1 l1 hv => ?_
  obtain ⟨v', e, q⟩ := h1 S H0 σ H1 s1 [v] (.cons hv .nil) Q (f.then_ l1)
  cases e
  exact q
theorem opd_I0 {g : Int → Int → V} {i j : Int} {d : PyData} (hd : ∀ H, Dp K H (g i j) d) (p : P M (.dat d)) : OpD K M ρ (rI0 g) (.dat (.int i)) (.dat (.int j)) P := fun S H0 σ H s v w hv hw Q f =>
  ⟨i, j, dp_int hv, dp_int hw, f.here s (x := .dat d) (hd _) p⟩
theorem opd_add {i j : Int} (p : P M (.dat (.int (i + j)))) : OpD K M ρ (rI0 fun i j => .int (i + j)) (.dat (.int i)) (.dat (.int j)) P := opd_I0 (fun _ => .int _) p
theorem opd_sub {i j : Int} (p : P M (.dat (.int (i - j)))) : OpD K M ρ (rI0 fun i j => .int (i - j)) (.dat (.int i)) (.dat (.int j)) P := opd_I0 (fun _ => .int _) p
theorem opd_lt {i j : Int} (p : P M (.dat (.bool (decide (i < j))))) : OpD K M ρ (rI0 fun i j => .bl (decide (i < j))) (.dat (.int i)) (.dat (.int j)) P := opd_I0 (fun _ => .bl _) p
theorem opd_le {i j : Int} (p : P M (.dat (.bool (decide (i ≤ j))))) : OpD K M ρ (rI0 fun i j => .bl (decide (i ≤ j))) (.dat (.int i)) (.dat (.int j)) P := opd_I0 (fun _ => .bl _) p
theorem opd_gt {i j : Int} (p : P M (.dat (.bool (decide (j < i))))) : OpD K M ρ (rI0 fun i j => .bl (decide (j < i))) (.dat (.int i)) (.dat (.int j)) P := opd_I0 (fun _ => .bl _) p
theorem opd_ge {i j : Int} (p : P M (.dat (.bool (decide (j ≤ i))))) : OpD K M ρ (rI0 fun i j => .bl (decide (j ≤ i))) (.dat (.int i)) (.dat (.int j)) P := opd_I0 (fun _ => .bl _) p
theorem opd_I {C : Int → Int → Prop} {g : Int → Int → V} {i j : Int} {d : PyData} (hc : C i j) (hd : ∀ H, Dp K H (g i j) d) (p : P M (.dat d)) : OpD K M ρ (rI C g) (.dat (.int i)) (.dat (.int j)) P := fun S H0 σ H s v w hv hw Q f =>
  ⟨i, j, dp_int hv, dp_int hw, hc, f.here s (x := .dat d) (hd _) p⟩
theorem opd_mul {i j : Int} (hc : CMul i j) (p : P M (.dat (.int (i * j)))) : OpD K M ρ (rI CMul fun i j => .int (i * j)) (.dat (.int i)) (.dat (.int j)) P := opd_I hc (fun _ => .int _) p
theorem opd_mulW {i j : Int} (hc : CMulW i j) (p : P M (.dat (.int (i * j)))) : OpD K M ρ (rI CMulW fun i j => .int (i * j)) (.dat (.int i)) (.dat (.int j)) P := opd_I hc (fun _ => .int _) p
theorem opd_divW {i j : Int} (hc : CDivW i j) (p : P M (.dat (.int (i / j)))) : OpD K M ρ (rI CDivW fun i j => .int (i / j)) (.dat (.int i)) (.dat (.int j)) P := opd_I hc (fun _ => .int _) p
theorem opd_mod {i j : Int} (hc : 0 < j) (p : P M (.dat (.int (i % j)))) : OpD K M ρ (rI (fun _ j => 0 < j) fun i j => .int (i % j)) (.dat (.int i)) (.dat (.int j)) P := opd_I hc (fun _ => .int _) p
theorem opd_pow {i j : Int} (hc : CPow i j) (p : P M (.dat (.int (i ^ j.toNat)))) : OpD K M ρ (rI CPow fun i j => .int (i ^ j.toNat)) (.dat (.int i)) (.dat (.int j)) P := opd_I hc (fun _ => .int _) p
theorem opd_eqI {i j : Int} (p : P M (.dat (.bool (decide (i = j))))) : OpD K M ρ rEq (.dat (.int i)) (.dat (.int j)) P := fun S H0 σ H s v w hv hw Q f => by
  rw [dp_int hv, dp_int hw]
  refine ⟨rfl, ?_⟩
  have e : decide (V.int i = V.int j) = decide (i = j) := by
    rw [decide_eq_decide]
    exact ⟨fun z => V.int.inj z, fun z => by rw [z]⟩
  rw [e]
  exact f.here s (x := .dat (.bool (decide (i = j)))) (.bl _) p
theorem opd_neI {i j : Int} (p : P M (.dat (.bool (!decide (i = j))))) : OpD K M ρ rNe (.dat (.int i)) (.dat (.int j)) P := fun S H0 σ H s v w hv hw Q f => by
  rw [dp_int hv, dp_int hw]
  refine ⟨rfl, ?_⟩
  have e : decide (V.int i = V.int j) = decide (i = j) := by
    rw [decide_eq_decide]
    exact ⟨fun z => V.int.inj z, fun z => by rw [z]⟩
  rw [e]
  exact f.here s (x := .dat (.bool (!decide (i = j)))) (.bl _) p
theorem opd_eqB {i j : Bool} (p : P M (.dat (.bool (decide (i = j))))) : OpD K M ρ rEq (.dat (.bool i)) (.dat (.bool j)) P := fun S H0 σ H s v w hv hw Q f => by
  rw [dp_bl hv, dp_bl hw]
  refine ⟨rfl, ?_⟩
  have e : decide (V.bl i = V.bl j) = decide (i = j) := by
    rw [decide_eq_decide]
    exact ⟨fun z => V.bl.inj z, fun z => by rw [z]⟩
  rw [e]
  exact f.here s (x := .dat (.bool (decide (i = j)))) (.bl _) p
theorem opd_eqD {d e : PyData} (h1 : SeqAt.shaped d = true) (h2 : SeqAt.shaped e = true) (p : P M (.dat (.bool (PyData.eqv d e)))) : OpD K M ρ (rEqD K) (.dat d) (.dat e) P := fun S H0 σ H s v w hv hw Q f =>
  ⟨d, e, dp_mono hm_le hv, dp_mono hm_le hw, h1, h2, f.here s (x := .dat (.bool (PyData.eqv d e))) (.bl _) p⟩
theorem opd_neD {d e : PyData} (h1 : SeqAt.shaped d = true) (h2 : SeqAt.shaped e = true) (p : P M (.dat (.bool (!PyData.eqv d e)))) : OpD K M ρ (rNeD K) (.dat d) (.dat e) P := fun S H0 σ H s v w hv hw Q f =>
  ⟨d, e, dp_mono hm_le hv, dp_mono hm_le hw, h1, h2, f.here s (x := .dat (.bool (!PyData.eqv d e))) (.bl _) p⟩
/-- the same, an object that changes on the left -/
theorem opd_neDA {k : Nat} {a : Addr} {ds : List PyData} {e : PyData} (hk : M[k]? = some (a, .lst ds)) (h1 : SeqAt.shaped (.list ds) = true) (h2 : SeqAt.shaped e = true) (p : P M (.dat (.bool (!PyData.eqv (.list ds) e)))) : OpD K M ρ (rNeD K) (.adr a) (.dat e) P := fun S H0 σ H s v w hv hw Q f => by
  obtain ⟨xs, e1, e2⟩ := s.obs _ (List.mem_of_getElem? hk)
  cases (show v = .ref a from hv)
  exact ⟨.list ds, e, .lst (SqL.of e1) (dpa_mono hm_le e2), dp_mono hm_le hw, h1, h2, f.here s (x := .dat (.bool (!PyData.eqv (.list ds) e))) (.bl _) p⟩
/-- is not None -/
def rNotNone : R2 := fun x y H Q => y = .non ∧ Q (.bl (!decide (x = .non))) H
theorem dc_notN {X : Cx} : OpR X (compareOp .IsNot) rNotNone := op_notN
def notNone : PyData → Bool
  | .none => false
  | _ => true
theorem opd_notN {d : PyData} (p : P M (.dat (.bool (notNone d)))) : OpD K M ρ rNotNone (.dat d) (.dat .none) P := fun S H0 σ H s v w hv hw Q f => by
  refine ⟨dp_non hw, ?_⟩
  have e : (!decide (v = V.non)) = notNone d := by
    cases hv <;> simp [notNone]
  rw [e]
  exact f.here s (x := .dat (.bool (notNone d))) (.bl _) p
theorem atI_dp {vs : List V} {ds : List PyData} {Hm : Hp} {j : Int} {d : PyData} (h : DpAll K Hm vs ds) (e : atI ds j = some d) : ∃ v, atI vs j = some v ∧ Dp K Hm v d := by
  unfold atI at e ⊢
  rw [dpa_len h]
  cases q : ixN ds.length j with
  | none =>
    rw [q] at e
    cases e
  | some n =>
    rw [q] at e
    exact dpa_get h e
theorem opd_ixL {ds : List PyData} {j : Int} {d : PyData} (e : atI ds j = some d) (p : P M (.dat d)) : OpD K M ρ (rIxL K) (.dat (.list ds)) (.dat (.int j)) P := fun S H0 σ H s v w hv hw Q f => by
  obtain ⟨a, xs, rfl, h1, h2⟩ := dp_list hv
  obtain ⟨y, e1, e2⟩ := atI_dp h2 e
  exact ⟨a, xs, j, y, rfl, dp_int hw, hm_le.l h1, e1, f.here s (x := .dat d) e2 p⟩
theorem opd_ixA {k : Nat} {a : Addr} {ds : List PyData} {j : Int} {d : PyData} (hk : M[k]? = some (a, .lst ds)) (e : atI ds j = some d) (p : P M (.dat d)) : OpD K M ρ (rIxL K) (.adr a) (.dat (.int j)) P := fun S H0 σ H s v w hv hw Q f => by
  obtain ⟨xs, e1, e2⟩ := s.obs _ (List.mem_of_getElem? hk)
  obtain ⟨y, e3, e4⟩ := atI_dp e2 e
  exact ⟨a, xs, j, y, hv, dp_int hw, SqL.of e1, e3, f.here s (x := .dat d) e4 p⟩
theorem opd_ixT {ds : List PyData} {j : Int} {d : PyData} (e : atI ds j = some d) (p : P M (.dat d)) : OpD K M ρ (rIxT K) (.dat (.tuple ds)) (.dat (.int j)) P := fun S H0 σ H s v w hv hw Q f => by
  obtain ⟨a, xs, rfl, h1, h2⟩ := dp_tup hv
  obtain ⟨y, e1, e2⟩ := atI_dp h2 e
  exact ⟨a, xs, j, y, rfl, dp_int hw, hm_le.t h1, e1, f.here s (x := .dat d) e2 p⟩
theorem evo_none {P : MS → Option Int → Prop} (p : P M none) : EvO K M ρ tNoPart P := fun S H0 σ H s Q f => f M none H p s (.refl _)
theorem evo_some {P : MS → Option Int → Prop} (h : Eva K M ρ te (fun M1 x => ∃ i, x = .dat (.int i) ∧ P M1 (some i))) : EvO K M ρ (tPart te) P := fun S H0 σ H s Q f => by
  refine h S H0 σ H s _ fun M1 x v H1 h1 s1 l1 hv => ?_
  obtain ⟨i, rfl, p⟩ := h1
  exact ⟨i, dp_int hv, f M1 _ H1 p s1 l1⟩
def cutD (ds : List PyData) (lo hi : Option Int) : List PyData := (ds.drop (HT.sIx ds.length 0 lo)).take (HT.sIx ds.length ds.length hi - HT.sIx ds.length 0 lo)
theorem dpa_cut {Hm : Hp} {xs : List V} {ds : List PyData} (h : DpAll K Hm xs ds) (lo hi : Option Int) : DpAll K Hm (cutV xs lo hi) (cutD ds lo hi) := by
  unfold cutV cutD
  rw [dpa_len h]
  exact dpa_take _ (dpa_drop _ h)
theorem eva_slL {tl th : TO} (h : Eva K M ρ te (fun M1 x => EvO K M1 ρ tl (fun M2 lo => EvO K M2 ρ th (fun M3 hi => ∃ ds, x = .dat (.list ds) ∧ P M3 (.dat (.list (cutD ds lo hi))))))) : Eva K M ρ (tSl (rSlL K) te tl th) P := fun S H0 σ H s Q f => by
  refine h S H0 σ H s _ fun M1 x v H1 h1 s1 l1 hv => ?_
  refine h1 S H0 σ H1 s1 _ fun M2 lo H2 h2 s2 l2 => ?_
  refine h2 S H0 σ H2 s2 _ fun M3 hi H3 h3 s3 l3 => ?_
  obtain ⟨ds, rfl, p⟩ := h3
  obtain ⟨a, xs, rfl, g1, g2⟩ := dp_list (dp_mono (l2.trans l3) hv)
  exact ⟨a, xs, rfl, hm_le.l g1, fun q hq => (f.then_ ((l1.trans l2).trans l3)).newL s3 (dpa_cut g2 lo hi) p hq⟩
theorem eva_slT {tl th : TO} (h : Eva K M ρ te (fun M1 x => EvO K M1 ρ tl (fun M2 lo => EvO K M2 ρ th (fun M3 hi => ∃ ds, x = .dat (.tuple ds) ∧ P M3 (.dat (.tuple (cutD ds lo hi))))))) : Eva K M ρ (tSl (rSlA K) te tl th) P := fun S H0 σ H s Q f => by
  refine h S H0 σ H s _ fun M1 x v H1 h1 s1 l1 hv => ?_
  refine h1 S H0 σ H1 s1 _ fun M2 lo H2 h2 s2 l2 => ?_
  refine h2 S H0 σ H2 s2 _ fun M3 hi H3 h3 s3 l3 => ?_
  obtain ⟨ds, rfl, p⟩ := h3
  obtain ⟨a, xs, rfl, g1, g2⟩ := dp_tup (dp_mono (l2.trans l3) hv)
  have f' := f.then_ ((l1.trans l2).trans l3)
  refine ⟨a, xs, rfl, hm_le.t g1, fun w => ?_, fun _ q hq => f'.newT s3 (dpa_cut g2 lo hi) p hq⟩
  have e : cutD ds lo hi = ds := by
    unfold cutD
    rw [← dpa_len g2, w.1, w.2, List.drop_zero, Nat.sub_zero, dpa_len g2, List.take_length]
  rw [e] at p
  exact f'.here s3 (x := .dat (.tuple ds)) (.tup g1 g2) p
theorem eva_a_nil {P : MS → List Sl → Prop} (p : P M []) : EvA K M ρ tNil P := fun S H0 σ H s Q f => f M [] [] H p s (.refl _) .nil
theorem eva_a_cons {P : MS → List Sl → Prop} {tr : TA} (h : Eva K M ρ te (fun M1 x => EvA K M1 ρ tr (fun M2 ss => P M2 (x :: ss)))) : EvA K M ρ (tCons te tr) P := fun S H0 σ H s Q f => by
  refine h S H0 σ H s _ fun M1 x v H1 h1 s1 l1 hv => ?_
  refine h1 S H0 σ H1 s1 _ fun M2 ss vs H2 h2 s2 l2 hvs => ?_
  exact f M2 _ _ H2 h2 s2 (l1.trans l2) (.cons (hv.mono l2) hvs)
/-- data of slots -/
def datS : List Sl → Option (List PyData)
  | [] => some []
  | .dat d :: r => (datS r).map (d :: ·)
  | _ :: _ => none
theorem datS_map : ∀ {ss : List Sl} {ds : List PyData}, datS ss = some ds → ss = ds.map Sl.dat
  | [], ds, h => by
    cases h
    rfl
  | .dat d :: r, ds, h => by
    unfold datS at h
    cases q : datS r with
    | none =>
      rw [q] at h
      cases h
    | some es =>
      rw [q] at h
      cases h
      rw [datS_map q]
      rfl
  | .no :: r, ds, h => by cases h
  | .adr p :: r, ds, h => by cases h
theorem eva_tup {t : TA} (h : EvA K M ρ t (fun M1 ss => ∃ ds, datS ss = some ds ∧ ds.length ≤ 1000 ∧ P M1 (.dat (.tuple ds)))) : Eva K M ρ (tTup t) P := fun S H0 σ H s Q f => by
  refine h S H0 σ H s _ fun M1 ss vs H1 h1 s1 l1 hv => ?_
  obtain ⟨ds, e, hl, p⟩ := h1
  rw [datS_map e] at hv
  have g := hv.dats
  exact ⟨by rw [dpa_len g]; exact Nat.le_of_lt (small1000 hl), fun q hq => (f.then_ l1).newT s1 g p hq⟩
theorem eva_lst {t : TA} (h : EvA K M ρ t (fun M1 ss => ∃ ds, datS ss = some ds ∧ ds.length ≤ 1000 ∧ P M1 (.dat (.list ds)))) : Eva K M ρ (tLst t) P := fun S H0 σ H s Q f => by
  refine h S H0 σ H s _ fun M1 ss vs H1 h1 s1 l1 hv => ?_
  obtain ⟨ds, e, hl, p⟩ := h1
  rw [datS_map e] at hv
  have g := hv.dats
  exact ⟨by rw [dpa_len g]; exact Nat.le_of_lt (small1000 hl), fun q hq => (f.then_ l1).newL s1 g p hq⟩
/-- a new list that will change: its address is open -/
theorem eva_lstM {t : TA} (h : EvA K M ρ t (fun M1 ss => ∃ ds, datS ss = some ds ∧ ds.length ≤ 1000 ∧ ∀ p, P ((p, .lst ds) :: M1) (.adr p))) : Eva K M ρ (tLst t) P := fun S H0 σ H s Q f => by
  refine h S H0 σ H s _ fun M1 ss vs H1 h1 s1 l1 hv => ?_
  obtain ⟨ds, e, hl, p⟩ := h1
  rw [datS_map e] at hv
  have g := hv.dats
  refine ⟨by rw [dpa_len g]; exact Nat.le_of_lt (small1000 hl), fun q hq => ?_⟩
  obtain ⟨s2, l2⟩ := s1.own (m := .lst ds) (o := .lst vs) hq ⟨vs, rfl, g⟩
  exact f _ _ _ _ (p q) s2 (l1.trans l2) rfl
theorem eva_if (h : EvT K M ρ t (fun M1 b => if b = true then Eva K M1 ρ ta P else Eva K M1 ρ tb P)) : Eva K M ρ (tIf t ta tb) P := fun S H0 σ H s Q f => by
  refine h S H0 σ H s _ fun M1 b H1 h1 s1 l1 => ?_
  cases b with
  | true => exact h1 S H0 σ H1 s1 Q (f.then_ l1)
  | false => exact h1 S H0 σ H1 s1 Q (f.then_ l1)
theorem eva_and (h : Eva K M ρ ta (fun M1 x => ∃ b, x = .dat (.bool b) ∧ (b = true → Eva K M1 ρ tb P) ∧ (b = false → P M1 (.dat (.bool false))))) : Eva K M ρ (tAndV ta tb) P := fun S H0 σ H s Q f => by
  refine h S H0 σ H s _ fun M1 x v H1 h1 s1 l1 hv => ?_
  obtain ⟨b, rfl, h2, h3⟩ := h1
  refine ⟨b, dp_bl hv, ?_⟩
  cases b with
  | true => exact h2 rfl S H0 σ H1 s1 Q (f.then_ l1)
  | false => exact (f.then_ l1).here s1 (x := .dat (.bool false)) (.bl _) (h3 rfl)
theorem eva_or (h : Eva K M ρ ta (fun M1 x => ∃ b, x = .dat (.bool b) ∧ (b = false → Eva K M1 ρ tb P) ∧ (b = true → P M1 (.dat (.bool true))))) : Eva K M ρ (tOrV ta tb) P := fun S H0 σ H s Q f => by
  refine h S H0 σ H s _ fun M1 x v H1 h1 s1 l1 hv => ?_
  obtain ⟨b, rfl, h2, h3⟩ := h1
  refine ⟨b, dp_bl hv, ?_⟩
  cases b with
  | true => exact (f.then_ l1).here s1 (x := .dat (.bool true)) (.bl _) (h3 rfl)
  | false => exact h2 rfl S H0 σ H1 s1 Q (f.then_ l1)
theorem eva_not (h : Eva K M ρ ta (fun M1 x => ∃ b, x = .dat (.bool b) ∧ P M1 (.dat (.bool (!b))))) : Eva K M ρ (tNotV ta) P := fun S H0 σ H s Q f => by
  refine h S H0 σ H s _ fun M1 x v H1 h1 s1 l1 hv => ?_
  obtain ⟨b, rfl, p⟩ := h1
  exact ⟨b, dp_bl hv, (f.then_ l1).here s1 (x := .dat (.bool (!b))) (.bl _) p⟩
theorem eva_chain {r r' : R2} (h : Eva K M ρ ta (fun M1 x => Eva K M1 ρ tb (fun M2 y => OpD K M2 ρ r x y (fun M3 z => ∃ b, z = .dat (.bool b) ∧ (b = true → Eva K M3 ρ tc (fun M4 w => OpD K M4 ρ r' y w P)) ∧ (b = false → P M3 (.dat (.bool false))))))) : Eva K M ρ (tChain r r' ta tb tc) P := fun S H0 σ H s Q f => by
  refine h S H0 σ H s _ fun M1 x v H1 h1 s1 l1 hv => ?_
  refine h1 S H0 σ H1 s1 _ fun M2 y w H2 h2 s2 l2 hw => ?_
  refine h2 S H0 σ H2 s2 v w (hv.mono l2) hw _ fun M3 z u H3 h3 s3 l3 hu => ?_
  obtain ⟨b, rfl, g1, g2⟩ := h3
  refine ⟨b, dp_bl hu, ?_⟩
  cases b with
  | true =>
    refine g1 rfl S H0 σ H3 s3 _ fun M4 w' u' H4 h4 s4 l4 hu' => ?_
    exact h4 S H0 σ H4 s4 w u' (hw.mono (l3.trans l4)) hu' Q (f.then_ (((l1.trans l2).trans l3).trans l4))
  | false => exact (f.then_ ((l1.trans l2).trans l3)).here s3 (x := .dat (.bool false)) (.bl _) (g2 rfl)
theorem evt_test {P : MS → Bool → Prop} (h : Eva K M ρ te (fun M1 x => ∃ b, x = .dat (.bool b) ∧ P M1 b)) : EvT K M ρ (tTest te) P := fun S H0 σ H s Q f => by
  refine h S H0 σ H s _ fun M1 x v H1 h1 s1 l1 hv => ?_
  obtain ⟨b, rfl, p⟩ := h1
  exact ⟨b, dp_bl hv, f M1 b H1 p s1 l1⟩
theorem evt_B {P : MS → Bool → Prop} (h : Eva K M ρ te (fun M1 x => ∃ b, x = .dat (.bool b) ∧ P M1 b)) : EvT K M ρ (tB te) P := fun S H0 σ H s Q f => by
  refine h S H0 σ H s _ fun M1 x v H1 h1 s1 l1 hv => ?_
  obtain ⟨b, rfl, p⟩ := h1
  exact ⟨b, dp_bl hv, f M1 b H1 p s1 l1⟩
theorem evt_and {P : MS → Bool → Prop} (h : EvT K M ρ t (fun M1 b => (b = true → EvT K M1 ρ u P) ∧ (b = false → P M1 false))) : EvT K M ρ (tAnd t u) P := fun S H0 σ H s Q f => by
  refine h S H0 σ H s _ fun M1 b H1 h1 s1 l1 => ?_
  cases b with
  | true => exact h1.1 rfl S H0 σ H1 s1 Q (f.then_ l1)
  | false => exact f M1 false H1 (h1.2 rfl) s1 l1
theorem evt_or {P : MS → Bool → Prop} (h : EvT K M ρ t (fun M1 b => (b = false → EvT K M1 ρ u P) ∧ (b = true → P M1 true))) : EvT K M ρ (tOr t u) P := fun S H0 σ H s Q f => by
  refine h S H0 σ H s _ fun M1 b H1 h1 s1 l1 => ?_
  cases b with
  | true => exact f M1 true H1 (h1.2 rfl) s1 l1
  | false => exact h1.1 rfl S H0 σ H1 s1 Q (f.then_ l1)
theorem evt_not {P : MS → Bool → Prop} (h : EvT K M ρ t (fun M1 b => P M1 (!b))) : EvT K M ρ (tNot t) P := fun S H0 σ H s Q f => by
  refine h S H0 σ H s _ fun M1 b H1 h1 s1 l1 => ?_
  exact f M1 _ H1 h1 s1 l1
theorem evt_yes {P : MS → Bool → Prop} (p : P M true) : EvT K M ρ tYes P := fun S H0 σ H s Q f => f M true H p s (.refl _)
theorem eva_cb {r : List V → Hp → VK → Prop} {ta : TA} (h : EvA K M ρ ta (fun M1 ss => CbD K M1 ρ r ss P)) : Eva K M ρ (tCB r ta) P := fun S H0 σ H s Q f => by
  refine h S H0 σ H s _ fun M1 ss vs H1 h1 s1 l1 hv => ?_
  exact h1 S H0 σ H1 s1 vs hv Q (f.then_ l1)
theorem vall1 {Hm : Hp} {vs : List V} {s : Sl} (h : VAll K Hm vs [s]) : ∃ v, vs = [v] ∧ VOk K Hm v s := by
  cases h with
  | cons h t =>
    cases t
    exact ⟨_, rfl, h⟩
theorem vall2 {Hm : Hp} {vs : List V} {s s' : Sl} (h : VAll K Hm vs [s, s']) : ∃ v w, vs = [v, w] ∧ VOk K Hm v s ∧ VOk K Hm w s' := by
  cases h with
  | cons h t =>
    obtain ⟨w, rfl, hw⟩ := vall1 t
    exact ⟨_, w, rfl, h, hw⟩
theorem cbd_neg {i : Int} (p : P M (.dat (.int (-i)))) : CbD K M ρ (fun vs H Q => ∃ v, vs = [v] ∧ rU (fun i => .int (-i)) v H Q) [.dat (.int i)] P := fun S H0 σ H s vs hv Q f => by
  obtain ⟨v, rfl, h⟩ := vall1 hv
  exact ⟨v, rfl, i, dp_int h, f.here s (x := .dat (.int (-i))) (.int _) p⟩
def rAbs : List V → Hp → VK → Prop := fun xs H Q => ∃ i, xs = [.int i] ∧ Q (.int (if i < 0 then -i else i)) H
theorem dc_abs {X : Cx} : CallR X (.builtin "abs") rAbs := call_abs
theorem cbd_abs {i : Int} (p : P M (.dat (.int (if i < 0 then -i else i)))) : CbD K M ρ rAbs [.dat (.int i)] P := fun S H0 σ H s vs hv Q f => by
  obtain ⟨v, rfl, h⟩ := vall1 hv
  exact ⟨i, by rw [dp_int h], f.here s (x := .dat (.int (if i < 0 then -i else i))) (.int _) p⟩
def rMax2 : List V → Hp → VK → Prop := fun xs H Q => ∃ i j, xs = [.int i, .int j] ∧ Q (.int (if j > i then j else i)) H
theorem dc_max2 {X : Cx} (hc : X.calm = true) : CallR X (.builtin "max") rMax2 := call_max2 hc
theorem cbd_max2 {i j : Int} (p : P M (.dat (.int (if j > i then j else i)))) : CbD K M ρ rMax2 [.dat (.int i), .dat (.int j)] P := fun S H0 σ H s vs hv Q f => by
  obtain ⟨v, w, rfl, h1, h2⟩ := vall2 hv
  exact ⟨i, j, by rw [dp_int h1, dp_int h2], f.here s (x := .dat (.int (if j > i then j else i))) (.int _) p⟩
def rMin2 : List V → Hp → VK → Prop := fun xs H Q => ∃ i j, xs = [.int i, .int j] ∧ Q (.int (if j < i then j else i)) H
theorem dc_min2 {X : Cx} (hc : X.calm = true) : CallR X (.builtin "min") rMin2 := call_min2 hc
theorem cbd_min2 {i j : Int} (p : P M (.dat (.int (if j < i then j else i)))) : CbD K M ρ rMin2 [.dat (.int i), .dat (.int j)] P := fun S H0 σ H s vs hv Q f => by
  obtain ⟨v, w, rfl, h1, h2⟩ := vall2 hv
  exact ⟨i, j, by rw [dp_int h1, dp_int h2], f.here s (x := .dat (.int (if j < i then j else i))) (.int _) p⟩
def rInt1 : List V → Hp → VK → Prop := fun xs H Q => (∃ i, xs = [.int i] ∧ Q (.int i) H) ∨ ∃ k, xs = [.bl k] ∧ Q (.int (if k then 1 else 0)) H
theorem dc_int1 {X : Cx} : CallR X (.type "int") rInt1 := call_int1
theorem cbd_intB {b : Bool} (p : P M (.dat (.int (if b then 1 else 0)))) : CbD K M ρ rInt1 [.dat (.bool b)] P := fun S H0 σ H s vs hv Q f => by
  obtain ⟨v, rfl, h⟩ := vall1 hv
  exact .inr ⟨b, by rw [dp_bl h], f.here s (x := .dat (.int (if b then 1 else 0))) (.int _) p⟩
def rLen (K : PySem.W.Frag) : List V → Hp → VK → Prop := fun xs H Q => ∃ p ys, xs = [.ref p] ∧ (SqL K H p ys ∨ SqT K H p ys) ∧ Q (.int ys.length) H
theorem dc_len {X : Cx} : CallR X (.builtin "len") (rLen X.K) := call_len_seq
theorem cbd_lenL {ds : List PyData} (p : P M (.dat (.int (ds.length : Nat)))) : CbD K M ρ (rLen K) [.dat (.list ds)] P := fun S H0 σ H s vs hv Q f => by
  obtain ⟨v, rfl, h⟩ := vall1 hv
  obtain ⟨a, xs, rfl, g1, g2⟩ := dp_list h
  refine ⟨a, xs, rfl, .inl (hm_le.l g1), ?_⟩
  rw [dpa_len g2]
  exact f.here s (x := .dat (.int (ds.length : Nat))) (.int _) p
theorem cbd_lenT {ds : List PyData} (p : P M (.dat (.int (ds.length : Nat)))) : CbD K M ρ (rLen K) [.dat (.tuple ds)] P := fun S H0 σ H s vs hv Q f => by
  obtain ⟨v, rfl, h⟩ := vall1 hv
  obtain ⟨a, xs, rfl, g1, g2⟩ := dp_tup h
  refine ⟨a, xs, rfl, .inr (hm_le.t g1), ?_⟩
  rw [dpa_len g2]
  exact f.here s (x := .dat (.int (ds.length : Nat))) (.int _) p
def rTupOf (K : PySem.W.Frag) : List V → Hp → VK → Prop := fun xs H Q => ∃ p ys, xs = [.ref p] ∧ ((SqL K H p ys ∧ ∀ l, H l = none → Q (.ref l) (upd H l (.tup ys))) ∨ (SqT K H p ys ∧ Q (.ref p) H))
theorem dc_tuple {X : Cx} : CallR X (.type "tuple") (rTupOf X.K) := call_tuple_of
theorem cbd_tupleL {ds : List PyData} (p : P M (.dat (.tuple ds))) : CbD K M ρ (rTupOf K) [.dat (.list ds)] P := fun S H0 σ H s vs hv Q f => by
  obtain ⟨v, rfl, h⟩ := vall1 hv
  obtain ⟨a, xs, rfl, g1, g2⟩ := dp_list h
  exact ⟨a, xs, rfl, .inl ⟨hm_le.l g1, fun l hl => f.newT s g2 p hl⟩⟩
theorem cbd_tupleA {k : Nat} {a : Addr} {ds : List PyData} (hk : M[k]? = some (a, .lst ds)) (p : P M (.dat (.tuple ds))) : CbD K M ρ (rTupOf K) [.adr a] P := fun S H0 σ H s vs hv Q f => by
  obtain ⟨v, rfl, h⟩ := vall1 hv
  obtain ⟨xs, e1, e2⟩ := s.obs _ (List.mem_of_getElem? hk)
  exact ⟨a, xs, by rw [show v = .ref a from h], .inl ⟨SqL.of e1, fun l hl => f.newT s e2 p hl⟩⟩
def rLstOf (K : PySem.W.Frag) : List V → Hp → VK → Prop := fun xs H Q => ∃ p ys, xs = [.ref p] ∧ (SqL K H p ys ∨ SqT K H p ys) ∧ ∀ l, H l = none → Q (.ref l) (upd H l (.lst ys))
theorem dc_list {X : Cx} : CallR X (.type "list") (rLstOf X.K) := call_list_of
theorem cbd_listT {ds : List PyData} (p : P M (.dat (.list ds))) : CbD K M ρ (rLstOf K) [.dat (.tuple ds)] P := fun S H0 σ H s vs hv Q f => by
  obtain ⟨v, rfl, h⟩ := vall1 hv
  obtain ⟨a, xs, rfl, g1, g2⟩ := dp_tup h
  exact ⟨a, xs, rfl, .inr (hm_le.t g1), fun l hl => f.newL s g2 p hl⟩
theorem cbd_sum {ns : List Int} (p : P M (.dat (.int ns.sum))) : CbD K M ρ (rSum K) [.dat (.list (di ns))] P := fun S H0 σ H s vs hv Q f => by
  obtain ⟨v, rfl, h⟩ := vall1 hv
  obtain ⟨a, xs, rfl, g1, g2⟩ := dp_list h
  rw [dpa_ints g2] at g1
  exact ⟨a, ns, rfl, hm_le.l g1, f.here s (x := .dat (.int ns.sum)) (.int _) p⟩
theorem cbd_max {ns : List Int} (h0 : 0 < ns.length) (p : ∀ m, m ∈ ns → (∀ y, y ∈ ns → y ≤ m) → P M (.dat (.int m))) : CbD K M ρ (rMax K) [.dat (.list (di ns))] P := fun S H0 σ H s vs hv Q f => by
  obtain ⟨v, rfl, h⟩ := vall1 hv
  obtain ⟨a, xs, rfl, g1, g2⟩ := dp_list h
  rw [dpa_ints g2] at g1
  exact ⟨a, ns, rfl, hm_le.l g1, h0, fun m hm1 hm2 => f.here s (x := .dat (.int m)) (.int _) (p m hm1 hm2)⟩
theorem cbd_min {ns : List Int} (h0 : 0 < ns.length) (p : ∀ m, m ∈ ns → (∀ y, y ∈ ns → m ≤ y) → P M (.dat (.int m))) : CbD K M ρ (rMin K) [.dat (.list (di ns))] P := fun S H0 σ H s vs hv Q f => by
  obtain ⟨v, rfl, h⟩ := vall1 hv
  obtain ⟨a, xs, rfl, g1, g2⟩ := dp_list h
  rw [dpa_ints g2] at g1
  exact ⟨a, ns, rfl, hm_le.l g1, h0, fun m hm1 hm2 => f.here s (x := .dat (.int m)) (.int _) (p m hm1 hm2)⟩
theorem cbd_all {bs : List Bool} (p : P M (.dat (.bool (bs.all id)))) : CbD K M ρ (rAll K) [.dat (.list (bs.map PyData.bool))] P := fun S H0 σ H s vs hv Q f => by
  obtain ⟨v, rfl, h⟩ := vall1 hv
  obtain ⟨a, xs, rfl, g1, g2⟩ := dp_list h
  rw [dpa_bools g2] at g1
  exact ⟨a, bs, rfl, hm_le.l g1, f.here s (x := .dat (.bool (bs.all id))) (.bl _) p⟩
/-- sorted(d), d a dict of int keys that changes -/
def rSortD : List V → Hp → VK → Prop := fun xs H Q => ∃ (a : Addr) (kvs : List (Key × V)) (ks : List Int), xs = [.ref a] ∧ Rd H a (.dK kvs) ∧ kvs.map (·.1) = ks.map Sum.inl ∧ ks.length < 64 ∧
  ∀ (ys : List Int) (p : Addr), ys.Perm ks → ys.Pairwise (· ≤ ·) → H p = none → Q (.ref p) (upd H p (.lst (ys.map V.int)))
theorem dc_sortD {X : Cx} (hc : X.calm = true) : CallR X (.builtin "sorted") rSortD := call_sortedDI hc
theorem cbd_sortD {k : Nat} {a : Addr} {kvs : List (Key × V)} {ks : List Int} (hk : M[k]? = some (a, .dct kvs)) (e : kvs.map (·.1) = ks.map Sum.inl) (hl : ks.length < 64) (p : ∀ ys : List Int, ys.Perm ks → ys.Pairwise (· ≤ ·) → P M (.dat (.list (di ys)))) : CbD K M ρ rSortD [.adr a] P := fun S H0 σ H s vs hv Q f => by
  obtain ⟨v, rfl, h⟩ := vall1 hv
  have e1 : H a = some (.dK kvs) := s.obs _ (List.mem_of_getElem? hk)
  exact ⟨a, kvs, ks, by rw [show v = .ref a from h], .inl e1, e, hl, fun ys q h1 h2 hq => f.newL s (dpa_ofInts ys) (p ys h1 h2) hq⟩
theorem eva_revL (h : Eva K M ρ te (fun M1 x => ∃ ds, x = .dat (.list ds) ∧ P M1 (.dat (.list ds.reverse)))) : Eva K M ρ (tRevL K te) P := fun S H0 σ H s Q f => by
  refine h S H0 σ H s _ fun M1 x v H1 h1 s1 l1 hv => ?_
  obtain ⟨ds, rfl, p⟩ := h1
  obtain ⟨a, xs, rfl, g1, g2⟩ := dp_list hv
  exact ⟨a, xs, rfl, hm_le.l g1, fun q hq => (f.then_ l1).newL s1 (dpa_reverse g2) p hq⟩
theorem eva_revA {k : Nat} {ds : List PyData} {a : Addr} (h : Eva K M ρ te (fun M1 x => x = .adr a ∧ M1[k]? = some (a, .lst ds) ∧ P M1 (.dat (.list ds.reverse)))) : Eva K M ρ (tRevL K te) P := fun S H0 σ H s Q f => by
  refine h S H0 σ H s _ fun M1 x v H1 h1 s1 l1 hv => ?_
  obtain ⟨rfl, hk, p⟩ := h1
  obtain ⟨xs, e1, e2⟩ := s1.obs _ (List.mem_of_getElem? hk)
  exact ⟨a, xs, hv, SqL.of e1, fun q hq => (f.then_ l1).newL s1 (dpa_reverse e2) p hq⟩
end
end D
namespace D
open PySem PySem.Spec PyProof.Rows L2
def At (K : PySem.W.Frag) (S : Addr → Prop) (H0 : Hp) (M : MS) (ρ : List Sl) (N : L2.St → Hp → Prop) : Prop := ∀ σ H, Sta K S H0 M ρ σ H → N σ H
def Only (ts : List Nat) (σ σ' : L2.St) : Prop := σ'.length = σ.length ∧ ∀ i, i ∉ ts → σ'[i]? = σ[i]?
theorem Only.refl (σ : L2.St) : Only [] σ σ := ⟨rfl, fun _ _ => rfl⟩
theorem Only.set (σ : L2.St) (i : Nat) (x : Option V) : Only [i] σ (σ.set i x) := ⟨List.length_set, fun j hj => List.getElem?_set_ne fun e => hj (by simp [e])⟩
theorem Only.trans {t1 t2 : List Nat} {a b c : L2.St} (h : Only t1 a b) (k : Only t2 b c) : Only (t1 ++ t2) a c := ⟨k.1.trans h.1, fun i hi => (k.2 i fun z => hi (List.mem_append_right _ z)).trans (h.2 i fun z => hi (List.mem_append_left _ z))⟩
theorem wipe_at {σ : L2.St} {i : Nat} : ∀ {vs : List Nat}, (wipe σ vs)[i]? = if i ∈ vs ∧ i < σ.length then some none else σ[i]?
  | [] => by simp [wipe]
  | v :: vs => by
    unfold wipe
    by_cases e : v = i
    · subst e
      by_cases hl : v < σ.length
      · rw [List.getElem?_set_self (by rw [wipe_length]; exact hl), if_pos ⟨by simp, hl⟩]
      · rw [List.getElem?_eq_none (by rw [List.length_set, wipe_length]; omega), if_neg (by omega), List.getElem?_eq_none (by omega)]
    · rw [List.getElem?_set_ne e, wipe_at]
      have h : i ∈ v :: vs ↔ i ∈ vs := by
        rw [List.mem_cons]
        exact ⟨fun z => z.elim (fun w => absurd w.symm e) id, .inr⟩
      simp only [h]
theorem Only.wipe {ts vs : List Nat} {σ σ' : L2.St} (h : Only ts (wipe σ vs) σ') (hs : ∀ i ∈ ts, i ∈ vs) : wipe σ' vs = L2.wipe σ vs := by
  refine List.ext_getElem? fun i => ?_
  rw [wipe_at, wipe_at, h.1, wipe_length]
  by_cases c : i ∈ vs ∧ i < σ.length
  · rw [if_pos c, if_pos c]
  · rw [if_neg c, if_neg c]
    by_cases q : i ∈ vs
    · have hl : ¬ i < σ.length := fun z => c ⟨q, z⟩
      rw [List.getElem?_eq_none (by rw [h.1, wipe_length]; omega), List.getElem?_eq_none (by omega)]
    · rw [h.2 i fun z => q (hs i z), wipe_at, if_neg c]
def Tgt (K : PySem.W.Frag) (g : TG) (x : Sl) (ρ ρ' : List Sl) (ts : List Nat) : Prop :=
  ∀ S H0 M σ H v, Sta K S H0 M ρ σ H → VOk K (hm S M H) v x → ∀ R : L2.St → Hp → Prop, (∀ σ', Sta K S H0 M ρ' σ' H → Only ts σ σ' → R σ' H) → g v σ H R
def TgtS (K : PySem.W.Frag) (g : TGs) (xs : List Sl) (ρ ρ' : List Sl) (ts : List Nat) : Prop :=
  ∀ S H0 M σ H vs, Sta K S H0 M ρ σ H → VAll K (hm S M H) vs xs → ∀ R : L2.St → Hp → Prop, (∀ σ', Sta K S H0 M ρ' σ' H → Only ts σ σ' → R σ' H) → g vs σ H R
section
variable {K : PySem.W.Frag} {S : Addr → Prop} {H0 H H' : Hp} {M M' : MS} {ρ ρ' ρ1 ρ2 : List Sl} {σ : L2.St} {ta tb tc te : TE} {t u : TT} {g : TG} {gs : TGs} {x : Sl} {xs : List Sl} {t1 t2 : List Nat} {D : Ends} {tz tu tw : TS}
theorem tgt_name {i : Nat} : Tgt K (gName i) x ρ (ρ.set i x) [i] := fun S H0 M σ H v s h R k => k _ (s.set h) (.set σ i _)
theorem tgts_nil : TgtS K gNil [] ρ ρ [] := fun S H0 M σ H vs s h R k => by
  cases h
  exact ⟨rfl, k σ s (.refl σ)⟩
theorem tgts_cons (h1 : Tgt K g x ρ ρ1 t1) (h2 : TgtS K gs xs ρ1 ρ2 t2) : TgtS K (gCons g gs) (x :: xs) ρ ρ2 (t1 ++ t2) := fun S H0 M σ H vs s h R k => by
  cases h with
  | cons hv ht => exact ⟨_, _, rfl, h1 S H0 M σ H _ s hv _ fun σ1 s1 o1 => h2 S H0 M σ1 H _ s1 ht R fun σ2 s2 o2 => k σ2 s2 (o1.trans o2)⟩
theorem vall_dats {Hm : Hp} : ∀ {vs : List V} {ds : List PyData}, DpAll K Hm vs ds → VAll K Hm vs (ds.map Sl.dat)
  | _, _, .nil => .nil
  | _, _, .cons h t => .cons h (vall_dats t)
theorem tgt_tup {n : Nat} {ds : List PyData} (hl : ds.length = n) (h : TgtS K gs (ds.map Sl.dat) ρ ρ' t1) : Tgt K (gTup K n gs) (.dat (.tuple ds)) ρ ρ' t1 := fun S H0 M σ H v s hv R k => by
  obtain ⟨a, xs, rfl, g1, g2⟩ := dp_tup hv
  exact ⟨a, xs, rfl, hm_le.t g1, (dpa_len g2).trans hl, h S H0 M σ H xs s (vall_dats g2) R k⟩
theorem at_of (h : At K S H0 M ρ (tz D)) (s : Sta K S H0 M ρ σ H) : tz D σ H := h σ H s
theorem q_set {i : Nat} (h : Eva K M ρ te (fun M1 x => At K S H0 M1 (ρ.set i x) (tz D))) : At K S H0 M ρ (tSeq (tAsg te (gName i)) tz D) := fun σ H s =>
  h S H0 σ H s _ fun M1 x v H1 p s1 l hv => p _ _ (s1.set hv)
theorem s_set {i : Nat} (h : Eva K M ρ te (fun M1 x => At K S H0 M1 (ρ.set i x) D.nx)) : At K S H0 M ρ (tAsg te (gName i) D) := fun σ H s =>
  h S H0 σ H s _ fun M1 x v H1 p s1 l hv => p _ _ (s1.set hv)
theorem q_asg (h : Eva K M ρ te (fun M1 x => ∃ ρ' ts, Tgt K g x ρ ρ' ts ∧ At K S H0 M1 ρ' (tz D))) : At K S H0 M ρ (tSeq (tAsg te g) tz D) := fun σ H s =>
  h S H0 σ H s _ fun M1 x v H1 p s1 l hv => by
    obtain ⟨ρ', ts, ht, k⟩ := p
    exact ht S H0 M1 σ H1 v s1 hv _ fun σ' s' _ => k σ' H1 s'
theorem q_par {i j : Nat} {ta : TA} (h : EvA K M ρ ta (fun M1 ss => ∃ x y, ss = [x, y] ∧ At K S H0 M1 ((ρ.set i x).set j y) (tz D))) : At K S H0 M ρ (tSeq (tPar i j ta) tz D) := fun σ H s =>
  h S H0 σ H s _ fun M1 ss vs H1 p s1 l hv => by
    obtain ⟨x, y, rfl, k⟩ := p
    obtain ⟨v, w, rfl, h1, h2⟩ := vall2 hv
    exact ⟨v, w, rfl, k _ _ ((s1.set h1).set h2)⟩
theorem s_par {i j : Nat} {ta : TA} (h : EvA K M ρ ta (fun M1 ss => ∃ x y, ss = [x, y] ∧ At K S H0 M1 ((ρ.set i x).set j y) D.nx)) : At K S H0 M ρ (tPar i j ta D) := fun σ H s =>
  h S H0 σ H s _ fun M1 ss vs H1 p s1 l hv => by
    obtain ⟨x, y, rfl, k⟩ := p
    obtain ⟨v, w, rfl, h1, h2⟩ := vall2 hv
    exact ⟨v, w, rfl, k _ _ ((s1.set h1).set h2)⟩
theorem q_aug {i : Nat} {f : Int → Int → Int} {a : Int} (hi : ρ[i]? = some (.dat (.int a))) (h : Eva K M ρ te (fun M1 x => ∃ b, x = .dat (.int b) ∧ At K S H0 M1 (ρ.set i (.dat (.int (f a b)))) (tz D))) : At K S H0 M ρ (tSeq (tAug i te (ipI f)) tz D) := fun σ H s => by
  obtain ⟨v, e, hv⟩ := s.env i _ hi
  refine ⟨v, e, h S H0 σ H s _ fun M1 x w H1 p s1 l hw => ?_⟩
  obtain ⟨b, rfl, k⟩ := p
  exact ⟨a, b, dp_int hv, dp_int hw, k _ _ (s1.set (x := .dat (.int (f a b))) (.int _))⟩
theorem s_aug {i : Nat} {f : Int → Int → Int} {a : Int} (hi : ρ[i]? = some (.dat (.int a))) (h : Eva K M ρ te (fun M1 x => ∃ b, x = .dat (.int b) ∧ At K S H0 M1 (ρ.set i (.dat (.int (f a b)))) D.nx)) : At K S H0 M ρ (tAug i te (ipI f) D) := fun σ H s => by
  obtain ⟨v, e, hv⟩ := s.env i _ hi
  refine ⟨v, e, h S H0 σ H s _ fun M1 x w H1 p s1 l hw => ?_⟩
  obtain ⟨b, rfl, k⟩ := p
  exact ⟨a, b, dp_int hv, dp_int hw, k _ _ (s1.set (x := .dat (.int (f a b))) (.int _))⟩
theorem q_if (h : EvT K M ρ t (fun M1 b => (b = true → At K S H0 M1 ρ (tu { D with nx := tz D })) ∧ (b = false → At K S H0 M1 ρ (tw { D with nx := tz D })))) : At K S H0 M ρ (tSeq (tIfS t tu tw) tz D) := fun σ H s =>
  h S H0 σ H s _ fun M1 b H1 p s1 l => by
    cases b with
    | true => exact p.1 rfl σ H1 s1
    | false => exact p.2 rfl σ H1 s1
theorem s_if (h : EvT K M ρ t (fun M1 b => (b = true → At K S H0 M1 ρ (tu D)) ∧ (b = false → At K S H0 M1 ρ (tw D)))) : At K S H0 M ρ (tIfS t tu tw D) := fun σ H s =>
  h S H0 σ H s _ fun M1 b H1 p s1 l => by
    cases b with
    | true => exact p.1 rfl σ H1 s1
    | false => exact p.2 rfl σ H1 s1
/-- an if without else -/
theorem q_when (h : EvT K M ρ t (fun M1 b => (b = true → At K S H0 M1 ρ (tu { D with nx := tz D })) ∧ (b = false → At K S H0 M1 ρ (tz D)))) : At K S H0 M ρ (tSeq (tIfS t tu tNext) tz D) := q_if h
theorem s_when (h : EvT K M ρ t (fun M1 b => (b = true → At K S H0 M1 ρ (tu D)) ∧ (b = false → At K S H0 M1 ρ D.nx))) : At K S H0 M ρ (tIfS t tu tNext D) := s_if h
theorem q_drop (h : Eva K M ρ te (fun M1 _ => At K S H0 M1 ρ (tz D))) : At K S H0 M ρ (tSeq (tDrop te) tz D) := fun σ H s =>
  h S H0 σ H s _ fun M1 x v H1 p s1 l hv => p _ _ s1
theorem s_drop (h : Eva K M ρ te (fun M1 _ => At K S H0 M1 ρ D.nx)) : At K S H0 M ρ (tDrop te D) := fun σ H s =>
  h S H0 σ H s _ fun M1 x v H1 p s1 l hv => p _ _ s1
theorem app_core {i k : Nat} {a : Addr} {ds0 : List PyData} {N : L2.St → Hp → Prop} (hi : ρ[i]? = some (.adr a)) (hk : M[k]? = some (a, .lst ds0)) (h : Eva K M ρ te (fun M1 x => ∃ (ds : List PyData) (d : PyData), M1[k]? = some (a, .lst ds) ∧ x = .dat d ∧ ds.length < 100000 ∧ At K S H0 (M1.set k (a, .lst (ds ++ [d]))) ρ N)) (s : Sta K S H0 M ρ σ H) :
    tDrop (tBM K "list" rAppend (tVar i) (tCons te tNil)) { nx := N, rt := fun _ _ => False } σ H := by
  obtain ⟨xs0, e0, _⟩ := s.obs _ (List.mem_of_getElem? hk)
  refine ⟨.ref a, s.env i _ hi, .inl ⟨rfl, xs0, SqL.of e0⟩, h S H0 σ H s _ fun M1 x v H1 p s1 l hv => ?_⟩
  obtain ⟨ds, d, hk1, rfl, hl, k⟩ := p
  obtain ⟨xs, e1, e2⟩ := s1.obs _ (List.mem_of_getElem? hk1)
  refine ⟨a, xs, v, rfl, rfl, e1, ?_, k _ _ (s1.put (m' := .lst (ds ++ [d])) hk1 ⟨xs ++ [v], rfl, dpa_append e2 (.cons hv .nil)⟩).1⟩
  rw [dpa_len e2]
  exact Nat.lt_of_lt_of_le hl (by decide)
theorem q_app {i k : Nat} {a : Addr} {ds0 : List PyData} (hi : ρ[i]? = some (.adr a)) (hk : M[k]? = some (a, .lst ds0)) (h : Eva K M ρ te (fun M1 x => ∃ (ds : List PyData) (d : PyData), M1[k]? = some (a, .lst ds) ∧ x = .dat d ∧ ds.length < 100000 ∧ At K S H0 (M1.set k (a, .lst (ds ++ [d]))) ρ (tz D))) :
    At K S H0 M ρ (tSeq (tDrop (tBM K "list" rAppend (tVar i) (tCons te tNil))) tz D) := fun σ H s => app_core hi hk h s
theorem s_app {i k : Nat} {a : Addr} {ds0 : List PyData} (hi : ρ[i]? = some (.adr a)) (hk : M[k]? = some (a, .lst ds0)) (h : Eva K M ρ te (fun M1 x => ∃ (ds : List PyData) (d : PyData), M1[k]? = some (a, .lst ds) ∧ x = .dat d ∧ ds.length < 100000 ∧ At K S H0 (M1.set k (a, .lst (ds ++ [d]))) ρ D.nx)) :
    At K S H0 M ρ (tDrop (tBM K "list" rAppend (tVar i) (tCons te tNil)) D) := fun σ H s => app_core hi hk h s
theorem ext_core {i k : Nat} {a : Addr} {ds0 : List PyData} {N : L2.St → Hp → Prop} (hi : ρ[i]? = some (.adr a)) (hk : M[k]? = some (a, .lst ds0)) (h : Eva K M ρ te (fun M1 x => ∃ (ds : List PyData) (b : Addr) (j : Nat) (es : List PyData), M1[k]? = some (a, .lst ds) ∧ x = .adr b ∧ M1[j]? = some (b, .lst es) ∧ ds.length + es.length ≤ 100000 ∧ At K S H0 (M1.set k (a, .lst (ds ++ es))) ρ N)) (s : Sta K S H0 M ρ σ H) :
    tDrop (tBM K "list" rExtend (tVar i) (tCons te tNil)) { nx := N, rt := fun _ _ => False } σ H := by
  obtain ⟨xs0, e0, _⟩ := s.obs _ (List.mem_of_getElem? hk)
  refine ⟨.ref a, s.env i _ hi, .inl ⟨rfl, xs0, SqL.of e0⟩, h S H0 σ H s _ fun M1 x v H1 p s1 l hv => ?_⟩
  obtain ⟨ds, b, j, es, hk1, rfl, hj1, hl, k⟩ := p
  obtain ⟨xs, e1, e2⟩ := s1.obs _ (List.mem_of_getElem? hk1)
  obtain ⟨ys, e3, e4⟩ := s1.obs _ (List.mem_of_getElem? hj1)
  cases (show v = .ref b from hv)
  refine ⟨a, b, xs, ys, rfl, rfl, e1, e3, ?_, k _ _ (s1.put (m' := .lst (ds ++ es)) hk1 ⟨xs ++ ys, rfl, dpa_append e2 e4⟩).1⟩
  rw [dpa_len e2, dpa_len e4]
  exact Nat.le_trans hl (by decide)
theorem q_ext {i k : Nat} {a : Addr} {ds0 : List PyData} (hi : ρ[i]? = some (.adr a)) (hk : M[k]? = some (a, .lst ds0)) (h : Eva K M ρ te (fun M1 x => ∃ (ds : List PyData) (b : Addr) (j : Nat) (es : List PyData), M1[k]? = some (a, .lst ds) ∧ x = .adr b ∧ M1[j]? = some (b, .lst es) ∧ ds.length + es.length ≤ 100000 ∧ At K S H0 (M1.set k (a, .lst (ds ++ es))) ρ (tz D))) :
    At K S H0 M ρ (tSeq (tDrop (tBM K "list" rExtend (tVar i) (tCons te tNil))) tz D) := fun σ H s => ext_core hi hk h s
theorem s_ext {i k : Nat} {a : Addr} {ds0 : List PyData} (hi : ρ[i]? = some (.adr a)) (hk : M[k]? = some (a, .lst ds0)) (h : Eva K M ρ te (fun M1 x => ∃ (ds : List PyData) (b : Addr) (j : Nat) (es : List PyData), M1[k]? = some (a, .lst ds) ∧ x = .adr b ∧ M1[j]? = some (b, .lst es) ∧ ds.length + es.length ≤ 100000 ∧ At K S H0 (M1.set k (a, .lst (ds ++ es))) ρ D.nx)) :
    At K S H0 M ρ (tDrop (tBM K "list" rExtend (tVar i) (tCons te tNil)) D) := fun σ H s => ext_core hi hk h s
/-- the object at k changes no more; the slot i holds it as data -/
theorem at_freeze {N : L2.St → Hp → Prop} (k i : Nat) {a : Addr} {ds : List PyData} (hk : M[k]? = some (a, .lst ds)) (hi : ρ[i]? = some (.adr a)) (h : At K S H0 (M.eraseIdx k) (ρ.set i (.dat (.list ds))) N) : At K S H0 M ρ N := fun σ H s => h σ H (s.freeze hk hi).1
theorem at_drop {N : L2.St → Hp → Prop} (k : Nat) (h : At K S H0 (M.eraseIdx k) ρ N) : At K S H0 M ρ N := fun σ H s => h σ H (s.drop k).1
theorem at_weak {N : L2.St → Hp → Prop} (w : Weak ρ ρ') (h : At K S H0 M ρ' N) : At K S H0 M ρ N := fun σ H s => h σ H (s.weak w)
theorem at_next (h : At K S H0 M ρ D.nx) : At K S H0 M ρ (tNext D) := h
theorem at_seq (h : At K S H0 M ρ (tu { D with nx := tz D })) : At K S H0 M ρ (tSeq tu tz D) := h
def Ret (K : PySem.W.Frag) (S : Addr → Prop) (H0 : Hp) (M : MS) (ρ : List Sl) (x : Sl) (R : VK) : Prop := ∀ σ H v, Sta K S H0 M ρ σ H → VOk K (hm S M H) v x → R v H
theorem s_ret (h : Eva K M ρ te (fun M1 x => Ret K S H0 M1 ρ x D.rt)) : At K S H0 M ρ (tRet te D) := fun σ H s =>
  h S H0 σ H s _ fun M1 x v H1 p s1 l hv => p σ H1 v s1 hv
theorem q_ret (h : Eva K M ρ te (fun M1 x => Ret K S H0 M1 ρ x D.rt)) : At K S H0 M ρ (tSeq (tRet te) tz D) := fun σ H s =>
  h S H0 σ H s _ fun M1 x v H1 p s1 l hv => p σ H1 v s1 hv
theorem ret_dat {R : VK} {d : PyData} (h : ∀ v H, Le H0 H → Dp K (hide S H) v d → R v H) : Ret K S H0 M ρ (.dat d) R := fun σ H v s hv => h v H s.ex (dp_mono hm_leS hv)
theorem ret_adr {R : VK} {k : Nat} {a : Addr} {ds : List PyData} (hk : M[k]? = some (a, .lst ds)) (h : ∀ v H, Le H0 H → Dp K (hide S H) v (.list ds) → R v H) : Ret K S H0 M ρ (.adr a) R := fun σ H v s hv => by
  obtain ⟨xs, e1, e2⟩ := s.obs _ (List.mem_of_getElem? hk)
  cases (show v = .ref a from hv)
  have na : ¬ S a := s.sm a (List.mem_map.mpr ⟨_, List.mem_of_getElem? hk, rfl⟩)
  exact h _ H s.ex (.lst (SqL.of (by rw [hide_out na]; exact e1)) (dpa_mono hm_leS e2))
/-- the end of a body that falls off -/
theorem at_end {R : VK} (h : ∀ H, Le H0 H → R .non H) : At K S H0 M ρ (fun _ H => R .non H) := fun σ H s => h H s.ex
/-- what an iteration gives -/
structure ItD (K : PySem.W.Frag) (J : It) (B : Hp) (ds : List PyData) : Prop where
  go : ∀ i H, Le B H → i < ds.length → J.go i H
  stop : ∀ H, Le B H → J.stop ds.length H
  yld : ∀ i H x H' d, Le B H → J.yld i H x H' → ds[i]? = some d → Le H H' ∧ ∃ Bx, Le Bx H' ∧ (∀ b, Bx b ≠ none → B b ≠ none ∨ H b = none) ∧ Dp K Bx x d
def EvI (K : PySem.W.Frag) (M : MS) (ρ : List Sl) (wi : TI) (P : MS → List PyData → Prop) : Prop :=
  ∀ S H0 σ H, Sta K S H0 M ρ σ H → ∀ R : It → Hp → Prop, (∀ M' ds J H', P M' ds → Sta K S H0 M' ρ σ H' → Le (hm S M H) (hm S M' H') → ItD K J (hm S M' H') ds → R J H') → wi σ H R
/-- what a turn meets -/
theorem Sta.turn {H1 : Hp} {M1 : MS} {J : It} {ds : List PyData} {i : Nat} {v : V} {d : PyData} (s : Sta K S H0 M ρ σ H) (e : Le (hm S M1 H1) H0) (I : ItD K J (hm S M1 H1) ds) (hy : J.yld i H v H') (hd : ds[i]? = some d) :
    Sta K S H0 M ρ σ H' ∧ Le H H' ∧ VOk K (hm S M H') v (.dat d) := by
  obtain ⟨l, Bx, l2, hb, dp⟩ := I.yld i H v H' d (e.trans s.ex) hy hd
  have s' := s.grow l
  refine ⟨s', l, dp_mono (fun b o q => ?_) dp⟩
  have q2 := l2 b o q
  rcases hb b (by rw [q]; exact fun z => nomatch z) with z | z
  · cases w : hm S M1 H1 b with
    | none => exact absurd w z
    | some o' =>
      have nS : ¬ S b := (hm_some w).1
      have nM : b ∉ ad M := fun m => by
        have := s.fr b m
        rw [e b o' w] at this
        cases this
      rw [hm_at nS nM]
      exact q2
  · obtain ⟨n1, n2⟩ := s.new_out z
    rw [hm_at n1 n2]
    exact q2
/-- the state between two turns -/
def Btw (K : PySem.W.Frag) (S : Addr → Prop) (H0 : Hp) (I : MS → List Sl → Prop) : L2.St → Hp → Prop := fun σ H => ∃ M ρ, I M ρ ∧ Sta K S H0 M ρ σ H
theorem at_btw {I : MS → List Sl → Prop} (ρ' : List Sl) (w : Weak ρ ρ') (h : I M ρ') : At K S H0 M ρ (Btw K S H0 I) := fun σ H s => ⟨M, ρ', h, s.weak w⟩
theorem for_core {wi : TI} (I : List PyData → Nat → MS → List Sl → Prop)
    (h : EvI K M ρ wi (fun M1 ds => I ds 0 M1 ρ ∧
      (∀ i d M ρ, ds[i]? = some d → I ds i M ρ → ∃ ρ' ts, Tgt K g (.dat d) ρ ρ' ts ∧ ∀ B, Le H0 B → At K S B M ρ' (tu { D with nx := Btw K S B (I ds (i + 1)), ct := Btw K S B (I ds (i + 1)), bk := D.nx })) ∧
      (∀ M ρ, I ds ds.length M ρ → At K S H0 M ρ D.nx))) : At K S H0 M ρ (tFor wi g tu D) := fun σ H s => by
  refine h S H0 σ H s _ fun M1 ds J H1 p s1 l1 it => ?_
  obtain ⟨i0, step, fin⟩ := p
  obtain ⟨s2, lB, lh⟩ := s1.raise
  refine ⟨fun i m σ' H' => m = ds.length - i ∧ i ≤ ds.length ∧ Btw K S (_root_.D.base M1 H1) (I ds i) σ' H', ⟨ds.length, by simp, Nat.zero_le _, M1, ρ, i0, s2⟩, ?_⟩
  rintro i m σ' H' ⟨rfl, hi, M2, ρ2, i2, st⟩
  have hle : Le (hm S M1 H1) H' := lh.trans st.ex
  by_cases hlt : i < ds.length
  · refine .inr ⟨it.go i H' hle hlt, Btw K S (_root_.D.base M1 H1) (I ds (i + 1)), fun σ3 H3 b => ⟨ds.length - (i + 1), by omega, rfl, hlt, b⟩, fun v H3 hy => ?_⟩
    have hd : ds[i]? = some ds[i] := List.getElem?_eq_getElem hlt
    obtain ⟨st3, l3, hv⟩ := st.turn lh it hy hd
    obtain ⟨ρ', ts, ht, k⟩ := step i _ M2 ρ2 hd i2
    exact ht S (_root_.D.base M1 H1) M2 σ' H3 v st3 hv _ fun σ4 st4 _ => k (_root_.D.base M1 H1) lB σ4 H3 st4
  · have e : i = ds.length := by omega
    subst e
    exact .inl ⟨it.stop H' hle, fin M2 ρ2 i2 σ' H' (st.lower lB)⟩
theorem q_for {wi : TI} (I : List PyData → Nat → MS → List Sl → Prop)
    (h : EvI K M ρ wi (fun M1 ds => I ds 0 M1 ρ ∧
      (∀ i d M ρ, ds[i]? = some d → I ds i M ρ → ∃ ρ' ts, Tgt K g (.dat d) ρ ρ' ts ∧ ∀ B, Le H0 B → At K S B M ρ' (tu { D with nx := Btw K S B (I ds (i + 1)), ct := Btw K S B (I ds (i + 1)), bk := tz D })) ∧
      (∀ M ρ, I ds ds.length M ρ → At K S H0 M ρ (tz D)))) : At K S H0 M ρ (tSeq (tFor wi g tu) tz D) := for_core (D := { D with nx := tz D }) I h
section
variable {P : MS → List PyData → Prop}
theorem itd_list {B : Hp} {a : Addr} {xs : List V} {ds : List PyData} (h : SqL K B a xs) (hd : DpAll K B xs ds) : ItD K (Itl K a) B ds where
  go := fun i H e hi => by
    rw [← dpa_len hd] at hi
    exact ⟨xs, xs[i], e.l h, List.getElem?_eq_getElem hi⟩
  stop := fun H e => ⟨xs, e.l h, Nat.le_of_eq (dpa_len hd)⟩
  yld := fun i H x H' d e y hx => by
    obtain ⟨rfl, q⟩ := y
    obtain ⟨v, e1, e2⟩ := dpa_get hd hx
    have e3 : x = v := Option.some.inj ((q xs (e.l h)).symm.trans e1)
    subst e3
    exact ⟨.refl _, B, e, fun b hb => .inl hb, e2⟩
theorem itd_tup {B : Hp} {a : Addr} {xs : List V} {ds : List PyData} (h : SqT K B a xs) (hd : DpAll K B xs ds) : ItD K (Itt K a) B ds where
  go := fun i H e hi => by
    rw [← dpa_len hd] at hi
    exact ⟨xs, xs[i], e.t h, List.getElem?_eq_getElem hi⟩
  stop := fun H e => ⟨xs, e.t h, Nat.le_of_eq (dpa_len hd)⟩
  yld := fun i H x H' d e y hx => by
    obtain ⟨rfl, q⟩ := y
    obtain ⟨v, e1, e2⟩ := dpa_get hd hx
    have e3 : x = v := Option.some.inj ((q xs (e.t h)).symm.trans e1)
    subst e3
    exact ⟨.refl _, B, e, fun b hb => .inl hb, e2⟩
theorem itd_rev {B : Hp} {a : Addr} {xs : List V} {ds : List PyData} (h : SqL K B a xs) (hd : DpAll K B xs ds) : ItD K (Itv K a xs.length) B ds.reverse where
  go := fun i H e hi => by
    rw [List.length_reverse, ← dpa_len hd] at hi
    exact ⟨hi, xs, xs[xs.length - 1 - i], e.l h, List.getElem?_eq_getElem (by omega)⟩
  stop := fun H e => by
    show xs.length ≤ ds.reverse.length
    rw [List.length_reverse, dpa_len hd]
    exact Nat.le_refl _
  yld := fun i H x H' d e y hx => by
    obtain ⟨rfl, q⟩ := y
    obtain ⟨v, e1, e2⟩ := dpa_get (dpa_reverse hd) hx
    have hi : i < xs.length := by
      have := (List.getElem?_eq_some_iff.mp e1).1
      rwa [List.length_reverse] at this
    rw [List.getElem?_reverse hi] at e1
    have e3 : x = v := Option.some.inj ((q xs (e.l h)).symm.trans e1)
    subst e3
    exact ⟨.refl _, B, e, fun b hb => .inl hb, e2⟩
def rngD (lo c : Int) (n : Nat) : List PyData := (List.range n).map fun (i : Nat) => .int (lo + (i : Int) * c)
theorem rngD_len (lo c : Int) (n : Nat) : (rngD lo c n).length = n := by simp [rngD]
theorem rngD_get {lo c : Int} {n i : Nat} {d : PyData} (h : (rngD lo c n)[i]? = some d) : i < n ∧ d = .int (lo + (i : Int) * c) := by
  have hi := (List.getElem?_eq_some_iff.mp h).1
  rw [rngD_len] at hi
  unfold rngD at h
  rw [List.getElem?_map, List.getElem?_range hi] at h
  exact ⟨hi, (Option.some.inj h).symm⟩
theorem itd_range {B : Hp} {lo : Int} {n : Nat} : ItD K (Itr lo n) B (rngD lo 1 n) where
  go := fun i H e hi => by
    rw [rngD_len] at hi
    exact hi
  stop := fun H e => by
    rw [rngD_len]
    exact Nat.le_refl n
  yld := fun i H x H' d e y hx => by
    obtain ⟨rfl, rfl⟩ := y
    obtain ⟨_, rfl⟩ := rngD_get hx
    refine ⟨.refl _, B, e, fun b hb => .inl hb, ?_⟩
    rw [Int.mul_one]
    exact .int _
theorem itd_rangeC {B : Hp} {lo c : Int} {n : Nat} : ItD K (Itc lo c n) B (rngD lo c n) where
  go := fun i H e hi => by
    rw [rngD_len] at hi
    exact hi
  stop := fun H e => by
    rw [rngD_len]
    exact Nat.le_refl n
  yld := fun i H x H' d e y hx => by
    obtain ⟨rfl, rfl⟩ := y
    obtain ⟨_, rfl⟩ := rngD_get hx
    exact ⟨.refl _, B, e, fun b hb => .inl hb, .int _⟩
def enumD : Nat → List PyData → List PyData
  | _, [] => []
  | k, d :: r => .tuple [.int k, d] :: enumD (k + 1) r
theorem enumD_len : ∀ (k : Nat) (ds : List PyData), (enumD k ds).length = ds.length
  | _, [] => rfl
  | k, d :: r => by
    show (enumD (k + 1) r).length + 1 = r.length + 1
    rw [enumD_len]
theorem enumD_get : ∀ {ds : List PyData} {k i : Nat} {d : PyData}, (enumD k ds)[i]? = some d → ∃ e, ds[i]? = some e ∧ d = .tuple [.int (k + i : Nat), e]
  | [], _, _, _, h => by simp [enumD] at h
  | d :: r, k, 0, _, h => by
    have e : PyData.tuple [.int k, d] = _ := Option.some.inj h
    exact ⟨d, rfl, e.symm⟩
  | d :: r, k, i + 1, x, h => by
    obtain ⟨e, h1, h2⟩ := enumD_get (ds := r) (k := k + 1) (i := i) h
    exact ⟨e, h1, by rw [h2, Nat.add_assoc, Nat.add_comm 1 i]⟩
/-- a new pair at each turn -/
theorem itd_pair {B H : Hp} {T : Addr} {xs : List V} {ds : List PyData} (e : Le B H) (hT : H T = none) (h : DpAll K B xs ds) : Le H (upd H T (.tup xs)) ∧ ∃ Bx, Le Bx (upd H T (.tup xs)) ∧ (∀ b, Bx b ≠ none → B b ≠ none ∨ H b = none) ∧ Dp K Bx (.ref T) (.tuple ds) := by
  refine ⟨.new hT, upd B T (.tup xs), fun b o q => ?_, fun b hb => ?_, .tup (SqT.of upd_same) (dpa_mono (.new (e.none hT)) h)⟩
  · by_cases z : b = T
    · subst z
      rw [upd_same] at q ⊢
      exact q
    · rw [upd_ne z] at q ⊢
      exact e b o q
  · by_cases z : b = T
    · rw [z]
      exact .inr hT
    · rw [upd_ne z] at hb
      exact .inl hb
theorem itd_enum {B : Hp} {a : Addr} {xs : List V} {ds : List PyData} (h : SqL K B a xs) (hd : DpAll K B xs ds) : ItD K (Ite K a) B (enumD 0 ds) where
  go := fun i H e hi => by
    rw [enumD_len, ← dpa_len hd] at hi
    exact ⟨xs, xs[i], e.l h, List.getElem?_eq_getElem hi⟩
  stop := fun H e => ⟨xs, e.l h, by rw [enumD_len]; exact Nat.le_of_eq (dpa_len hd)⟩
  yld := fun i H x H' d e y hx => by
    obtain ⟨T, z, rfl, hT, rfl, q⟩ := y
    obtain ⟨d', e1, rfl⟩ := enumD_get hx
    obtain ⟨v, e2, e3⟩ := dpa_get hd e1
    have e4 : z = v := Option.some.inj ((q xs (e.l h)).symm.trans e2)
    subst e4
    rw [Nat.zero_add]
    exact itd_pair e hT (.cons (.int _) (.cons e3 .nil))
def zipD (ds es : List PyData) : List PyData := List.zipWith (fun d e => .tuple [d, e]) ds es
theorem zipD_len (ds es : List PyData) : (zipD ds es).length = min ds.length es.length := by simp [zipD]
theorem zipD_get {ds es : List PyData} {i : Nat} {x : PyData} (h : (zipD ds es)[i]? = some x) : ∃ d e, ds[i]? = some d ∧ es[i]? = some e ∧ x = .tuple [d, e] := by
  unfold zipD at h
  rw [List.getElem?_zipWith] at h
  cases h1 : ds[i]? with
  | none =>
    rw [h1] at h
    simp at h
  | some d =>
    cases h2 : es[i]? with
    | none =>
      rw [h1, h2] at h
      simp at h
    | some e =>
      rw [h1, h2] at h
      exact ⟨d, e, rfl, rfl, (Option.some.inj h).symm⟩
theorem itd_zip {B : Hp} {a b : Addr} {xs ys : List V} {ds es : List PyData} (h : SqL K B a xs) (hd : DpAll K B xs ds) (h' : SqL K B b ys) (hd' : DpAll K B ys es) : ItD K (Itz K a b) B (zipD ds es) where
  go := fun i H e hi => by
    rw [zipD_len, ← dpa_len hd, ← dpa_len hd'] at hi
    exact ⟨xs, ys, xs[i], ys[i], e.l h, e.l h', List.getElem?_eq_getElem (by omega), List.getElem?_eq_getElem (by omega)⟩
  stop := fun H e => ⟨xs, ys, e.l h, e.l h', by rw [zipD_len, ← dpa_len hd, ← dpa_len hd']; omega⟩
  yld := fun i H x H' d e y hx => by
    obtain ⟨T, z, z', rfl, hT, rfl, q, q'⟩ := y
    obtain ⟨d1, d2, e1, e1', rfl⟩ := zipD_get hx
    obtain ⟨v, e2, e3⟩ := dpa_get hd e1
    obtain ⟨v', e2', e3'⟩ := dpa_get hd' e1'
    have e4 : z = v := Option.some.inj ((q xs (e.l h)).symm.trans e2)
    have e5 : z' = v' := Option.some.inj ((q' ys (e.l h')).symm.trans e2')
    subst e4 e5
    exact itd_pair e hT (.cons e3 (.cons e3' .nil))
theorem evi_list (h : Eva K M ρ te (fun M1 x => ∃ ds, x = .dat (.list ds) ∧ P M1 ds)) : EvI K M ρ (iList K te) P := fun S H0 σ H s R f => by
  refine h S H0 σ H s _ fun M1 x v H1 p s1 l1 hv => ?_
  obtain ⟨ds, rfl, k⟩ := p
  obtain ⟨a, xs, rfl, g1, g2⟩ := dp_list hv
  exact ⟨a, rfl, ⟨xs, hm_le.l g1⟩, f M1 ds _ H1 k s1 l1 (itd_list g1 g2)⟩
theorem evi_tup (h : Eva K M ρ te (fun M1 x => ∃ ds, x = .dat (.tuple ds) ∧ P M1 ds)) : EvI K M ρ (iTup K te) P := fun S H0 σ H s R f => by
  refine h S H0 σ H s _ fun M1 x v H1 p s1 l1 hv => ?_
  obtain ⟨ds, rfl, k⟩ := p
  obtain ⟨a, xs, rfl, g1, g2⟩ := dp_tup hv
  exact ⟨a, rfl, ⟨xs, hm_le.t g1⟩, f M1 ds _ H1 k s1 l1 (itd_tup g1 g2)⟩
theorem evi_rev {ta : TA} (h : EvA K M ρ ta (fun M1 ss => ∃ ds, ss = [.dat (.list ds)] ∧ P M1 ds.reverse)) : EvI K M ρ (iRev K ta) P := fun S H0 σ H s R f => by
  refine h S H0 σ H s _ fun M1 x v H1 p s1 l1 hv => ?_
  obtain ⟨ds, rfl, k⟩ := p
  obtain ⟨v, rfl, hv2⟩ := vall1 hv
  obtain ⟨a, xs, rfl, g1, g2⟩ := dp_list hv2
  exact ⟨a, xs, rfl, hm_le.l g1, f M1 _ _ H1 k s1 l1 (itd_rev g1 g2)⟩
theorem evi_enum {ta : TA} (h : EvA K M ρ ta (fun M1 ss => ∃ ds, ss = [.dat (.list ds)] ∧ P M1 (enumD 0 ds))) : EvI K M ρ (iEnum K ta) P := fun S H0 σ H s R f => by
  refine h S H0 σ H s _ fun M1 x v H1 p s1 l1 hv => ?_
  obtain ⟨ds, rfl, k⟩ := p
  obtain ⟨v, rfl, hv2⟩ := vall1 hv
  obtain ⟨a, xs, rfl, g1, g2⟩ := dp_list hv2
  exact ⟨a, xs, rfl, hm_le.l g1, f M1 _ _ H1 k s1 l1 (itd_enum g1 g2)⟩
theorem evi_zip {ta : TA} (h : EvA K M ρ ta (fun M1 ss => ∃ ds es, ss = [.dat (.list ds), .dat (.list es)] ∧ P M1 (zipD ds es))) : EvI K M ρ (iZip K ta) P := fun S H0 σ H s R f => by
  refine h S H0 σ H s _ fun M1 x v H1 p s1 l1 hv => ?_
  obtain ⟨ds, es, rfl, k⟩ := p
  obtain ⟨v, w, rfl, hv2, hw2⟩ := vall2 hv
  obtain ⟨a, xs, rfl, g1, g2⟩ := dp_list hv2
  obtain ⟨b, ys, rfl, g3, g4⟩ := dp_list hw2
  exact ⟨a, b, xs, ys, rfl, hm_le.l g1, hm_le.l g3, f M1 _ _ H1 k s1 l1 (itd_zip g1 g2 g3 g4)⟩
theorem evi_range1 {ta : TA} (h : EvA K M ρ ta (fun M1 ss => ∃ n : Int, ss = [.dat (.int n)] ∧ 0 ≤ n ∧ n ≤ 100000 ∧ P M1 (rngD 0 1 n.toNat))) : EvI K M ρ (iRng1 ta) P := fun S H0 σ H s R f => by
  refine h S H0 σ H s _ fun M1 x v H1 p s1 l1 hv => ?_
  obtain ⟨n, rfl, h1, h2, k⟩ := p
  obtain ⟨v, rfl, hv2⟩ := vall1 hv
  exact ⟨n, by rw [dp_int hv2], by omega, by omega, f M1 _ _ H1 k s1 l1 itd_range⟩
theorem evi_range2 {ta : TA} (h : EvA K M ρ ta (fun M1 ss => ∃ i n : Int, ss = [.dat (.int i), .dat (.int n)] ∧ -100000 ≤ i ∧ i ≤ 100000 ∧ -100000 ≤ n ∧ n ≤ 100000 ∧ P M1 (rngD i 1 (n - i).toNat))) : EvI K M ρ (iRng2 ta) P := fun S H0 σ H s R f => by
  refine h S H0 σ H s _ fun M1 x v H1 p s1 l1 hv => ?_
  obtain ⟨i, n, rfl, h1, h2, h3, h4, k⟩ := p
  obtain ⟨v, w, rfl, hv2, hw2⟩ := vall2 hv
  exact ⟨i, n, by rw [dp_int hv2, dp_int hw2], ⟨by omega, by omega, by omega, by omega⟩, f M1 _ _ H1 k s1 l1 itd_range⟩
theorem evi_rangeN {ta : TA} (h : EvA K M ρ ta (fun M1 ss => ∃ i n : Int, ss = [.dat (.int i), .dat (.int n), .dat (.int (-1))] ∧ -100000 ≤ i ∧ i ≤ 100000 ∧ -100000 ≤ n ∧ n ≤ 100000 ∧ P M1 (rngD i (-1) (i - n).toNat))) : EvI K M ρ (iRng3 ta) P := fun S H0 σ H s R f => by
  refine h S H0 σ H s _ fun M1 x v H1 p s1 l1 hv => ?_
  obtain ⟨i, n, rfl, h1, h2, h3, h4, k⟩ := p
  cases hv with
  | cons hv ht =>
    obtain ⟨w, u, rfl, hw, hu⟩ := vall2 ht
    exact ⟨i, n, -1, _, by rw [dp_int hv, dp_int hw, dp_int hu], .neg (by omega) (by omega) (by omega) (by omega), f M1 _ _ H1 k s1 l1 itd_rangeC⟩
end
def wipeS (ρ : List Sl) : List Nat → List Sl
  | [] => ρ
  | v :: vs => (wipeS ρ vs).set v .no
theorem wipeS_len (ρ : List Sl) : ∀ vs : List Nat, (wipeS ρ vs).length = ρ.length
  | [] => rfl
  | v :: vs => by
    unfold wipeS
    rw [List.length_set, wipeS_len ρ vs]
theorem Sta.wipe (s : Sta K S H0 M ρ σ H) : ∀ vs : List Nat, Sta K S H0 M (wipeS ρ vs) (L2.wipe σ vs) H
  | [] => s
  | v :: vs => by
    have r := Sta.wipe s vs
    refine { r with len := ?_, env := fun j y hy => ?_ }
    · unfold wipeS L2.wipe
      rw [List.length_set, List.length_set, r.len]
    · unfold wipeS at hy
      unfold L2.wipe
      by_cases e : v = j
      · subst e
        by_cases hl : v < (wipeS ρ vs).length
        · rw [List.getElem?_set_self hl] at hy
          cases hy
          trivial
        · rw [List.getElem?_eq_none (by rw [List.length_set]; omega)] at hy
          cases hy
      · rw [List.getElem?_set_ne e] at hy ⊢
        exact r.env j y hy
theorem filterMap_take {f : PyData → Option PyData} {ds : List PyData} {i : Nat} {d : PyData} (h : ds[i]? = some d) : (ds.take (i + 1)).filterMap f = (ds.take i).filterMap f ++ (f d).toList := by
  rw [List.take_add_one, h, List.filterMap_append]
  cases q : f d with
  | none => simp [q]
  | some z => simp [q]
/-- the object at L, hidden while a block runs -/
theorem Sta.cover {L : Addr} {m : MO} (q : Sta K S H0 ((L, m) :: M) ρ σ H) : Sta K (fun b => S b ∨ b = L) (_root_.D.base M H) M ρ σ H ∧ hm (fun b => S b ∨ b = L) M H = hm S ((L, m) :: M) H := by
  have eh : hm (fun b => S b ∨ b = L) M H = hm S ((L, m) :: M) H := by
    unfold hm
    have ep : (fun b => (S b ∨ b = L) ∨ b ∈ ad M) = (fun b => S b ∨ b ∈ ad ((L, m) :: M)) := by
      funext b
      apply propext
      show (S b ∨ b = L) ∨ b ∈ ad M ↔ S b ∨ b ∈ L :: ad M
      rw [List.mem_cons]
      constructor
      · rintro ((z | z) | z)
        · exact .inl z
        · exact .inr (.inl z)
        · exact .inr (.inr z)
      · rintro (z | z | z)
        · exact .inl (.inl z)
        · exact .inl (.inr z)
        · exact .inr z
    rw [ep]
  refine ⟨⟨hide_le _ _, fun p hp => hide_in hp, fun b hb => ?_, fun p hp z => ?_, (List.nodup_cons.mp q.nd).2, q.len, fun j y hy => ?_, fun y hy => ?_⟩, eh⟩
  · rcases hb with z | z
    · exact q.sd b z
    · rw [z]
      exact q.tracked List.mem_cons_self
  · rcases z with z | z
    · exact q.sm p (List.mem_cons_of_mem _ hp) z
    · rw [z] at hp
      exact (List.nodup_cons.mp q.nd).1 hp
  · rw [eh]
    exact q.env j y hy
  · rw [eh]
    exact q.obs y (List.mem_cons_of_mem _ hy)
theorem Sta.uncover {L : Addr} {m m' : MO} {o : HO} {B' : Hp} {ρ4 : List Sl} {σ4 : L2.St} {H6 : Hp} (s : Sta K S H0 ((L, m) :: M) ρ σ H) (c : Sta K (fun b => S b ∨ b = L) B' M ρ4 σ4 H6) (e : Le (_root_.D.base M H) H6) (h : MOk K (hm (fun b => S b ∨ b = L) M H6) (some o) m') :
    Sta K S H0 ((L, m') :: M) ρ σ (upd H6 L o) ∧ Le (hm S ((L, m) :: M) H) (hm S ((L, m') :: M) (upd H6 L o)) := by
  have kp : ∀ b u, b ≠ L → b ∉ ad M → H b = some u → upd H6 L o b = some u := fun b u n1 n2 q => by
    rw [upd_ne n1]
    refine e b u ?_
    unfold _root_.D.base
    rw [hide_out n2]
    exact q
  have el : Le (hm S ((L, m) :: M) H) (hm S ((L, m') :: M) (upd H6 L o)) := fun b u q => by
    obtain ⟨h1, h2, h3⟩ := hm_some q
    have n1 : b ≠ L := fun z => h2 (by rw [z]; exact List.mem_cons_self)
    have n2 : b ∉ ad M := fun z => h2 (List.mem_cons_of_mem _ z)
    rw [hm_at h1 (show b ∉ ad ((L, m') :: M) from h2)]
    exact kp b u n1 n2 h3
  have el2 : Le (hm (fun b => S b ∨ b = L) M H6) (hm S ((L, m') :: M) (upd H6 L o)) := fun b u q => by
    obtain ⟨h1, h2, h3⟩ := hm_some q
    have n1 : b ≠ L := fun z => h1 (.inr z)
    rw [hm_at (fun z => h1 (.inl z)) (fun z => by
      rcases List.mem_cons.mp z with z | z
      · exact n1 z
      · exact h2 z), upd_ne n1]
    exact h3
  refine ⟨⟨fun b u q => ?_, s.fr, fun b hb => ?_, s.sm, s.nd, s.len, fun i x hx => (s.env i x hx).mono el, fun q hq => ?_⟩, el⟩
  · refine kp b u (fun z => ?_) (fun z => ?_) (s.ex b u q)
    · rw [z, s.fr L List.mem_cons_self] at q
      cases q
    · rw [s.fr b (List.mem_cons_of_mem _ z)] at q
      cases q
  · rw [upd_ne (fun z => s.sm L List.mem_cons_self (by rw [← z]; exact hb))]
    exact c.sd b (.inl hb)
  · rcases List.mem_cons.mp hq with z | z
    · subst z
      show MOk K _ (upd H6 L o L) m'
      rw [upd_same]
      exact h.mono el2
    · have n1 : q.1 ≠ L := fun w => (List.nodup_cons.mp s.nd).1 (by
        show L ∈ ad M
        rw [← w]
        exact List.mem_map.mpr ⟨q, z, rfl⟩)
      rw [upd_ne n1]
      exact (c.obs q z).mono el2
theorem lc_len {f : PyData → Option PyData} (ds : List PyData) : (ds.filterMap f).length ≤ ds.length := List.length_filterMap_le f ds
/-- [elt for target in iter if test]: f says what an item gives -/
theorem lcD_core {wi : TI} {tt : TT} {vs : List Nat} {Q : VK} (f : PyData → Option PyData) {P : MS → List PyData → Prop}
    (h : EvI K M ρ wi (fun M1 ds => ds.length ≤ 50000 ∧ (∀ d, d ∈ ds → ∃ ρ' ts, Tgt K g (.dat d) (wipeS ρ vs) ρ' ts ∧ (∀ i ∈ ts, i ∈ vs) ∧
      EvT K M1 ρ' tt (fun M2 b => M2 = M1 ∧ if b = true then ∃ e, f d = some e ∧ Eva K M1 ρ' te (fun M3 x => M3 = M1 ∧ x = .dat e) else f d = none)) ∧ P M1 ds))
    (s : Sta K S H0 M ρ σ H) (q : ∀ M1 ds L H1, P M1 ds → Sta K S H0 ((L, .lst (ds.filterMap f)) :: M1) ρ σ H1 → Le (hm S M H) (hm S ((L, .lst (ds.filterMap f)) :: M1) H1) → Q (.ref L) H1) : tLc wi g tt te vs σ H Q := by
  refine h S H0 σ H s _ fun M1 ds J H1 p s1 l1 it => ?_
  obtain ⟨hlen, step, k⟩ := p
  intro L hL
  obtain ⟨s2, lB, lh⟩ := s1.raise
  obtain ⟨s3, l3⟩ := s2.own (m := .lst []) (o := .lst []) hL ⟨[], rfl, .nil⟩
  refine ⟨fun i m H' => m = ds.length - i ∧ i ≤ ds.length ∧ Le (hm S M1 H1) (hm S ((L, .lst ((ds.take i).filterMap f)) :: M1) H') ∧ Sta K S (_root_.D.base M1 H1) ((L, .lst ((ds.take i).filterMap f)) :: M1) ρ σ H', ⟨ds.length, by simp, Nat.zero_le _, l3, s3⟩, ?_⟩
  rintro i m H' ⟨rfl, hi, lc, st⟩
  have hle : Le (hm S M1 H1) H' := lh.trans st.ex
  by_cases hlt : i < ds.length
  · refine .inr ⟨it.go i H' hle hlt, fun H2 => Le (hm S M1 H1) (hm S ((L, .lst ((ds.take (i + 1)).filterMap f)) :: M1) H2) ∧ Sta K S (_root_.D.base M1 H1) ((L, .lst ((ds.take (i + 1)).filterMap f)) :: M1) ρ σ H2, fun H2 b => ⟨ds.length - (i + 1), by omega, rfl, hlt, b⟩, fun v H3 hy => ?_⟩
    have hd : ds[i]? = some ds[i] := List.getElem?_eq_getElem hlt
    obtain ⟨st3, lx, hv⟩ := st.turn lh it hy hd
    have lc3 := lc.trans (hm_mono (S := S) (M := (L, .lst ((ds.take i).filterMap f)) :: M1) lx)
    obtain ⟨ρ', ts, ht, hts, ev⟩ := step _ (List.mem_of_getElem? hd)
    refine ht S _ _ _ H3 v (st3.wipe vs) hv _ fun σ4 st4 on => ?_
    refine ⟨on.wipe hts, ?_⟩
    obtain ⟨c4, e4⟩ := st4.cover
    have eb : Le (_root_.D.base M1 H3) H3 := hide_le _ _
    obtain ⟨xs, x1, x2⟩ := st3.obs _ List.mem_cons_self
    have nL : L ∉ ad M1 := (List.nodup_cons.mp st3.nd).1
    have bL : _root_.D.base M1 H3 L = some (.lst xs) := by
      unfold _root_.D.base
      rw [hide_out nL]
      exact x1
    refine ev _ _ σ4 H3 c4 _ fun M2 b H5 pb c5 l5 => ?_
    obtain ⟨rfl, pb⟩ := pb
    cases b with
    | false =>
      have pb : f ds[i] = none := pb
      show Le (hm S M2 H1) (hm S ((L, .lst ((ds.take (i + 1)).filterMap f)) :: M2) H5) ∧ Sta K S (_root_.D.base M2 H1) ((L, .lst ((ds.take (i + 1)).filterMap f)) :: M2) ρ σ H5
      rw [filterMap_take hd, pb]
      show Le (hm S M2 H1) (hm S ((L, .lst ((ds.take i).filterMap f ++ [])) :: M2) H5) ∧ Sta K S (_root_.D.base M2 H1) ((L, .lst ((ds.take i).filterMap f ++ [])) :: M2) ρ σ H5
      rw [List.append_nil]
      have e5 := c5.ex L _ bL
      obtain ⟨r1, r2⟩ := st3.uncover (m' := .lst ((ds.take i).filterMap f)) (o := .lst xs) c5 c5.ex ⟨xs, rfl, by
        rw [← e4] at x2
        exact dpa_mono l5 x2⟩
      have eu : upd H5 L (.lst xs) = H5 := by
        funext b
        by_cases z : b = L
        · rw [z, upd_same, e5]
        · rw [upd_ne z]
      rw [eu] at r1 r2
      exact ⟨lc3.trans r2, r1⟩
    | true =>
      obtain ⟨e, he, ee⟩ := (show ∃ e, f ds[i] = some e ∧ Eva K M2 ρ' te (fun M3 x => M3 = M2 ∧ x = .dat e) from pb)
      show te σ4 H5 _
      refine ee _ _ σ4 H5 c5 _ fun M3 x w H6 px c6 l6 hw => ?_
      obtain ⟨rfl, rfl⟩ := px
      have e6 := c6.ex L _ bL
      refine ⟨xs, e6, ?_, ?_⟩
      · rw [dpa_len x2]
        exact Nat.lt_of_le_of_lt (lc_len _) (Nat.lt_of_le_of_lt (List.length_take_le _ _) (Nat.lt_of_lt_of_le (show i < 50000 by omega) (by decide)))
      · rw [filterMap_take hd, he]
        obtain ⟨r1, r2⟩ := st3.uncover (m' := .lst ((ds.take i).filterMap f ++ [e])) (o := .lst (xs ++ [w])) c6 c6.ex ⟨xs ++ [w], rfl, dpa_append (by
          rw [← e4] at x2
          exact dpa_mono (l5.trans l6) x2) (.cons hw .nil)⟩
        exact ⟨lc3.trans r2, r1⟩
  · have e : i = ds.length := by omega
    subst e
    refine .inl ⟨it.stop H' hle, ?_⟩
    rw [List.take_length] at st lc
    exact q M1 ds L H' k (st.lower lB) (l1.trans lc)
theorem eva_lc {wi : TI} {tt : TT} {vs : List Nat} {P : MS → Sl → Prop} (f : PyData → Option PyData)
    (h : EvI K M ρ wi (fun M1 ds => ds.length ≤ 50000 ∧ (∀ d, d ∈ ds → ∃ ρ' ts, Tgt K g (.dat d) (wipeS ρ vs) ρ' ts ∧ (∀ i ∈ ts, i ∈ vs) ∧
      EvT K M1 ρ' tt (fun M2 b => M2 = M1 ∧ if b = true then ∃ e, f d = some e ∧ Eva K M1 ρ' te (fun M3 x => M3 = M1 ∧ x = .dat e) else f d = none)) ∧ P M1 (.dat (.list (ds.filterMap f))))) : Eva K M ρ (tLc wi g tt te vs) P := fun S H0 σ H s Q fin => by
  refine lcD_core f h s fun M1 ds L H1 k st l => ?_
  obtain ⟨g1, l2⟩ := st.drop 0
  obtain ⟨xs, x1, x2⟩ := st.obs _ List.mem_cons_self
  have nL : L ∉ ad M1 := (List.nodup_cons.mp st.nd).1
  refine fin M1 _ (.ref L) H1 k g1 (l.trans l2) (.lst (SqL.of ?_) (dpa_mono l2 x2))
  show hm S M1 H1 L = _
  rw [hm_at (st.sm L List.mem_cons_self) nL]
  exact x1
end
end D
namespace D
open PySem PySem.Spec PyProof.Rows L2
/-- a promise without effects: on data with pre, data with post -/
def spP (K : PySem.W.Frag) {α : Type} (enc : α → List PyData) (pre : α → Prop) (post : α → PyData → Prop) : Sp := fun vs H Q _ =>
  ∃ (S : Addr → Prop) (x : α), (∀ b, S b → H b ≠ none) ∧ DpAll K (hide S H) vs (enc x) ∧ pre x ∧ ∀ d, post x d → ∀ v H', Le H H' → Dp K (hide S H') v d → Q v H'
abbrev Src := Int × Int × Int
abbrev srcD (s : Src) : List PyData := [.int s.1, .int s.2.1, .int s.2.2]
abbrev srcV (s : Src) : List V := [.int s.1, .int s.2.1, .int s.2.2]
/-- a promise of a def that draws: its first argument is the source, a list of three ints that changes -/
def spS (K : PySem.W.Frag) {α : Type} (enc : α → List PyData) (pre : Src → α → Prop) (post : Src → α → PyData → Src → Prop) : Sp := fun vs H Q _ =>
  ∃ (S : Addr → Prop) (a : Addr) (us : List V) (s : Src) (x : α), vs = .ref a :: us ∧ ¬ S a ∧ (∀ b, S b → H b ≠ none) ∧ H a = some (.lst (srcV s)) ∧ DpAll K (hide (fun b => S b ∨ b = a) H) us (enc x) ∧ pre s x ∧
    ∀ d s', post s x d s' → ∀ v H', (∀ b o, b ≠ a → H b = some o → H' b = some o) → H' a = some (.lst (srcV s')) → Dp K (hide (fun b => S b ∨ b = a) H') v d → Q v H'
section
variable {K : PySem.W.Frag} {S : Addr → Prop} {H0 H H' : Hp} {M M' : MS} {ρ ρ' : List Sl} {σ : L2.St} {P : MS → Sl → Prop} {E : XK} {ta : TA}
theorem eva_call {α : Type} {enc : α → List PyData} {pre : α → Prop} {post : α → PyData → Prop} (h : EvA K M ρ ta (fun M1 ss => ∃ x, datS ss = some (enc x) ∧ pre x ∧ ∀ d, post x d → P M1 (.dat d))) : Eva K M ρ (tCall (spP K enc pre post) [] E ta) P := fun S H0 σ H s Q f => by
  refine h S H0 σ H s _ fun M1 ss vs H1 p s1 l1 hv => ?_
  obtain ⟨ds, e, hp, k⟩ := p
  rw [datS_map e] at hv
  refine ⟨fun b => S b ∨ b ∈ ad M1, ds, fun b hb => ?_, ?_, hp, fun d hd v H2 l2 dp => ?_⟩
  · rcases hb with z | z
    · exact s1.sd b z
    · exact s1.tracked z
  · rw [List.append_nil]
    exact hv.dats
  · exact f M1 (.dat d) v H2 (k d hd) (s1.grow l2) (l1.trans (hm_mono l2)) dp
theorem srcV_of {xs : List V} {s : Src} {Hm : Hp} (h : DpAll K Hm xs (srcD s)) : xs = srcV s := by
  have e : DpAll K Hm xs (di [s.1, s.2.1, s.2.2]) := h
  exact dpa_ints e
theorem srcV_dp {s : Src} {Hm : Hp} : DpAll K Hm (srcV s) (srcD s) := dpa_ofInts [s.1, s.2.1, s.2.2]
theorem eva_callS {α : Type} {enc : α → List PyData} {pre : Src → α → Prop} {post : Src → α → PyData → Src → Prop}
    (h : EvA K M ρ ta (fun M1 ss => ∃ (k : Nat) (a : Addr) (s : Src) (ss' : List Sl) (x : α), ss = .adr a :: ss' ∧ datS ss' = some (enc x) ∧ M1[k]? = some (a, .lst (srcD s)) ∧ pre s x ∧ ∀ d s', post s x d s' → P (M1.set k (a, .lst (srcD s'))) (.dat d))) :
    Eva K M ρ (tCall (spS K enc pre post) [] E ta) P := fun S H0 σ H st Q f => by
  refine h S H0 σ H st _ fun M1 ss vs H1 p s1 l1 hv => ?_
  obtain ⟨k, a, s, ss', ds, rfl, e, hk, hp, q⟩ := p
  rw [datS_map e] at hv
  cases hv with
  | cons hv ht =>
    rename_i v0 us
    cases (show v0 = .ref a from hv)
    obtain ⟨xs, e1, e2⟩ := s1.obs _ (List.mem_of_getElem? hk)
    have ha : a ∈ ad M1 := List.mem_map.mpr ⟨_, List.mem_of_getElem? hk, rfl⟩
    rw [srcV_of e2] at e1
    have eS : (fun b => ((S b ∨ b ∈ ad M1) ∧ b ≠ a) ∨ b = a) = (fun b => S b ∨ b ∈ ad M1) := by
      funext b
      apply propext
      constructor
      · rintro (⟨z, _⟩ | z)
        · exact z
        · rw [z]
          exact .inr ha
      · intro z
        by_cases w : b = a
        · exact .inr w
        · exact .inl ⟨z, w⟩
    refine ⟨fun b => (S b ∨ b ∈ ad M1) ∧ b ≠ a, a, us, s, ds, by rw [List.append_nil], fun z => z.2 rfl, fun b hb => ?_, e1, ?_, hp, fun d s' hd v H2 kp e3 dp => ?_⟩
    · rcases hb.1 with z | z
      · exact s1.sd b z
      · exact s1.tracked z
    · rw [eS]
      exact ht.dats
    · rw [eS] at dp
      obtain ⟨s2, l2⟩ := s1.put (m' := .lst (srcD s')) (o := .lst (srcV s')) hk ⟨_, rfl, srcV_dp⟩
      have l3 : Le (upd H1 a (.lst (srcV s'))) H2 := fun b o z => by
        by_cases w : b = a
        · subst w
          rw [upd_same] at z
          cases z
          exact e3
        · rw [upd_ne w] at z
          exact kp b o w z
      have s3 := s2.grow l3
      have ea : ad (M1.set k (a, .lst (srcD s'))) = ad M1 := by
        unfold ad
        rw [List.map_set]
        refine List.ext_getElem? fun j => ?_
        by_cases ej : k = j
        · subst ej
          rw [List.getElem?_set_self (by rw [List.length_map]; exact (List.getElem?_eq_some_iff.mp hk).1), List.getElem?_map, hk]
          rfl
        · rw [List.getElem?_set_ne ej]
      refine f _ (.dat d) v H2 (q d s' hd) s3 ((l1.trans l2).trans (hm_mono l3)) ?_
      show Dp K (hide (fun b => S b ∨ b ∈ ad (M1.set k (a, .lst (srcD s')))) H2) v d
      rw [ea]
      exact dp
end
section
variable {Pg : Program} {w : World} {K : PySem.W.Frag} {mg : Str → Option Value} {base : Heap}
theorem hm_nil {S : Addr → Prop} {H : Hp} : hm S [] H = hide S H := by
  unfold hm
  have e : (fun b => S b ∨ b ∈ ad []) = S := by
    funext b
    apply propext
    constructor
    · rintro (z | z)
      · exact z
      · cases z
    · exact .inl
  rw [e]
theorem start_env {Hm : Hp} {n : Nat} : ∀ {vs : List V} {ss : List Sl}, VAll K Hm vs ss → ∀ (i : Nat) s, (ss ++ List.replicate n Sl.no)[i]? = some s → SlOk K Hm ((vs.map some ++ List.replicate n none)[i]?) s
  | [], [], .nil, i, s, h => by
    rw [List.nil_append] at h
    have e : s = .no := by
      rw [List.getElem?_replicate] at h
      split at h
      · exact (Option.some.inj h).symm
      · cases h
    subst e
    trivial
  | _ :: _, _ :: _, .cons hv ht, 0, s, h => by
    have e : _ = s := Option.some.inj h
    subst e
    exact hv.sl
  | _ :: _, _ :: _, .cons hv ht, i + 1, s, h => start_env ht i s (by simpa using h)
theorem vall_len {Hm : Hp} : ∀ {vs : List V} {ss : List Sl}, VAll K Hm vs ss → vs.length = ss.length
  | _, _, .nil => rfl
  | _, _, .cons _ t => by rw [List.length_cons, List.length_cons, vall_len t]
/-- the entry -/
def ent (ss : List Sl) (n : Nat) : List Sl := ss ++ List.replicate n Sl.no
theorem okP {x qual : Str} {st : Stmt} {f : Addr} {fd : FuncData} {N ps : List Str} {k : Nat} {α : Type} {enc : α → List PyData} {pre : α → Prop} {post : α → PyData → Prop} (F : Fun K x qual st f fd) (Sc : FnScope N ps (defScope st)) (hl : ∀ x, (enc x).length = ps.length)
    (hbody : ∀ (cdv : Value) (A : Around) (outer : List Env) (s : Shared) (H : Hp) (Q : VK) (E : XK), Room k (A.deeper (envOfC qual (defScope st) s.heap.objs.size f cdv)) →
      ∃ t, PSs (cxOf CX0 Pg w K mg base N qual (defScope st) f cdv A outer s H E).nox (defBody st) t ∧
        ∀ (S : Addr → Prop) (x : α), pre x → (∀ d, post x d → ∀ v H', Le H H' → Dp K (hide S H') v d → Q v H') →
          At K S H [] (ent ((enc x).map Sl.dat) (N.length - ps.length)) (t { nx := fun _ H' => Q .non H', rt := Q })) : FnOk Pg w K mg base CX0 (k + 1) f fd ps (spP K enc pre post) := by
  refine F.ok Sc (fun vs H Q E h => ?_) (fun cdv A outer s H vs Q E hr h => ?_)
  · obtain ⟨S, ds, _, h2, h3, _⟩ := h
    rw [dpa_len h2]
    exact hl ds
  · obtain ⟨S, ds, h1, h2, h3, h4⟩ := h
    obtain ⟨t, ht, hat⟩ := hbody cdv A outer s H Q E hr
    refine ⟨t, ht, hat S ds h3 h4 (L2.start N vs) H ?_⟩
    have hv := vall_dats h2
    have hlen : vs.length = ps.length := (dpa_len h2).trans (hl ds)
    refine ⟨.refl H, fun p hp => (nomatch hp), h1, fun p hp => (nomatch hp), .nil, ?_, fun i y hy => ?_, fun q hq => (nomatch hq)⟩
    · unfold L2.start ent
      rw [List.length_append, List.length_append, List.length_map, List.length_map, List.length_replicate, List.length_replicate, dpa_len h2, hl ds]
    · rw [hm_nil]
      unfold L2.start
      rw [hlen]
      exact start_env hv i y hy
/-- .. of a def that draws -/
theorem okS {x qual : Str} {st : Stmt} {f : Addr} {fd : FuncData} {N ps : List Str} {k : Nat} {α : Type} {enc : α → List PyData} {pre : Src → α → Prop} {post : Src → α → PyData → Src → Prop} (F : Fun K x qual st f fd) (Sc : FnScope N ps (defScope st)) (hl : ∀ x, (enc x).length + 1 = ps.length)
    (hbody : ∀ (cdv : Value) (A : Around) (outer : List Env) (s : Shared) (H : Hp) (Q : VK) (E : XK), Room k (A.deeper (envOfC qual (defScope st) s.heap.objs.size f cdv)) →
      ∃ t, PSs (cxOf CX0 Pg w K mg base N qual (defScope st) f cdv A outer s H E).nox (defBody st) t ∧
        ∀ (S : Addr → Prop) (a : Addr) (sr : Src) (y : α), pre sr y → (∀ d s', post sr y d s' → ∀ M ρ x, M[M.length - 1]? = some (a, .lst (srcD s')) → x = .dat d → Ret K S (hide (fun b => b = a) H) M ρ x Q) →
          At K S (hide (fun b => b = a) H) [(a, .lst (srcD sr))] (ent (.adr a :: (enc y).map Sl.dat) (N.length - ps.length)) (t { nx := fun _ H' => Q .non H', rt := Q })) : FnOk Pg w K mg base CX0 (k + 1) f fd ps (spS K enc pre post) := by
  refine F.ok Sc (fun vs H Q E h => ?_) (fun cdv A outer s H vs Q E hr h => ?_)
  · obtain ⟨S, a, us, sr, ds, rfl, _, _, _, h2, h3, _⟩ := h
    rw [List.length_cons, dpa_len h2]
    exact hl ds
  · obtain ⟨S, a, us, sr, ds, rfl, na, h1, ha, h2, h3, h4⟩ := h
    obtain ⟨t, ht, hat⟩ := hbody cdv A outer s H Q E hr
    have hlen : us.length + 1 = ps.length := by
      rw [dpa_len h2]
      exact hl ds
    refine ⟨t, ht, hat S a sr ds h3 (fun d s' hd M ρ x hk hx σ H2 v st hv => ?_) (L2.start N (.ref a :: us)) H ?_⟩
    · subst hx
      obtain ⟨xs, e1, e2⟩ := st.obs _ (List.mem_of_getElem? hk)
      have ham : a ∈ ad M := List.mem_map.mpr ⟨_, List.mem_of_getElem? hk, rfl⟩
      rw [srcV_of e2] at e1
      refine h4 d s' hd v H2 (fun b o nb e => st.ex b o ?_) e1 (dp_mono (fun b o e => ?_) hv)
      · rw [hide_out (S := fun b => b = a) nb]
        exact e
      · obtain ⟨q1, q2, q3⟩ := hm_some e
        rw [hide_out fun z => by
          rcases z with z | z
          · exact q1 z
          · rw [z] at q2
            exact q2 ham]
        exact q3
    · have hv := vall_dats h2
      have eS : hm S [(a, MO.lst (srcD sr))] H = hide (fun b => S b ∨ b = a) H := by
        unfold hm
        have e : (fun b => S b ∨ b ∈ ad [(a, MO.lst (srcD sr))]) = (fun b => S b ∨ b = a) := by
          funext b
          apply propext
          show S b ∨ b ∈ [a] ↔ S b ∨ b = a
          rw [List.mem_singleton]
        rw [e]
      refine ⟨hide_le _ _, fun p hp => ?_, h1, fun p hp z => ?_, by simp [ad], ?_, fun i y hy => ?_, fun q hq => ?_⟩
      · exact hide_in (List.mem_singleton.mp hp)
      · rw [List.mem_singleton.mp hp] at z
        exact na z
      · unfold L2.start ent
        rw [List.length_append, List.length_append, List.length_map, List.length_cons, List.length_cons, List.length_map, List.length_replicate, List.length_replicate, hlen, hl ds]
      · rw [eS]
        unfold L2.start
        rw [List.length_cons, hlen]
        exact start_env (vs := .ref a :: us) (.cons (s := .adr a) rfl hv) i y hy
      · rw [List.mem_singleton.mp hq]
        exact ⟨srcV sr, ha, srcV_dp⟩
end
theorem Ret.raise {K : PySem.W.Frag} {S : Addr → Prop} {H0 B : Hp} {M : MS} {ρ : List Sl} {x : Sl} {R : VK} (h : Ret K S H0 M ρ x R) (e : Le H0 B) : Ret K S B M ρ x R := fun σ H v s hv => h σ H v (s.lower e) hv
structure Cal (Pg : Program) (w : World) (K : PySem.W.Frag) (mg : Str → Option Value) (base : Heap) (k : Nat) (x : Str) (ps : List Str) (sp : Sp) : Prop where
  ex : ∃ (f : Addr) (fd : FuncData), FnOk Pg w K mg base CX0 k f fd ps sp ∧ mg x = some (.ref f) ∧ PySem.W.keepIn K (.ref f) = true ∧ Binds K fd ps []
theorem pe_cal {X : Cx} {k : Nat} {x : Str} {ps : List Str} {sp : Sp} {e : Expr} {es : List Expr} {p pos : Pos} {t : TA} (C : Cal X.prog X.w X.K X.mg X.base k x ps sp) (hr : Room k X.A) (hg : Gl X x) (ha : PA X (e :: es) t)
    (hdb : (x == ("__debug__" : Str)) = false := by decide) (he : starEach (e :: es) X.env = (false, eval e X.env) :: starEach es X.env := by rfl) (hpl : (backTo pos (starEach es X.env)).any (·.1) = false := by rfl) :
    PE X (.Call (.Name x p) (e :: es) [] pos) (tCall sp [] E0 t) := by
  obtain ⟨f, fd, F, hm, hk, hb⟩ := C.ex
  exact pe_call F hr hg hm hk hb .nil pass0 ha hdb he hpl
/-- the built-ins that the text uses are the built-ins -/
structure Bt (mg : Str → Option Value) : Prop where
  len : mg "len" = none
  isinstance : mg "isinstance" = none
  enumerate : mg "enumerate" = none
  all : mg "all" = none
  sum : mg "sum" = none
  zip : mg "zip" = none
  reversed : mg "reversed" = none
  tuple : mg "tuple" = none
  list : mg "list" = none
  int : mg "int" = none
  bool : mg "bool" = none
  abs : mg "abs" = none
  max : mg "max" = none
  min : mg "min" = none
  sorted : mg "sorted" = none
  set : mg "set" = none
  range : mg "range" = none
end D
namespace D
open PySem PySem.Spec PyProof.Rows L2
def topS (i : Nat) : Stmt := PySem.Challenge.pw_splitclimb_k27_whole_means_and_complemen.main.body.getD i (.Pass ⟨0, 0, 0, 0⟩)
end D
namespace D
open PySem PySem.Spec PyProof.Rows L2 M
theorem cmul {i j : Int} {a b : Nat} (h0 : 0 ≤ i) (h1 : i < P2 a) (g0 : 0 ≤ j) (g1 : j < P2 b) (ha : 0 < a := by decide) (hb : 0 < b := by decide) (h : a + b ≤ 1000000 := by decide) : CMulW i j := wide_mul (P2_abs h0 h1) (P2_abs g0 g1) ha hb h
theorem cdiv {i j : Int} {b : Nat} (h0 : 0 < j) (h1 : j < P2 b) (hb : 0 < b := by decide) (h : b ≤ 9000 := by decide) : CDivW i j := wide_div h0 (P2_abs (Int.le_of_lt h0) h1) hb h
/-- the last of a list that a loop fills -/
theorem at_last (f : Nat → PyData) (i : Nat) : atI ((List.range (i + 1)).map f) (-1) = some (f i) := by
  rw [List.range_succ, List.map_append]
  exact atI_last _ _
theorem di_range (f : Nat → Int) (i : Nat) : di ((List.range i).map f) = (List.range i).map fun j => PyData.int (f j) := by
  unfold di
  rw [List.map_map]
  rfl
theorem at_lastI (f : Nat → Int) (i : Nat) : atI (di ((List.range (i + 1)).map f)) (-1) = some (.int (f i)) := by
  rw [di_range]
  exact at_last _ i
theorem di_app (xs ys : List Int) : di xs ++ di ys = di (xs ++ ys) := by
  unfold di
  rw [List.map_append]
theorem di_len (ns : List Int) : (di ns).length = ns.length := List.length_map _
theorem di_get {ns : List Int} {i : Nat} {d : PyData} (h : (di ns)[i]? = some d) : ∃ x, ns[i]? = some x ∧ d = .int x := by
  unfold di at h
  rw [List.getElem?_map] at h
  cases q : ns[i]? with
  | none =>
    rw [q] at h
    cases h
  | some x =>
    rw [q] at h
    exact ⟨x, rfl, (Option.some.inj h).symm⟩
theorem at_di {ns : List Int} {j : Nat} {x z : Int} (h : ns[j]? = some x) (e : z = (j : Int)) : atI (di ns) z = some (.int x) := by
  rw [e]
  refine atI_nat ?_
  unfold di
  rw [List.getElem?_map, h]
  rfl
theorem getD_some {ns : List Int} {j : Nat} (h : j < ns.length) (z : Int) : ns[j]? = some (ns.getD j z) := by
  rw [List.getD_eq_getElem?_getD, List.getElem?_eq_getElem h]
  rfl
end D
namespace D
open PySem PySem.Spec PyProof.Rows L2
theorem two_t {A B : Prop} (h : A) : (true = true → A) ∧ (true = false → B) := ⟨fun _ => h, fun z => nomatch z⟩
theorem two_f {A B : Prop} (h : B) : (false = true → A) ∧ (false = false → B) := ⟨fun z => (nomatch z), fun _ => h⟩
theorem rwo_t {A B : Prop} (h : B) : (true = false → A) ∧ (true = true → B) := ⟨fun z => (nomatch z), fun _ => h⟩
theorem rwo_f {A B : Prop} (h : A) : (false = false → A) ∧ (false = true → B) := ⟨fun _ => h, fun z => nomatch z⟩
section
variable {K : PySem.W.Frag} {S : Addr → Prop} {H0 H H' : Hp} {M M' : MS} {ρ ρ' : List Sl} {σ : L2.St} {ta tb tc te tv tx ty ti : TE} {t u : TT} {P : MS → Sl → Prop} {Q : VK} {D : Ends} {tz tu tw : TS}
def tyD : PyData → String
  | .none => "NoneType"
  | .bool _ => "bool"
  | .int _ => "int"
  | .str _ => "str"
  | .list _ => "list"
  | .tuple _ => "tuple"
  | .dict _ => "dict"
theorem tyX_of {v : V} {d : PyData} (h : Dp K H v d) : TyX K H v (.type (tyD d)) := by
  cases h with
  | non => exact .base .non
  | bl b => exact .base (.bl b)
  | int i => exact .base (.int i)
  | str x => exact .base (.str x)
  | lst hs _ =>
    rcases hs with (e | ⟨o, e⟩) | ⟨o, its, n, e, c, _⟩
    · exact .base (.lst e)
    · exact .base (.frz e)
    · exact .kList e c
  | tup hs _ =>
    rcases hs with (e | ⟨o, e⟩) | ⟨o, its, n, e, c, _⟩
    · exact .base (.tup e)
    · exact .fTuple e
    · exact .kTuple e c
theorem kit_ii : kitB (tyD (.int 0)) "int" = some true := by decide +kernel
theorem kit_ib : kitB (tyD (.int 0)) "bool" = some false := by decide +kernel
theorem kit_tt : kitB (tyD (.tuple [])) "tuple" = some true := by decide +kernel
theorem eva_isi {T : String} (h : Eva K M ρ tx (fun M1 x => ∃ d b, x = .dat d ∧ kitB (tyD d) T = some b ∧ P M1 (.dat (.bool b)))) : Eva K M ρ (tCB (rIsi K) (tCons tx (tCons (tC (.ty T)) tNil))) P := fun S H0 σ H s Q f => by
  refine h S H0 σ H s _ fun M1 x v H1 h1 s1 l1 hv => ?_
  obtain ⟨d, b, rfl, hk, p⟩ := h1
  exact ⟨v, .ty T, _, _, b, rfl, .ty T, tyX_of (dp_mono hm_le hv), kit_ty hk, (f.then_ l1).here s1 (x := .dat (.bool b)) (.bl _) p⟩
/-- isinstance(x, (list, tuple)) -/
theorem eva_isiLT (h : Eva K M ρ tx (fun M1 x => ∃ d, x = .dat d ∧ (tyD d = "list" ∨ tyD d = "tuple") ∧ P M1 (.dat (.bool true)))) :
    Eva K M ρ (tCB (rIsiT K) (tCons tx (tCons (tTup (tCons (tC (.ty "list")) (tCons (tC (.ty "tuple")) tNil))) tNil))) P := fun S H0 σ H s Q f => by
  refine h S H0 σ H s _ fun M1 x v H1 h1 s1 l1 hv => ?_
  obtain ⟨d, rfl, hk, p⟩ := h1
  refine ⟨by show 2 ≤ sizeLine; decide, fun q hq => ?_⟩
  obtain ⟨s2, l2, _⟩ := s1.new (o := .tup [.ty "list", .ty "tuple"]) hq
  refine ⟨v, q, [.ty "list", .ty "tuple"], _, [.type "list", .type "tuple"], true, rfl, upd_same, .cons (.ty _) (.cons (.ty _) .nil), tyX_of (dp_mono (hm_le.trans (.new hq)) hv), ?_, ?_⟩
  · rcases hk with e | e
    · rw [e]
      exact kitAny_cons (b := true) (kit_ty (by decide +kernel)) (fun z => by cases z) (fun _ => rfl)
    · rw [e]
      exact kitAny_cons (b := false) (kit_ty (by decide +kernel)) (fun _ => kitAny_cons (b := true) (kit_ty (by decide +kernel)) (fun z => by cases z) (fun _ => rfl)) (fun z => by cases z)
  · exact (f.then_ (l1.trans l2)).here s2 (x := .dat (.bool true)) (.bl _) p
theorem eva_dget {i k : Nat} {a : Addr} (hi : ρ[i]? = some (.adr a)) (h : Eva K M ρ ty (fun M1 y => ∃ (kvs : List (Key × V)) (n z : Int), M1[k]? = some (a, .dct kvs) ∧ y = .dat (.int n) ∧ valV kvs (.inl n : Key) = some (.int z) ∧ P M1 (.dat (.int z)))) : Eva K M ρ (tDGet (tVar i) ty) P := fun S H0 σ H s Q f => by
  refine ⟨.ref a, s.env i _ hi, h S H0 σ H s _ fun M1 y v H1 p s1 l1 hv => ?_⟩
  obtain ⟨kvs, n, z, hk, rfl, e, q⟩ := p
  have e1 : H1 a = some (.dK kvs) := s1.obs _ (List.mem_of_getElem? hk)
  rw [dp_int hv]
  exact ⟨a, .int z, rfl, by rw [← e]; exact DGet.k (k := Sum.inl n) e1, (f.then_ l1).here s1 (x := .dat (.int z)) (.int _) q⟩
theorem eva_dget2 {i k : Nat} {a : Addr} {kvs : List (Key × V)} (hi : ρ[i]? = some (.adr a)) (hk : M[k]? = some (a, .dct kvs))
    (h : Eva K M ρ ty (fun M1 y => Eva K M1 ρ tx (fun M2 w => ∃ (n z r : Int), M2 = M ∧ y = .dat (.int n) ∧ w = .dat (.int z) ∧ (valV kvs (.inl n : Key)).getD (.int z) = .int r ∧ P M2 (.dat (.int r))))) : Eva K M ρ (tDGet2 (tVar i) ty tx) P := fun S H0 σ H s Q f => by
  have e0 : H a = some (.dK kvs) := s.obs _ (List.mem_of_getElem? hk)
  refine ⟨.ref a, s.env i _ hi, a, rfl, .inl ⟨kvs, .inl e0⟩, h S H0 σ H s _ fun M1 y v H1 p s1 l1 hv => ?_⟩
  refine p S H0 σ H1 s1 _ fun M2 w v2 H2 q s2 l2 hw => ?_
  obtain ⟨n, z, r, rfl, rfl, rfl, e, k1⟩ := q
  have e1 : H2 a = some (.dK kvs) := s2.obs _ (List.mem_of_getElem? hk)
  rw [dp_int hv, dp_int hw]
  refine ⟨_, DGet.k (k := Sum.inl n) e1, ?_⟩
  rw [e]
  exact (f.then_ (l1.trans l2)).here s2 (x := .dat (.int r)) (.int _) k1
theorem dput_core {i k : Nat} {a : Addr} {N : L2.St → Hp → Prop} (hi : ρ[i]? = some (.adr a)) (h : Eva K M ρ tv (fun M1 x => Eva K M1 ρ ty (fun M2 y => ∃ (kvs : List (Key × V)) (n z : Int), M2[k]? = some (a, .dct kvs) ∧ x = .dat (.int z) ∧ y = .dat (.int n) ∧ kvs.length < 100000 ∧ At K S H0 (M2.set k (a, .dct (putK kvs (.inl n : Key) (.int z)))) ρ N))) (s : Sta K S H0 M ρ σ H) :
    sDPut (tVar i) ty tv { nx := N, rt := fun _ _ => False } σ H := by
  refine h S H0 σ H s _ fun M1 x v H1 p s1 l1 hv => ?_
  refine ⟨.ref a, s1.env i _ hi, p S H0 σ H1 s1 _ fun M2 y w H2 q s2 l2 hw => ?_⟩
  obtain ⟨kvs, n, z, hk, rfl, rfl, hl, g⟩ := q
  have e1 : H2 a = some (.dK kvs) := s2.obs _ (List.mem_of_getElem? hk)
  rw [dp_int hv, dp_int hw]
  exact ⟨a, _, rfl, DPut.k (k := Sum.inl n) e1 (Nat.lt_of_lt_of_le hl (by decide)), g _ _ (s2.put (m' := .dct (putK kvs (.inl n : Key) (.int z))) hk rfl).1⟩
theorem q_dput {i k : Nat} {a : Addr} (hi : ρ[i]? = some (.adr a)) (h : Eva K M ρ tv (fun M1 x => Eva K M1 ρ ty (fun M2 y => ∃ (kvs : List (Key × V)) (n z : Int), M2[k]? = some (a, .dct kvs) ∧ x = .dat (.int z) ∧ y = .dat (.int n) ∧ kvs.length < 100000 ∧ At K S H0 (M2.set k (a, .dct (putK kvs (.inl n : Key) (.int z)))) ρ (tz D)))) :
    At K S H0 M ρ (tSeq (sDPut (tVar i) ty tv) tz D) := fun σ H s => dput_core hi h s
theorem s_daug {i k : Nat} {a : Addr} (hi : ρ[i]? = some (.adr a)) (h : Eva K M ρ ty (fun M1 y => ∃ (kvs : List (Key × V)) (n z : Int), M1[k]? = some (a, .dct kvs) ∧ y = .dat (.int n) ∧ valV kvs (.inl n : Key) = some (.int z) ∧ kvs.length < 100000 ∧
      Eva K M1 ρ tv (fun M2 w => ∃ (b : Int), M2[k]? = some (a, .dct kvs) ∧ w = .dat (.int b) ∧ At K S H0 (M2.set k (a, .dct (putK kvs (.inl n : Key) (.int (z + b))))) ρ D.nx))) :
    At K S H0 M ρ (sDAug (tVar i) ty tv rAdd D) := fun σ H s => by
  refine ⟨.ref a, s.env i _ hi, ?_⟩
  refine h S H0 σ H s _ fun M1 y v H1 p s1 l1 hv => ?_
  obtain ⟨kvs, n, z, e2, rfl, e3, hl, p⟩ := p
  have d1 : H1 a = some (.dK kvs) := s1.obs _ (List.mem_of_getElem? e2)
  have ev := dp_int hv
  subst ev
  refine ⟨a, .int z, rfl, by rw [← e3]; exact DGet.k (k := Sum.inl n) d1, ?_⟩
  refine p S H0 σ H1 s1 _ fun M2 w v2 H2 q s2 l2 hw => ?_
  obtain ⟨b, g2, rfl, g6⟩ := q
  have d2 : H2 a = some (.dK kvs) := s2.obs _ (List.mem_of_getElem? g2)
  exact ⟨z, b, rfl, dp_int hw, _, DPut.k (k := Sum.inl n) d2 (Nat.lt_of_lt_of_le hl (by decide)), g6 _ _ (s2.put (m' := .dct (putK kvs (.inl n : Key) (.int (z + b)))) g2 rfl).1⟩
/-- {0: 0}, a dict that will change -/
theorem eva_disp0 (p : ∀ a, P ((a, .dct [((.inl 0 : Key), .int 0)]) :: M) (.adr a)) : Eva K M ρ (tDisp [(tC (.int 0), tC (.int 0))]) P := fun S H0 σ H s Q f => by
  intro a ha
  refine ⟨upd_same, [((.inl 0 : Key), .int 0)], rfl, by show 1 ≤ 15; decide, ?_⟩
  rw [upd_upd]
  obtain ⟨s2, l2⟩ := s.own (m := .dct [((.inl 0 : Key), .int 0)]) (o := .dK (mergeK [] [((.inl 0 : Key), V.int 0)])) ha rfl
  exact f _ _ _ _ (p a) s2 l2 rfl
theorem s_augS {i k : Nat} {a : Addr} (hi : ρ[i]? = some (.adr a)) (h : Eva K M ρ ti (fun M1 y => ∃ (ds : List PyData) (j : Nat) (x : Int), M1[k]? = some (a, .lst ds) ∧ y = .dat (.int (j : Int)) ∧ ds[j]? = some (.int x) ∧
      Eva K M1 ρ te (fun M2 w => ∃ (b : Int), M2[k]? = some (a, .lst ds) ∧ w = .dat (.int b) ∧ At K S H0 (M2.set k (a, .lst (ds.set j (.int (x + b))))) ρ D.nx))) :
    At K S H0 M ρ (tAugS (tVar i) ti te (rIxL K) (ipI fun i j => i + j) rSetL D) := fun σ H s => by
  refine ⟨.ref a, s.env i _ hi, ?_⟩
  refine h S H0 σ H s _ fun M1 y v H1 p s1 l1 hv => ?_
  obtain ⟨ds, j, x, e2, rfl, e3, p⟩ := p
  obtain ⟨xs, x1, x2⟩ := s1.obs _ (List.mem_of_getElem? e2)
  obtain ⟨z, z1, z2⟩ := dpa_get x2 e3
  have ev := dp_int hv
  subst ev
  have ez := dp_int z2
  subst ez
  refine ⟨a, xs, j, .int x, rfl, rfl, SqL.of x1, atI_nat z1, ?_⟩
  refine p S H0 σ H1 s1 _ fun M2 w v2 H2 q s2 l2 hw => ?_
  obtain ⟨b, g2, rfl, g6⟩ := q
  obtain ⟨ys, y1, y2⟩ := s2.obs _ (List.mem_of_getElem? g2)
  have hj : j < ys.length := by
    rw [dpa_len y2]
    exact (List.getElem?_eq_some_iff.mp e3).1
  refine ⟨x, b, rfl, dp_int hw, a, ys, j, j, rfl, rfl, y1, ?_, g6 _ _ (s2.put (m' := .lst (ds.set j (.int (x + b)))) g2 ⟨_, rfl, dpa_set j y2 (.int _)⟩).1⟩
  unfold ixN
  rw [if_pos (by omega), if_pos (by omega)]
  simp
theorem setL_core {i k : Nat} {a : Addr} {N : L2.St → Hp → Prop} (hi : ρ[i]? = some (.adr a)) (h : Eva K M ρ te (fun M1 x => Eva K M1 ρ ti (fun M2 y => ∃ (ds : List PyData) (d : PyData) (j : Nat), M2[k]? = some (a, .lst ds) ∧ x = .dat d ∧ y = .dat (.int (j : Int)) ∧ j < ds.length ∧ At K S H0 (M2.set k (a, .lst (ds.set j d))) ρ N))) (s : Sta K S H0 M ρ σ H) :
    tAsg te (gSub (tVar i) ti rSetL) { nx := N, rt := fun _ _ => False } σ H := by
  refine h S H0 σ H s _ fun M1 x v H1 p s1 l1 hv => ?_
  refine ⟨.ref a, s1.env i _ hi, p S H0 σ H1 s1 _ fun M2 y w H2 q s2 l2 hw => ?_⟩
  obtain ⟨ds, d, j, hk, rfl, rfl, hj, g⟩ := q
  obtain ⟨ys, y1, y2⟩ := s2.obs _ (List.mem_of_getElem? hk)
  have hj' : j < ys.length := by
    rw [dpa_len y2]
    exact hj
  refine ⟨a, ys, j, j, rfl, dp_int hw, y1, ?_, g _ _ (s2.put (m' := .lst (ds.set j d)) hk ⟨_, rfl, dpa_set j y2 (dp_mono l2 hv)⟩).1⟩
  unfold ixN
  rw [if_pos (by omega), if_pos (by omega)]
  simp
theorem q_setL {i k : Nat} {a : Addr} (hi : ρ[i]? = some (.adr a)) (h : Eva K M ρ te (fun M1 x => Eva K M1 ρ ti (fun M2 y => ∃ (ds : List PyData) (d : PyData) (j : Nat), M2[k]? = some (a, .lst ds) ∧ x = .dat d ∧ y = .dat (.int (j : Int)) ∧ j < ds.length ∧ At K S H0 (M2.set k (a, .lst (ds.set j d))) ρ (tz D)))) :
    At K S H0 M ρ (tSeq (tAsg te (gSub (tVar i) ti rSetL)) tz D) := fun σ H s => setL_core hi h s
theorem flat_rep (z : V) : ∀ n : Nat, (List.replicate n [z]).flatten = List.replicate n z
  | 0 => rfl
  | n + 1 => by
    rw [List.replicate_succ, List.flatten_cons, flat_rep z n]
    rfl
/-- [c] * n -/
theorem eva_rep (h : Eva K M ρ te (fun M1 x => Eva K M1 ρ tb (fun M2 y => ∃ (d : PyData) (n : Nat), x = .dat d ∧ y = .dat (.int (n : Int)) ∧ n ≤ 1000 ∧ P M2 (.dat (.list (List.replicate n d)))))) : Eva K M ρ (tOp rRep (tLst (tCons te tNil)) tb) P := fun S H0 σ H s Q f => by
  refine h S H0 σ H s _ fun M1 x v H1 h1 s1 l1 hv => ?_
  refine ⟨by show 1 ≤ sizeLine; decide, fun q hq => ?_⟩
  obtain ⟨s1', l1', e1⟩ := s1.new (o := .lst [v]) hq
  refine h1 S H0 σ _ s1' _ fun M2 y w H2 h2 s2 l2 hw => ?_
  obtain ⟨d, n, rfl, rfl, hn, p⟩ := h2
  refine ⟨q, n, [v], rfl, dp_int hw, hm_le _ _ (l2 _ _ e1), by omega, by omega, ?_, fun r hr => ?_⟩
  · show 1 * _ ≤ _
    rw [Nat.one_mul]
    exact Nat.le_of_lt (small1000 (by omega))
  · rw [Int.toNat_natCast, flat_rep]
    exact (f.then_ ((l1.trans l1').trans l2)).newL s2 (dpa_rep (dp_mono (l1'.trans l2) hv) n) p hr
/-- the same, a list that will change -/
theorem eva_repM (h : Eva K M ρ te (fun M1 x => Eva K M1 ρ tb (fun M2 y => ∃ (d : PyData) (n : Nat), x = .dat d ∧ y = .dat (.int (n : Int)) ∧ n ≤ 1000 ∧ ∀ a, P ((a, .lst (List.replicate n d)) :: M2) (.adr a)))) : Eva K M ρ (tOp rRep (tLst (tCons te tNil)) tb) P := fun S H0 σ H s Q f => by
  refine h S H0 σ H s _ fun M1 x v H1 h1 s1 l1 hv => ?_
  refine ⟨by show 1 ≤ sizeLine; decide, fun q hq => ?_⟩
  obtain ⟨s1', l1', e1⟩ := s1.new (o := .lst [v]) hq
  refine h1 S H0 σ _ s1' _ fun M2 y w H2 h2 s2 l2 hw => ?_
  obtain ⟨d, n, rfl, rfl, hn, p⟩ := h2
  refine ⟨q, n, [v], rfl, dp_int hw, hm_le _ _ (l2 _ _ e1), by omega, by omega, ?_, fun r hr => ?_⟩
  · show 1 * _ ≤ _
    rw [Nat.one_mul]
    exact Nat.le_of_lt (small1000 (by omega))
  · rw [Int.toNat_natCast, flat_rep]
    obtain ⟨s3, l3⟩ := s2.own (m := .lst (List.replicate n d)) (o := .lst (List.replicate n v)) hr ⟨_, rfl, dpa_rep (dp_mono (l1'.trans l2) hv) n⟩
    exact f _ _ _ _ (p r) s3 (((l1.trans l1').trans l2).trans l3) rfl
end
end D
namespace D
open PySem PySem.Spec PyProof.Rows L2
/-- list + list, both read -/
def rCatL (K : PySem.W.Frag) : R2 := fun x y H Q => ∃ a b us vs, x = .ref a ∧ y = .ref b ∧ SqL K H a us ∧ SqL K H b vs ∧ us.length + vs.length ≤ sizeLine ∧ ∀ p, H p = none → Q (.ref p) (upd H p (.lst (us ++ vs)))
section
variable {X : Cx}
theorem op_catL : OpR X (binaryOp .Add) (rCatL X.K) := by
  rintro pins s σ H x y v u Q I rx ry ⟨a, b, us, vs, rfl, rfl, ha, hb, hz, q⟩
  cases rx
  cases ry
  obtain ⟨ia, ra, ⟨⟨ca, da, ta, la⟩, ga, ea, ha1, fa⟩, _⟩ := I.list ha
  obtain ⟨ib, rb, ⟨⟨cb, db, tb, lb⟩, gb, eb, hb1, fb⟩, _⟩ := I.list hb
  cases (show ca = .type "list" from ha1)
  cases (show cb = .type "list" from hb1)
  cases (show ta = .seq ia.toArray ga from fa.2)
  cases (show tb = .seq ib.toArray gb from fb.2)
  have hsz : ia.toArray.size + ib.toArray.size ≤ sizeLine := by
    rw [List.size_toArray, List.size_toArray, ← ra.length, ← rb.length]
    exact hz
  have el : ia.toArray ++ ib.toArray = (ia ++ ib).toArray := by simp
  refine concat_meets ⟨_, ea, rfl⟩ ⟨_, eb, rfl⟩
    noFill_list_add seq_list_add PySem.F.slot_list_add
    PySem.F.entry_list_add (PySem.F.args_list_add_2 _ _)
    (list_addW a b ia.toArray ib.toArray ga gb da db la lb hsz) ⟨ea, eb, ?_⟩
  rw [el]
  exact ⟨.ref _, _, I.lnew (t' := s.toks) (ra.append rb)
    (by rw [List.length_append]; exact hz), rfl, q _ I.fresh⟩
/-- xs[i], as an augmented assignment asks it -/
theorem get_list : PGet X (rIxL X.K) := by
  rintro pins s σ H x y v u Q I rx ry ⟨p, xs, i, z, rfl, rfl, hq, he, q⟩
  cases rx
  obtain ⟨t, rfl⟩ := ry
  obtain ⟨its, r, pl, hz⟩ := I.list hq
  obtain ⟨j, h1, h2, h3, h4, h5⟩ := atI_get he
  obtain ⟨g, eg, rg⟩ := r.get h2
  have hl := r.length
  have hn := line63
  have fin : EP X pins σ Q g s := ⟨z, H, I, rg, q⟩
  by_cases h0 : 0 ≤ i
  · have hj : i.toNat = j := by
      rw [seqIndex_of h0 h5] at h1
      exact Option.some.inj h1
    exact wpAny_getItem_list pl.isList h0 (by omega) (by rw [hj]; simpa using eg) fin
  · have hj : (i + (its.toArray.size : Int)).toNat = j := by
      rw [seqIndex_neg (by omega) h4] at h1
      rw [List.size_toArray, ← hl]
      exact Option.some.inj h1
    exact wpAny_getItem_list_neg pl.isList (by omega) (by rw [List.size_toArray] <;> omega) (by omega) (by rw [hj]; simpa using eg) fin
end
section
variable {K : PySem.W.Frag} {M : MS} {ρ : List Sl} {P : MS → Sl → Prop}
theorem opd_catL {ds es : List PyData} (hl : ds.length + es.length ≤ 100000) (p : P M (.dat (.list (ds ++ es)))) : OpD K M ρ (rCatL K) (.dat (.list ds)) (.dat (.list es)) P := fun S H0 σ H s v w hv hw Q f => by
  obtain ⟨a, xs, rfl, g1, g2⟩ := dp_list hv
  obtain ⟨b, ys, rfl, g3, g4⟩ := dp_list hw
  exact ⟨a, b, xs, ys, rfl, rfl, hm_le.l g1, hm_le.l g3, by rw [dpa_len g2, dpa_len g4]; exact Nat.le_trans hl (by decide), fun q hq => f.newL s (dpa_append g2 g4) p hq⟩
theorem opd_catT {ds es : List PyData} (hl : ds.length + es.length ≤ 100000) (p : P M (.dat (.tuple (ds ++ es)))) : OpD K M ρ (rCatA K) (.dat (.tuple ds)) (.dat (.tuple es)) P := fun S H0 σ H s v w hv hw Q f => by
  obtain ⟨a, xs, rfl, g1, g2⟩ := dp_tup hv
  obtain ⟨b, ys, rfl, g3, g4⟩ := dp_tup hw
  refine ⟨a, b, xs, ys, rfl, rfl, hm_le.t g1, hm_le.t g3, by rw [dpa_len g2, dpa_len g4]; exact Nat.le_trans hl (by decide), fun e => ?_, fun _ e => ?_, fun _ _ q hq => f.newT s (dpa_append g2 g4) p hq⟩
  · subst e
    cases g2
    exact f.here s (x := .dat (.tuple ([] ++ es))) (.tup g3 g4) p
  · subst e
    cases g4
    rw [List.append_nil] at p
    exact f.here s (x := .dat (.tuple ds)) (.tup g1 g2) p
end
end D
namespace D
open PySem PySem.Spec PyProof.Rows L2
open AutoSeq1 (wpAny_loadPart')
abbrev tupO (dd : Option Addr) (items : Array Value) (n : Nat) (sl : Array (Option Value)) : Obj := { cls := .type "tuple", dict := dd, data := .seq items n, slots := sl }
theorem tmul1 (l : Addr) (items : Array Value) (n : Nat) (dd : Option Addr) (sl : Array (Option Value)) (u : Tok) :
    Meets (Builtin.«tuple.__mul__» ⟨[.ref l, .int 1 u], []⟩) (fun _ R s => s.heap.get? l = some (tupO dd items n sl) ∧ R (.ok (.ret (Value.ref l))) s) :=
  .of_wp fun prog w A R s h => by
    obtain ⟨hp, g, d, tk, os⟩ := s
    obtain ⟨hl, h⟩ := h
    have f1 := AutoSeq1.idx_int
    have c1 : (items.isEmpty || (1 : Int) == 1) = true := by simp
    wp_walk using wpAny_loadPart' hl
    repeat (first
      | (refine wpAny_ite_true (decide_eq_true (by simp)) ?_
         wp_walk using wpAny_loadPart' hl)
      | (refine wpAny_ite_false (decide_eq_false (by decide)) ?_
         wp_walk using wpAny_loadPart' hl))
    exact ⟨_, rfl, h⟩
theorem tmul0 (l : Addr) (y : Value) (n : Nat) (dd : Option Addr) (sl : Array (Option Value)) (u : Tok) :
    Meets (Builtin.«tuple.__mul__» ⟨[.ref l, .int 0 u], []⟩) (fun _ R s => s.heap.get? l = some (tupO dd #[y] n sl) ∧ R (.ok (.ret (Value.ref s.heap.objs.size))) { s with heap := s.heap.push { cls := .type "tuple", data := .seq #[] }, toks := s.toks }) :=
  .of_wp fun prog w A R s h => by
    obtain ⟨hp, g, d, tk, os⟩ := s
    obtain ⟨hl, h⟩ := h
    have f1 := AutoSeq1.idx_int
    wp_walk using wpAny_loadPart' hl
    repeat (first
      | (refine wpAny_ite_true (decide_eq_true (by simp)) ?_
         wp_walk using wpAny_loadPart' hl)
      | (refine wpAny_ite_false (decide_eq_false (by decide)) ?_
         wp_walk using wpAny_loadPart' hl)
      | (refine wpAny_ite_false (decide_eq_false (by simp)) ?_
         wp_walk using wpAny_loadPart' hl))
    exact ⟨_, rfl, h⟩
/-- (z,) * k -/
def rRepA (K : PySem.W.Frag) : R2 := fun x y H Q => ∃ (l : Addr) (k : Int) (z : V), x = .ref l ∧ y = .int k ∧ SqT K H l [z] ∧ 0 ≤ k ∧ k ≤ 1000 ∧ (k = 1 → Q (.ref l) H) ∧ (k ≠ 1 → ∀ p, H p = none → Q (.ref p) (upd H p (.tup (List.replicate k.toNat z))))
section
variable {X : Cx}
theorem op_repA : OpR X (binaryOp .Mult) (rRepA X.K) := by
  rintro pins s σ H x y v u Q I rx ry ⟨l, k, z, rfl, rfl, hT, h0, h1, q1, q2⟩
  by_cases hk : 2 ≤ k
  · refine op_repT pins s σ H (.ref l) (.int k) v u Q I rx ry ⟨l, k, [z], rfl, rfl, hT, by simp, hk, h1, by show 1 ≤ 1000; decide, fun p hp => ?_⟩
    rw [flat_rep]
    exact q2 (by omega) p hp
  cases rx
  obtain ⟨t, rfl⟩ := ry
  obtain ⟨its, r, ⟨⟨cls, dd, data, sl⟩, ho, hc, n, hd⟩, hs⟩ := I.tuple hT
  cases (show cls = .type "tuple" from hc)
  cases (show data = .seq its.toArray n from hd)
  obtain ⟨y, rfl, ry⟩ : ∃ y, its = [y] ∧ RelV z y := by
    cases r with
    | cons a b =>
      cases b
      exact ⟨_, rfl, a⟩
  have road : ∀ {S : PySem.Spec} {R : Value → Shared → Prop}, Meets (Builtin.«tuple.__mul__» ⟨[.ref l, .int k t], []⟩) S → S X.A (wants R X.xe) s → wpAny (model X.prog X.w) X.A (binaryOp .Mult (.ref l) (.int k t)) R X.xe s := fun {S R} m h =>
    wpAny_binaryOp_repeat_ref (T := "tuple") (U := "int") (by decide) ⟨_, ho, rfl⟩ (fun s' => typeIs_int s' k t)
      noFill_tuple_mul F.fills_int_mul F.slot_int_rmul repeat_tuple F.slot_int_index.lookup
      (call_meets F.slot_int_rmul (typeIs_int s k t) F.entry_int_rmul (F.args_int_rmul_2 _ _)
        (int_rmul_tuple k t l #[y] n dd sl) ⟨ho, rfl, ⟨_, ho, rfl⟩,
          call_meets F.slot_tuple_mul ⟨_, ho, rfl⟩ F.entry_tuple_mul (F.args_tuple_mul_2 _ _) m h⟩)
  by_cases e1 : k = 1
  · subst e1
    exact road (tmul1 l #[y] n dd sl t) ⟨ho, ⟨.ref l, H, I, rfl, q1 rfl⟩⟩
  · have e0 : k = 0 := by omega
    subst e0
    refine road (tmul0 l y n dd sl t) ⟨ho, ?_⟩
    have q := q2 (by decide) s.heap.objs.size (I.hok.fresh (Nat.le_refl _))
    refine ⟨.ref s.heap.objs.size, _, I.laid (t' := s.toks) (o := .tup []) (fun b ob w => Heap.get?_push_of_some _ w) (Nat.le_refl _) ?_, rfl, q⟩
    exact ⟨by show 0 ≤ sizeLine; exact Nat.zero_le _, [], .nil, IsTup.new _ _⟩
end
section
variable {K : PySem.W.Frag} {M : MS} {ρ : List Sl} {P : MS → Sl → Prop} {te tb : TE}
/-- (c,) * n -/
theorem opd_repT {d : PyData} {n : Nat} (hn : n ≤ 1000) (p : P M (.dat (.tuple (List.replicate n d)))) : OpD K M ρ (rRepA K) (.dat (.tuple [d])) (.dat (.int (n : Int))) P := fun S H0 σ H s v w hv hw Q f => by
  obtain ⟨a, xs, rfl, g1, g2⟩ := dp_tup hv
  cases g2 with
  | cons hz ht =>
    cases ht
    refine ⟨a, n, _, rfl, dp_int hw, hm_le.t g1, by omega, by omega, fun e => ?_, fun _ q hq => ?_⟩
    · have e1 : n = 1 := by omega
      subst e1
      exact f.here s (x := .dat (.tuple [d])) (.tup g1 (.cons hz .nil)) p
    · rw [Int.toNat_natCast]
      exact f.newT s (dpa_rep hz n) p hq
end
end D
namespace D
open PySem PySem.Spec PyProof.Rows L2
/-- a turn of an iterator that hands out a new tuple (the library's WalksT), as the layer asks it -/
theorem walkT_item {X : Cx} {pins : List (Addr × Obj)} {σ : L2.St} {H : Hp} {s : Shared} {E : Value → Shared → Prop} {I0 : Addr} {fp wr fpT : List Addr} {n i : Nat} {Pt : Nat → Array Value → Prop} {St : Nat → Heap → Prop} {Mid : Nat → Addr → Heap → Prop} {elts : List Expr} {kk : Nat} {tpos : Pos}
    (W : WalksT X.prog X.w X.A I0 fp wr n Pt St Mid) (I : Inv X pins σ H s) (hf : ∀ b ∈ fpT, FpOk X pins H b) (hw : ∀ b ∈ wr, b ∈ fpT) (hlt : ∀ b ∈ fpT, b < s.heap.objs.size) (hi : i < n) (st : St i s.heap)
    {tn : Heap → Prop} (hn : ∀ h, St (i + 1) h → tn h) {Y : V → Hp → Prop}
    (hy : ∀ T vals, Pt i vals → H T = none → ∃ xs, Vals xs vals.toList ∧ xs.length ≤ sizeLine ∧ Y (.ref T) (upd H T (.tup xs))) :
    wpAny (model X.prog X.w) X.A (pyNext (.ref I0)) (fun r s1 => ∃ u, r = some u ∧
      wpAny (model X.prog X.w) X.A (letOwnedTupleGo (.Tuple elts kk tpos) (.ref I0) u) (fun _ s2 => ∃ x H', Inv X pins σ H' s2 ∧ RelV x u ∧ Y x H' ∧ tn s2.heap ∧ ∀ b ∈ fpT, H' b = none) E s1) E s := by
  refine W.item i s _ E hi st fun T vals h1 tk hP hT hTup hMid hk => ⟨_, rfl, ?_⟩
  refine W.go elts kk tpos i T { s with heap := h1, toks := tk } _ _ hMid fun h2 st2 hk2 => ?_
  have fr : H T = none := I.hok.fresh hT
  obtain ⟨xs, rx, hl, y⟩ := hy T vals hP fr
  have keep : ∀ b o, b ∉ fpT → s.heap.get? b = some o → h2.get? b = some o := fun b o hb e =>
    hk2 b o (fun z => hb (hw b z)) (hk b o (fun z => hb (hw b z)) e)
  have tup2 : IsTup h2 T vals := hTup.at fun o e => hk2 T o (W.apart i T h1 hMid) e
  have new : ObjOk X.prog X.w (upd H T (.tup xs)) h2 T (.tup xs) := ⟨hl, vals.toList, rx, by simpa using tup2⟩
  have J : Inv X pins σ (upd H T (.tup xs)) { s with heap := h2, toks := tk } := I.turnedNew (ch := fpT) keep hf hT new
  refine ⟨.ref T, _, J, rfl, y, hn h2 st2, fun b hb => ?_⟩
  rw [upd_ne (Nat.ne_of_lt (Nat.lt_of_lt_of_le (hlt b hb) hT))]
  exact (hf b hb).1
/-- the tuple at a, each item in a new pair with its place -/
def IteT (K : PySem.W.Frag) (a : Addr) : It :=
  ⟨fun i H => ∃ (xs : List V) (x : V), SqT K H a xs ∧ xs[i]? = some x, fun i H v H' => ∃ T x, v = .ref T ∧ H T = none ∧ H' = upd H T (.tup [.int (i : Nat), x]) ∧ ∀ xs, SqT K H a xs → xs[i]? = some x, fun i H => ∃ xs : List V, SqT K H a xs ∧ xs.length = i⟩
theorem turn_enumT {P : Program} {w : World} {K : PySem.W.Frag} {elts : List Expr} {kk : Nat} {tpos : Pos} (a e it : Addr) (hae : a ≠ e) (hai : a ≠ it) (hne : e ≠ it) :
    Turn P w K (.Tuple elts kk tpos) (IteT K a) [e, it] e (fun i h => (∃ old, IsEnum h e it ((i : Nat) : Int) old) ∧ h.IsTupleIter it a i) where
  mem := List.mem_cons_self
  obj := fun i h st b hb => by
    obtain ⟨⟨old, he⟩, o, ho, hc, hd⟩ := st
    rcases List.mem_cons.mp hb with z | z
    · rw [z]
      exact ⟨_, he, fun v q => nomatch q⟩
    · rw [List.mem_singleton.mp z]
      exact ⟨o, ho, fun v q => by rw [hd] at q; cases q⟩
  keep := fun i h h' st k => by
    obtain ⟨⟨old, he⟩, hi⟩ := st
    exact ⟨⟨old, k e List.mem_cons_self _ he⟩, hi.at fun o q => k it (List.mem_cons_of_mem _ List.mem_cons_self) o q⟩
  item := by
    rintro X rfl rfl rfl hc i pins s σ H E I hf ⟨⟨old, he⟩, hit⟩ ⟨xs, x, hq, hx⟩
    obtain ⟨its, rv, p, hz⟩ := I.tuple hq
    obtain ⟨u, hu, ru⟩ := rv.get hx
    have hd : X.A.in1.handled = none := by
      have := I.ok.hd hc
      simpa using this
    have W := WalksT.enumerateD (Draws.tuple (prog := X.prog) (w := X.w) (A := X.A.in1) hd it a hai its.toArray) e hne (fun z => by
      rcases List.mem_cons.mp z with z | z
      · exact hne z
      · exact hae (List.mem_singleton.mp z).symm) List.mem_cons_self
    refine walkT_item (fpT := [e, it]) (elts := elts) (kk := kk) (tpos := tpos) (tn := fun h => (∃ old, IsEnum h e it (((i + 1 : Nat)) : Int) old) ∧ h.IsTupleIter it a (i + 1)) (Y := fun x H' => (IteT X.K a).yld i H x H') W I hf (fun _ z => z) (fun b hb => ?_) (show i < its.toArray.size by rw [List.size_toArray, ← rv.length]; exact (List.getElem?_eq_some_iff.mp hx).1) ⟨⟨old, he⟩, hit, show s.heap.IsTuple a its.toArray from p⟩
      (fun h st => ⟨st.1, st.2.1⟩) (fun T vals hP fr => ?_)
    · rcases List.mem_cons.mp hb with z | z
      · rw [z]
        exact Heap.lt_size he
      · rw [List.mem_singleton.mp z]
        obtain ⟨_, q, _⟩ := hit
        exact Heap.lt_size q
    · obtain ⟨t, y, hy, rfl⟩ := hP
      have ey : y = u := by
        have hy' : its.toArray[i]? = some y := hy
        have hu' : its.toArray[i]? = some u := by simpa using hu
        exact Option.some.inj (hy'.symm.trans hu')
      subst ey
      refine ⟨[.int (i : Nat), x], .cons ⟨t, rfl⟩ (.cons ru .nil), by show 2 ≤ sizeLine; decide, T, x, rfl, fr, rfl, fun zs hzs => ?_⟩
      rw [I.tuple_inj hzs hq]
      exact hx
  done := by
    rintro X rfl rfl rfl hc i pins s σ H E I hf ⟨⟨old, he⟩, hit⟩ ⟨xs, hq, hx⟩
    obtain ⟨its, rv, p, hz⟩ := I.tuple hq
    have hd : X.A.in1.handled = none := by
      have := I.ok.hd hc
      simpa using this
    have W := WalksT.enumerateD (Draws.tuple (prog := X.prog) (w := X.w) (A := X.A.in1) hd it a hai its.toArray) e hne (fun z => by
      rcases List.mem_cons.mp z with z | z
      · exact hne z
      · exact hae (List.mem_singleton.mp z).symm) List.mem_cons_self
    have ei : its.toArray.size = i := by rw [List.size_toArray, ← rv.length, hx]
    rw [← ei] at he hit
    exact W.done s _ E ⟨⟨old, he⟩, hit, show s.heap.IsTuple a its.toArray from p⟩ fun h1 tk hk => ⟨rfl, I.turnedL (ch := [e, it]) hk hf⟩
  self := fun A i s Q E st h => by
    obtain ⟨⟨_, he⟩, _⟩ := st
    exact wpAny_pyIter_enum he h
def iEnumT (K : PySem.W.Frag) (ta : TA) : TI := fun σ H R => ta σ H fun vs H1 => ∃ a xs, vs = [.ref a] ∧ SqT K H1 a xs ∧ R (IteT K a) H1
abbrev enO (a : Addr) : Obj := { cls := .type "enumerate", data := .fields #[.none, .bool false, .ref a, rawInt 0, .none, .none] }
theorem meets_enum1 {v : Value} {o : Obj} {N : Heap → Prop} (B : Begins v o N) :
    Meets (Builtin.«enumerate.__new__» ⟨[.type "enumerate", v], []⟩)
      (fun _ R s => N s.heap ∧ R (.ok (.ret (.ref (s.heap.push o).objs.size))) { s with heap := (s.heap.push o).push (enO s.heap.objs.size) }) :=
  .of_wp fun prog w A R s h => by
    obtain ⟨hp, gs, dn, tk, os⟩ := s
    obtain ⟨hN, hR⟩ := h
    have hsub := sub_enumerate
    have it1 : ∀ {A' : Around} {E' : Value → Shared → Prop} {Q' : Value → Shared → Prop}, Q' (.ref hp.objs.size) ⟨hp.push o, gs, dn, tk, os⟩ →
        wpAny (model prog w) A' (pyIter v) Q' E' ⟨hp, gs, dn, tk, os⟩ := fun q => B.iter prog w _ _ ⟨hp, gs, dn, tk, os⟩ _ hN q
    wp_walk using it1
    refine wpAny_stack_any fun st => wpAny_pure ?_
    split
    · rename_i c _ _ _ _ _
      cases (c == Value.type "enumerate")
      all_goals (wp_walk using it1; exact ⟨_, rfl, hR⟩)
    · wp_walk using it1
      exact ⟨_, rfl, hR⟩
theorem call_enumT {prog : Program} {w : World} {A : Around} {E : Value → Shared → Prop} {s : Shared} {v : Value} {o : Obj} {N : Heap → Prop} {Q : Value → Shared → Prop} (B : Begins v o N) (h1 : N s.heap)
    (h : ∀ h', IsEnum h' (s.heap.objs.size + 1) s.heap.objs.size 0 .none → h'.get? s.heap.objs.size = some o →
      (∀ b o, s.heap.get? b = some o → h'.get? b = some o) → Q (.ref (s.heap.objs.size + 1)) { s with heap := h' }) :
    wpAny (model prog w) A (call (.type "enumerate") [v]) Q E s := by
  refine callType_new F.called_enumerate (by decide) (F.typeCall_enumerate_1 _) (F.newCall_enumerate_1 _)
    (fun obj => F.args_object_init_2 obj _) F.entry_enumerate_new (meets_enum1 B) ⟨h1, ?_⟩
  have sz : (s.heap.push o).objs.size = s.heap.objs.size + 1 := Heap.size_push ..
  have he := Heap.get?_push_size (s.heap.push o) (o := enO s.heap.objs.size) rfl
  rw [sz] at he
  show _ ∧ _
  rw [sz]
  exact ⟨⟨_, he, rfl⟩, h _ he (Heap.get?_push_of_some _ (Heap.get?_push_size _ B.free)) fun b o x => Heap.get?_push_of_some _ (Heap.get?_push_of_some _ x)⟩
theorem pi_enumT {X : Cx} {e : Expr} {ta : TA} {p pos tpos : Pos} {elts : List Expr} {kk : Nat} (hg : Gl X "enumerate") (hm : X.mg "enumerate" = none) (ha : PA X [e] ta) (hs : starEach [e] X.env = [(false, eval e X.env)] := by rfl) :
    PI X (.Tuple elts kk tpos) (.Call (.Name "enumerate" p) [e] [] pos) (iEnumT X.K ta) := by
  refine ⟨fun pins s σ H R I h => ?_⟩
  refine Call_ (ld_blt I hg hm PyProof.Rows.boot_enumerate (PyProof.Rows.callWith_type1 (thn (ha.run pos pins s σ H _ I h) fun us s1 ⟨vs, H1, I1, r1, q1⟩ => ?_) hs rfl))
  obtain ⟨a, xs, rfl, hq, q⟩ := q1
  obtain ⟨u, rfl, ru⟩ := vals1 r1
  cases ru
  obtain ⟨its, rv, pt, hz⟩ := I1.tuple hq
  refine call_enumT (begins_tuple a its.toArray) (show s1.heap.IsTuple a its.toArray from pt) fun h1 he hit hk => wpAny_pyIter_enum he ?_
  have la : a < s1.heap.objs.size := pt.lt
  have J : Inv X pins σ H1 { s1 with heap := h1 } := I1.kept (t' := s1.toks) hk
  refine ⟨s1.heap.objs.size + 1, [s1.heap.objs.size + 1, s1.heap.objs.size], _, IteT X.K a, H1, rfl, J, turn_enumT a (s1.heap.objs.size + 1) s1.heap.objs.size (Nat.ne_of_lt (Nat.lt_succ_of_lt la)) (Nat.ne_of_lt la) (Nat.succ_ne_self _), ⟨⟨.none, he⟩, ⟨_, hit, rfl, rfl⟩⟩, fun b hb => ?_, q⟩
  have hle : s1.heap.objs.size ≤ b := by
    rcases List.mem_cons.mp hb with z | z
    · rw [z]
      exact Nat.le_succ _
    · rw [List.mem_singleton.mp z]
      exact Nat.le_refl _
  exact I1.fpOk hle (I1.hok.fresh hle)
section
variable {K : PySem.W.Frag} {M : MS} {ρ : List Sl}
theorem itd_enumT {B : Hp} {a : Addr} {xs : List V} {ds : List PyData} (h : SqT K B a xs) (hd : DpAll K B xs ds) : ItD K (IteT K a) B (enumD 0 ds) where
  go := fun i H e hi => by
    rw [enumD_len, ← dpa_len hd] at hi
    exact ⟨xs, xs[i], e.t h, List.getElem?_eq_getElem hi⟩
  stop := fun H e => ⟨xs, e.t h, by rw [enumD_len]; exact dpa_len hd⟩
  yld := fun i H x H' d e y hx => by
    obtain ⟨T, z, rfl, hT, rfl, q⟩ := y
    obtain ⟨d', e1, rfl⟩ := enumD_get hx
    obtain ⟨v, e2, e3⟩ := dpa_get hd e1
    have e4 : z = v := Option.some.inj ((q xs (e.t h)).symm.trans e2)
    subst e4
    rw [Nat.zero_add]
    exact itd_pair e hT (.cons (.int _) (.cons e3 .nil))
theorem evi_enumT {P : MS → List PyData → Prop} {ta : TA} (h : EvA K M ρ ta (fun M1 ss => ∃ ds, ss = [.dat (.tuple ds)] ∧ P M1 (enumD 0 ds))) : EvI K M ρ (iEnumT K ta) P := fun S H0 σ H s R f => by
  refine h S H0 σ H s _ fun M1 x v H1 p s1 l1 hv => ?_
  obtain ⟨ds, rfl, k⟩ := p
  obtain ⟨v, rfl, hv2⟩ := vall1 hv
  obtain ⟨a, xs, rfl, g1, g2⟩ := dp_tup hv2
  exact ⟨a, xs, rfl, hm_le.t g1, f M1 _ _ H1 k s1 l1 (itd_enumT g1 g2)⟩
end
end D
namespace D
open PySem PySem.Spec PyProof.Rows L2
/-- k = true: a list; k = false: a tuple -/
def SqB (k : Bool) (K : PySem.W.Frag) (H : Hp) (a : Addr) (xs : List V) : Prop := if k = true then SqL K H a xs else SqT K H a xs
def StB (k : Bool) (h : Heap) (it a : Addr) (i : Nat) : Prop := if k = true then h.IsListIter it a i else h.IsTupleIter it a i
def IsB (k : Bool) (h : Heap) (a : Addr) (items : Array Value) : Prop := if k = true then h.IsList a items else h.IsTuple a items
def itO (k : Bool) (a : Addr) : Obj := { cls := .type (if k = true then "list_iterator" else "tuple_iterator"), data := .fields #[.ref a, .int 0 0] }
theorem drawsB {prog : Program} {w : World} {A : Around} (k : Bool) (hh : A.handled = none) (it a : Addr) (hne : a ≠ it) (items : Array Value) :
    Draws prog w A it [it, a] items.size (fun i v => items[i]? = some v) (fun i h => StB k h it a i ∧ IsB k h a items) := by
  cases k
  · exact Draws.tuple hh it a hne items
  · exact Draws.list hh it a hne items
theorem beginsB (k : Bool) (a : Addr) (items : Array Value) : Begins (.ref a) (itO k a) (fun h => IsB k h a items) := by
  cases k
  · exact begins_tuple a items
  · exact begins_list a items
theorem SqB.inv {k : Bool} {X : Cx} {pins : List (Addr × Obj)} {σ : L2.St} {H : Hp} {s : Shared} {a : Addr} {xs : List V} (I : Inv X pins σ H s) (h : SqB k X.K H a xs) : ∃ its : List Value, Vals xs its ∧ IsB k s.heap a its.toArray ∧ a < s.heap.objs.size := by
  cases k
  · obtain ⟨its, r, p, _⟩ := I.tuple h
    exact ⟨its, r, p, p.lt⟩
  · obtain ⟨its, r, p, _⟩ := I.list h
    exact ⟨its, r, p.isList, p.lt⟩
theorem SqB.inj {k : Bool} {X : Cx} {pins : List (Addr × Obj)} {σ : L2.St} {H : Hp} {s : Shared} {a : Addr} {xs ys : List V} (I : Inv X pins σ H s) (h : SqB k X.K H a xs) (g : SqB k X.K H a ys) : xs = ys := by
  cases k
  · exact I.tuple_inj h g
  · exact I.list_inj h g
theorem StB.ob {k : Bool} {h : Heap} {it a : Addr} {i : Nat} (x : StB k h it a i) : ∃ o, h.get? it = some o ∧ ∀ v, o.data ≠ .cell v := by
  cases k
  · obtain ⟨o, e, _, d⟩ := x
    exact ⟨o, e, fun v q => by rw [d] at q; cases q⟩
  · obtain ⟨o, e, _, d⟩ := x
    exact ⟨o, e, fun v q => by rw [d] at q; cases q⟩
theorem StB.at {k : Bool} {h h' : Heap} {it a : Addr} {i : Nat} (x : StB k h it a i) (e : ∀ o, h.get? it = some o → h'.get? it = some o) : StB k h' it a i := by
  cases k
  · exact Heap.IsTupleIter.at x e
  · exact Heap.IsListIter.at x e
theorem StB.new {k : Bool} {h : Heap} {it a : Addr} (e : h.get? it = some (itO k a)) : StB k h it a 0 := by
  cases k
  · exact ⟨_, e, rfl, rfl⟩
  · exact ⟨_, e, rfl, rfl⟩
/-- the items of both, in new pairs -/
def Itg (k k' : Bool) (K : PySem.W.Frag) (a b : Addr) : It :=
  ⟨fun i H => ∃ (xs ys : List V) (x y : V), SqB k K H a xs ∧ SqB k' K H b ys ∧ xs[i]? = some x ∧ ys[i]? = some y,
    fun i H v H' => ∃ T x y, v = .ref T ∧ H T = none ∧ H' = upd H T (.tup [x, y]) ∧ (∀ xs, SqB k K H a xs → xs[i]? = some x) ∧ ∀ ys, SqB k' K H b ys → ys[i]? = some y,
    fun i H => ∃ xs ys : List V, SqB k K H a xs ∧ SqB k' K H b ys ∧ min xs.length ys.length = i⟩
def StZ (k k' : Bool) (z TI TO i1 i2 a b : Addr) (i : Nat) (h : Heap) : Prop :=
  IsZip h z TI TO .none ∧ IsTupOf2 h TI (.ref i1) (.ref i2) ∧ (∃ x y, IsTupOf2 h TO x y) ∧ StB k h i1 a i ∧ StB k' h i2 b i
theorem turn_zipG {P : Program} {w : World} {K : PySem.W.Frag} {elts : List Expr} {kk : Nat} {tpos : Pos} (k k' : Bool) {a b z TI TO i1 i2 : Addr} (D : ZipSep2 z TI TO i1 i2 [i1, a] [i2, b]) (n1 : a ≠ i1) (n2 : b ≠ i2) :
    Turn P w K (.Tuple elts kk tpos) (Itg k k' K a b) [z, TI, TO, i1, i2] z (StZ k k' z TI TO i1 i2 a b) where
  mem := List.mem_cons_self
  obj := fun i h st c hc => by
    obtain ⟨hz, hTI, ⟨x, y, hTO⟩, h1, h2⟩ := st
    have e' : c = z ∨ c = TI ∨ c = TO ∨ c = i1 ∨ c = i2 := by simpa using hc
    rcases e' with q | q | q | q | q
    · rw [q]; exact ⟨_, hz, fun v q => nomatch q⟩
    · rw [q]; exact ⟨_, hTI, fun v q => nomatch q⟩
    · rw [q]; exact ⟨_, hTO, fun v q => nomatch q⟩
    · rw [q]; exact h1.ob
    · rw [q]; exact h2.ob
  keep := fun i h h' st g => by
    obtain ⟨hz, hTI, ⟨x, y, hTO⟩, h1, h2⟩ := st
    exact ⟨g z (by simp) _ hz, g TI (by simp) _ hTI, ⟨x, y, g TO (by simp) _ hTO⟩, h1.at fun o q => g i1 (by simp) o q, h2.at fun o q => g i2 (by simp) o q⟩
  item := by
    rintro X rfl rfl rfl hc i pins s σ H E I hf st ⟨xs, ys, x, y, hqx, hqy, hx, hy⟩
    obtain ⟨its, rv, p, _⟩ := hqx.inv I
    obtain ⟨its2, rv2, p2, _⟩ := hqy.inv I
    obtain ⟨u, hu, ru⟩ := rv.get hx
    obtain ⟨u2, hu2, ru2⟩ := rv2.get hy
    have hd : X.A.in1.handled = none := by
      have := I.ok.hd hc
      simpa using this
    obtain ⟨hz, hTI, ⟨x0, y0, hTO⟩, h1, h2⟩ := st
    have W := WalksT.zipD2 (prog := X.prog) (w := X.w) (A := X.A) D (drawsB k hd i1 a n1 its.toArray) (drawsB k' hd i2 b n2 its2.toArray)
    refine walkT_item (fpT := [z, TI, TO, i1, i2]) (elts := elts) (kk := kk) (tpos := tpos) (tn := StZ k k' z TI TO i1 i2 a b (i + 1)) (Y := fun v H' => (Itg k k' X.K a b).yld i H v H') W I hf (fun c hcm => ?_) (fun c hcm => ?_) ?_
      ⟨hz, hTI, ⟨x0, y0, hTO⟩, ⟨h1, p⟩, ⟨h2, p2⟩⟩ (fun h q => ⟨q.1, q.2.1, q.2.2.1, q.2.2.2.1.1, q.2.2.2.2.1⟩) (fun T vals hP fr => ?_)
    · have e' : c = z ∨ c = TO ∨ c = i1 ∨ c = i2 := by simpa using hcm
      rcases e' with q | q | q | q <;> rw [q] <;> simp
    · have e' : c = z ∨ c = TI ∨ c = TO ∨ c = i1 ∨ c = i2 := by simpa using hcm
      rcases e' with q | q | q | q | q
      · rw [q]; exact Heap.lt_size hz
      · rw [q]; exact Heap.lt_size hTI
      · rw [q]; exact Heap.lt_size hTO
      · rw [q]; obtain ⟨_, e1, _⟩ := h1.ob; exact Heap.lt_size e1
      · rw [q]; obtain ⟨_, e2, _⟩ := h2.ob; exact Heap.lt_size e2
    · have l1 := (List.getElem?_eq_some_iff.mp hu).1
      have l2 := (List.getElem?_eq_some_iff.mp hu2).1
      rw [List.size_toArray, List.size_toArray]
      omega
    · obtain ⟨y1, y2, g1, g2, rfl⟩ := hP
      have ey : y1 = u := by
        have q1 : its.toArray[i]? = some y1 := g1
        have q2 : its.toArray[i]? = some u := by simpa using hu
        exact Option.some.inj (q1.symm.trans q2)
      have ey2 : y2 = u2 := by
        have q1 : its2.toArray[i]? = some y2 := g2
        have q2 : its2.toArray[i]? = some u2 := by simpa using hu2
        exact Option.some.inj (q1.symm.trans q2)
      subst ey ey2
      refine ⟨[x, y], .cons ru (.cons ru2 .nil), by show 2 ≤ sizeLine; decide, T, x, y, rfl, fr, rfl, fun zs hzs => ?_, fun zs hzs => ?_⟩
      · rw [hzs.inj I hqx]
        exact hx
      · rw [hzs.inj I hqy]
        exact hy
  done := by
    rintro X rfl rfl rfl hc i pins s σ H E I hf st ⟨xs, ys, hqx, hqy, hm⟩
    obtain ⟨its, rv, p, _⟩ := hqx.inv I
    obtain ⟨its2, rv2, p2, _⟩ := hqy.inv I
    have hd : X.A.in1.handled = none := by
      have := I.ok.hd hc
      simpa using this
    obtain ⟨hz, hTI, ⟨x0, y0, hTO⟩, h1, h2⟩ := st
    have W := WalksT.zipD2 (prog := X.prog) (w := X.w) (A := X.A) D (drawsB k hd i1 a n1 its.toArray) (drawsB k' hd i2 b n2 its2.toArray)
    have ei : min its.toArray.size its2.toArray.size = i := by
      rw [List.size_toArray, List.size_toArray, ← rv.length, ← rv2.length, hm]
    rw [← ei] at h1 h2
    exact W.done s _ E ⟨hz, hTI, ⟨x0, y0, hTO⟩, ⟨h1, p⟩, ⟨h2, p2⟩⟩ fun h' tk hk => ⟨rfl, I.turnedL (ch := [z, TI, TO, i1, i2]) (fun c o hb q => hk c o (fun hcm => hb (by
      have e' : c = z ∨ c = TO ∨ c = i1 ∨ c = i2 := by simpa using hcm
      rcases e' with q | q | q | q <;> rw [q] <;> simp)) q) hf⟩
  self := fun A i s Q E st h => wpAny_pyIter_zip st.1 h
def iZipG (k k' : Bool) (K : PySem.W.Frag) (ta : TA) : TI := fun σ H R => ta σ H fun vs H1 => ∃ a b xs ys, vs = [.ref a, .ref b] ∧ SqB k K H1 a xs ∧ SqB k' K H1 b ys ∧ R (Itg k k' K a b) H1
theorem vals2 {u v : V} {us : List Value} (r : Vals [u, v] us) : ∃ x y, us = [x, y] ∧ RelV u x ∧ RelV v y := by
  cases r with
  | cons r rr =>
    cases rr with
    | cons r' rr =>
      cases rr
      exact ⟨_, _, rfl, r, r'⟩
/-- the last step of both calls -/
theorem zipG_end {X : Cx} {pins : List (Addr × Obj)} {σ : L2.St} {H1 : Hp} {s1 : Shared} {elts : List Expr} {kk : Nat} {tpos : Pos} {k k' : Bool} {a b : Addr} {xs ys : List V} {R : It → Hp → Prop} (I1 : Inv X pins σ H1 s1)
    (la : a < s1.heap.objs.size) (lb : b < s1.heap.objs.size) (q : R (Itg k k' X.K a b) H1) (h' : Heap) (hz : IsZip h' (s1.heap.objs.size + 4) (s1.heap.objs.size + 2) (s1.heap.objs.size + 3) .none) (hTI : IsTupOf2 h' (s1.heap.objs.size + 2) (.ref s1.heap.objs.size) (.ref (s1.heap.objs.size + 1)))
    (hTO : IsTupOf2 h' (s1.heap.objs.size + 3) .none .none) (g1 : h'.get? s1.heap.objs.size = some (itO k a)) (g2 : h'.get? (s1.heap.objs.size + 1) = some (itO k' b)) (hk : ∀ c o, s1.heap.get? c = some o → h'.get? c = some o) :
    wpAny (model X.prog X.w) X.A (pyIter (.ref (s1.heap.objs.size + 4))) (PIE X pins σ (.Tuple elts kk tpos) R) X.xe { s1 with heap := h' } := by
  have I2 : Inv X pins σ H1 { s1 with heap := h' } := I1.kept (t' := s1.toks) hk
  have D : ZipSep2 (s1.heap.objs.size + 4) (s1.heap.objs.size + 2) (s1.heap.objs.size + 3) s1.heap.objs.size (s1.heap.objs.size + 1) [s1.heap.objs.size, a] [s1.heap.objs.size + 1, b] :=
    zip_sep2 (fun c hc => by rw [List.mem_singleton.mp hc]; exact la) (fun c hc => by rw [List.mem_singleton.mp hc]; exact lb)
  refine wpAny_pyIter_zip hz ?_
  refine ⟨s1.heap.objs.size + 4, [s1.heap.objs.size + 4, s1.heap.objs.size + 2, s1.heap.objs.size + 3, s1.heap.objs.size, s1.heap.objs.size + 1], _, _, H1, rfl, I2, turn_zipG k k' D (Nat.ne_of_lt la) (Nat.ne_of_lt (Nat.lt_succ_of_lt lb)), ⟨hz, hTI, ⟨_, _, hTO⟩, .new g1, .new g2⟩, fun c hcm => ?_, q⟩
  have e' : c = s1.heap.objs.size + 4 ∨ c = s1.heap.objs.size + 2 ∨ c = s1.heap.objs.size + 3 ∨ c = s1.heap.objs.size ∨ c = s1.heap.objs.size + 1 := by simpa using hcm
  have hle : s1.heap.objs.size ≤ c := by
    rcases e' with z | z | z | z | z
    · rw [z]; exact Nat.le_add_right _ _
    · rw [z]; exact Nat.le_add_right _ _
    · rw [z]; exact Nat.le_add_right _ _
    · rw [z]; exact Nat.le_refl _
    · rw [z]; exact Nat.le_add_right _ _
  exact I1.fpOk hle (I1.hok.fresh hle)
section
variable {X : Cx} {e e2 e3 : Expr} {ta tb tc : TE} {p pos kpos tpos : Pos} {elts : List Expr} {kk : Nat}
theorem pi_zipG (k k' : Bool) {ta : TA} (hg : Gl X "zip") (hm : X.mg "zip" = none) (ha : PA X [e, e2] ta)
    (hs : starEach [e, e2] X.env = (false, eval e X.env) :: starEach [e2] X.env := by rfl) (hpl : (backTo pos (starEach [e2] X.env)).any (·.1) = false := by rfl) :
    PI X (.Tuple elts kk tpos) (.Call (.Name "zip" p) [e, e2] [] pos) (iZipG k k' X.K ta) := by
  refine ⟨fun pins s σ H R I h => ?_⟩
  refine Call_ (ld_blt I hg hm PyProof.Rows.boot_zip (PyProof.Rows.callWith_type1 (thn (ha.run pos pins s σ H _ I h) fun us s1 ⟨vs, H1, I1, r1, q1⟩ => ?_) hs hpl))
  obtain ⟨a, b, xs, ys, rfl, hqx, hqy, q⟩ := q1
  obtain ⟨u, u2, rfl, ru, ru2⟩ := vals2 r1
  cases ru
  cases ru2
  obtain ⟨its, rv, p1, la⟩ := hqx.inv I1
  obtain ⟨its2, rv2, p2, lb⟩ := hqy.inv I1
  exact zip_begins2 (beginsB k a its.toArray) (beginsB k' b its2.toArray) p1 p2 fun h' hz hTI hTO g1 g2 _ hk => zipG_end (xs := xs) (ys := ys) I1 la lb q h' hz hTI hTO g1 g2 hk
theorem pi_zipTL {ta : TA} (hg : Gl X "zip") (hm : X.mg "zip" = none) (ha : PA X [e, e2] ta)
    (hs : starEach [e, e2] X.env = (false, eval e X.env) :: starEach [e2] X.env := by rfl) (hpl : (backTo pos (starEach [e2] X.env)).any (·.1) = false := by rfl) :
    PI X (.Tuple elts kk tpos) (.Call (.Name "zip" p) [e, e2] [] pos) (iZipG false true X.K ta) := pi_zipG false true hg hm ha hs hpl
end
theorem typeCall_zipS (a b : Value) : checkTypeCall "zip" ⟨[a, b], [(Str.ofString "strict", .bool false)]⟩ = pure () := by kernel_rfl
theorem newCall_zipS (a b : Value) : checkBuiltinCall "zip.__new__" ⟨[.type "zip", a, b], [(Str.ofString "strict", .bool false)]⟩ = pure () := by kernel_rfl
theorem args_zipS (obj a b : Value) : argsOk "object.__init__" ⟨[obj, a, b], [(Str.ofString "strict", .bool false)]⟩ := by unfold argsOk; kernel_rfl
theorem meets_zipS {v1 v2 : Value} {o1 o2 : Obj} {N1 N2 : Heap → Prop} (B1 : Begins v1 o1 N1) (B2 : Begins v2 o2 N2) :
    Meets (Builtin.«zip.__new__» ⟨[.type "zip", v1, v2], [(Str.ofString "strict", .bool false)]⟩) (fun _ R s => (N1 s.heap ∧ N2 s.heap) ∧
      R (.ok (.ret (.ref (gzO2 s.heap o1 o2).objs.size))) { s with heap := gzZ2 s.heap o1 o2 }) :=
  .of_wp fun prog w A R s h => by
    obtain ⟨hp, gs, dn, tk, os⟩ := s
    obtain ⟨⟨n1, n2⟩, hR⟩ := h
    have hsub := sub_zip
    have j1 : ∀ {A' : Around} {E' : Value → Shared → Prop} {Q' : Value → Shared → Prop}, Q' (.ref hp.objs.size) ⟨hp.push o1, gs, dn, tk, os⟩ → wpAny (model prog w) A' (pyIter v1) Q' E' ⟨hp, gs, dn, tk, os⟩ :=
      fun q => B1.iter prog w _ _ ⟨hp, gs, dn, tk, os⟩ _ n1 q
    have j2 : ∀ {A' : Around} {E' : Value → Shared → Prop} {Q' : Value → Shared → Prop}, Q' (.ref (hp.push o1).objs.size) ⟨(hp.push o1).push o2, gs, dn, tk, os⟩ → wpAny (model prog w) A' (pyIter v2) Q' E' ⟨hp.push o1, gs, dn, tk, os⟩ :=
      fun q => B2.iter prog w _ _ ⟨hp.push o1, gs, dn, tk, os⟩ _ (B2.keeps _ _ n2 fun b o' e => Heap.get?_push_of_some _ e) q
    have s1 : (Str.ofString "strict" == ("strict" : Str)) = true := by decide +kernel
    have s2 : (Str.ofString "strict" != ("strict" : Str)) = false := by decide +kernel
    wp_walk using j1, j2
    exact ⟨_, rfl, hR⟩
theorem zipS_begins {prog : Program} {w : World} {A : Around} {E : Value → Shared → Prop} {s : Shared} {v1 v2 : Value} {o1 o2 : Obj} {N1 N2 : Heap → Prop} {Q : Value → Shared → Prop} (B1 : Begins v1 o1 N1) (B2 : Begins v2 o2 N2) (n1 : N1 s.heap) (n2 : N2 s.heap)
    (h : ∀ h', IsZip h' (s.heap.objs.size + 4) (s.heap.objs.size + 2) (s.heap.objs.size + 3) .none → IsTupOf2 h' (s.heap.objs.size + 2) (.ref s.heap.objs.size) (.ref (s.heap.objs.size + 1)) →
      IsTupOf2 h' (s.heap.objs.size + 3) .none .none → h'.get? s.heap.objs.size = some o1 → h'.get? (s.heap.objs.size + 1) = some o2 →
      (∀ c o, s.heap.get? c = some o → h'.get? c = some o) → Q (.ref (s.heap.objs.size + 4)) { s with heap := h' }) :
    wpAny (model prog w) A (call (.type "zip") [v1, v2] [(Str.ofString "strict", .bool false)]) Q E s := by
  refine callType_newKw F.called_zip (by decide) (typeCall_zipS _ _) (newCall_zipS _ _) (fun obj => args_zipS obj _ _) F.entry_zip_new (meets_zipS B1 B2) ⟨⟨n1, n2⟩, ?_⟩
  have c1 : (s.heap.push o1).objs.size = s.heap.objs.size + 1 := Heap.size_push ..
  have c2 : ((s.heap.push o1).push o2).objs.size = s.heap.objs.size + 2 := by rw [Heap.size_push, c1]
  have c3 : (gzT2 s.heap o1 o2).objs.size = s.heap.objs.size + 3 := by rw [Heap.size_push, c2]
  have c4 : (gzO2 s.heap o1 o2).objs.size = s.heap.objs.size + 4 := by rw [Heap.size_push, c3]
  have d4 : (gzZ2 s.heap o1 o2).get? (gzO2 s.heap o1 o2).objs.size = some _ := Heap.get?_push_size _ rfl
  have d3 : (gzZ2 s.heap o1 o2).get? (gzT2 s.heap o1 o2).objs.size = some _ := Heap.get?_push_of_some _ (Heap.get?_push_size _ rfl)
  have d2 : (gzZ2 s.heap o1 o2).get? ((s.heap.push o1).push o2).objs.size = some _ := Heap.get?_push_of_some _ (Heap.get?_push_of_some _ (Heap.get?_push_size _ rfl))
  have f1 : (gzZ2 s.heap o1 o2).get? s.heap.objs.size = some o1 := Heap.get?_push_of_some _ (Heap.get?_push_of_some _ (Heap.get?_push_of_some _ (Heap.get?_push_of_some _ (Heap.get?_push_size _ B1.free))))
  have f2 : (gzZ2 s.heap o1 o2).get? (s.heap.push o1).objs.size = some o2 := Heap.get?_push_of_some _ (Heap.get?_push_of_some _ (Heap.get?_push_of_some _ (Heap.get?_push_size _ B2.free)))
  rw [c4, c3, c2] at d4
  rw [c3] at d3
  rw [c2, c1] at d2
  rw [c1] at f2
  show _ ∧ _
  rw [c4]
  exact ⟨⟨_, d4, rfl⟩, h _ d4 d2 d3 f1 f2 fun c o x => Heap.get?_push_of_some _ (Heap.get?_push_of_some _ (Heap.get?_push_of_some _ (Heap.get?_push_of_some _ (Heap.get?_push_of_some _ x))))⟩
/-- a built-in class called with keywords -/
theorem callWith_tyK {M : Model} {A : Around} {E : Value → Shared → Prop} {s : Shared} {pos : Pos} {T : String} {args : List (Bool × Sem Value)} {kws : List (Option Str × Sem Value)} {Q : Value → Shared → Prop}
    (h1 : args.any (·.1) = false) (h2 : kws.any (·.1.isNone) = false)
    (h : wpAny M A (evalArgs (.type T) true args kws) (fun a s₁ => wpAny M A (call (.type T) a.pos a.kw) Q E s₁) E s) : wpAny M A (callWith pos (.type T) [] args kws) Q E s := by
  unfold callWith
  refine wpAny_bind (wpAny_holding (wpAny_mono h (fun a s₁ g => wpAny_bind (wpAny_standAt ?_)) fun _ _ x => x))
  simp only [h1, h2, Bool.or_false]
  refine wpAny_bind (wpAny_pure ?_)
  exact wpAny_bind (wpAny_mono g (fun r s₂ hr => wpAny_bind (wpAny_holding (wpAny_point (wpAny_pure hr)))) fun _ _ x => x)
section
variable {X : Cx} {e e2 e3 : Expr} {tv : TA} {p pos kpos tpos cpos : Pos} {elts : List Expr} {kk kc : Nat}
theorem pi_zipKG (k k' : Bool) (hg : Gl X "zip") (hm : X.mg "zip" = none) (ha : PA X [e, e2] tv)
    (hs : backTo pos (starEach [e, e2] X.env) = (false, eval e X.env) :: backTo pos (starEach [e2] X.env) := by rfl) (hpl : (backTo pos (starEach [e, e2] X.env)).any (·.1) = false := by rfl)
    (hall : (backToKw pos (keywordEach [⟨some "strict", .Constant (.bool false) kc cpos, kpos⟩] X.env)).all (·.1.isSome) = true := by rfl) (hnone : (backToKw pos (keywordEach [⟨some "strict", .Constant (.bool false) kc cpos, kpos⟩] X.env)).any (·.1.isNone) = false := by rfl)
    (hks : (backToKw pos (keywordEach [⟨some "strict", .Constant (.bool false) kc cpos, kpos⟩] X.env)).filterMap (·.1) = [Str.ofString "strict"] := by rfl) :
    PI X (.Tuple elts kk tpos) (.Call (.Name "zip" p) [e, e2] [⟨some "strict", .Constant (.bool false) kc cpos, kpos⟩] pos) (iZipG k k' X.K tv) := by
  refine ⟨fun pins s σ H R I h => ?_⟩
  have hk : PK X [⟨some "strict", .Constant (.bool false) kc cpos, kpos⟩] (tCons (tC (.bl false)) tNil) := pk_cons pe_bl pk_nil
  refine wpAny_Call_Name_kw (ld_blt I hg hm PyProof.Rows.boot_zip (callWith_tyK hpl hnone ?_))
  rw [hs]
  refine PyProof.Rows.evalArgs_kwB hall ?_
  rw [← hs]
  refine thn (ha.run pos pins s σ H _ I h) fun us s1 ⟨vs, H1, I1, r1, q1⟩ => thn (hk.run pos pins s1 σ H1 (fun zs H2 => zs = [.bl false] ∧ H2 = H1) I1 ⟨rfl, rfl⟩) fun ws s2 ⟨zs, H2, I2, r2, q2⟩ => ?_
  rw [hks]
  obtain ⟨rfl, rfl⟩ := q2
  obtain ⟨a, b, xs, ys, rfl, hqx, hqy, q⟩ := q1
  obtain ⟨u, u2, rfl, ru, ru2⟩ := vals2 r1
  cases ru
  cases ru2
  obtain ⟨v, rfl, rv0⟩ := vals1 r2
  cases rv0
  obtain ⟨its, rv, p1, la⟩ := hqx.inv I2
  obtain ⟨its2, rv2, p2, lb⟩ := hqy.inv I2
  exact zipS_begins (beginsB k a its.toArray) (beginsB k' b its2.toArray) p1 p2 fun h' hz hTI hTO g1 g2 hk => zipG_end (xs := xs) (ys := ys) I2 la lb q h' hz hTI hTO g1 g2 hk
theorem pi_zipKLT (hg : Gl X "zip") (hm : X.mg "zip" = none) (ha : PA X [e, e2] tv)
    (hs : backTo pos (starEach [e, e2] X.env) = (false, eval e X.env) :: backTo pos (starEach [e2] X.env) := by rfl) (hpl : (backTo pos (starEach [e, e2] X.env)).any (·.1) = false := by rfl)
    (hall : (backToKw pos (keywordEach [⟨some "strict", .Constant (.bool false) kc cpos, kpos⟩] X.env)).all (·.1.isSome) = true := by rfl) (hnone : (backToKw pos (keywordEach [⟨some "strict", .Constant (.bool false) kc cpos, kpos⟩] X.env)).any (·.1.isNone) = false := by rfl)
    (hks : (backToKw pos (keywordEach [⟨some "strict", .Constant (.bool false) kc cpos, kpos⟩] X.env)).filterMap (·.1) = [Str.ofString "strict"] := by rfl) :
    PI X (.Tuple elts kk tpos) (.Call (.Name "zip" p) [e, e2] [⟨some "strict", .Constant (.bool false) kc cpos, kpos⟩] pos) (iZipG true false X.K tv) := pi_zipKG true false hg hm ha hs hpl hall hnone hks
end
section
variable {K : PySem.W.Frag} {M : MS} {ρ : List Sl} {P : MS → List PyData → Prop} {ta : TA}
theorem Le.b {k : Bool} {H H' : Hp} {a : Addr} {xs : List V} (e : Le H H') (h : SqB k K H a xs) : SqB k K H' a xs := by
  cases k
  · exact e.t h
  · exact e.l h
theorem itd_zipG {k k' : Bool} {B : Hp} {a b : Addr} {xs ys : List V} {ds es : List PyData} (h : SqB k K B a xs) (hd : DpAll K B xs ds) (h' : SqB k' K B b ys) (hd' : DpAll K B ys es) : ItD K (Itg k k' K a b) B (zipD ds es) where
  go := fun i H e hi => by
    rw [zipD_len, ← dpa_len hd, ← dpa_len hd'] at hi
    exact ⟨xs, ys, xs[i], ys[i], e.b h, e.b h', List.getElem?_eq_getElem (by omega), List.getElem?_eq_getElem (by omega)⟩
  stop := fun H e => ⟨xs, ys, e.b h, e.b h', by rw [zipD_len, ← dpa_len hd, ← dpa_len hd']⟩
  yld := fun i H x H' d e y hx => by
    obtain ⟨T, z, z', rfl, hT, rfl, q, q'⟩ := y
    obtain ⟨d1, d2, e1, e1', rfl⟩ := zipD_get hx
    obtain ⟨v, e2, e3⟩ := dpa_get hd e1
    obtain ⟨v', e2', e3'⟩ := dpa_get hd' e1'
    have e4 : z = v := Option.some.inj ((q xs (e.b h)).symm.trans e2)
    have e5 : z' = v' := Option.some.inj ((q' ys (e.b h')).symm.trans e2')
    subst e4 e5
    exact itd_pair e hT (.cons e3 (.cons e3' .nil))
theorem evi_zipTL (h : EvA K M ρ ta (fun M1 ss => ∃ ds es, ss = [.dat (.tuple ds), .dat (.list es)] ∧ P M1 (zipD ds es))) : EvI K M ρ (iZipG false true K ta) P := fun S H0 σ H s R f => by
  refine h S H0 σ H s _ fun M1 x v H1 p s1 l1 hv => ?_
  obtain ⟨ds, es, rfl, g⟩ := p
  obtain ⟨v, w, rfl, hv2, hw2⟩ := vall2 hv
  obtain ⟨a, xs, rfl, g1, g2⟩ := dp_tup hv2
  obtain ⟨b, ys, rfl, g3, g4⟩ := dp_list hw2
  exact ⟨a, b, xs, ys, rfl, hm_le.t g1, hm_le.l g3, f M1 _ _ H1 g s1 l1 (itd_zipG (k := false) (k' := true) g1 g2 g3 g4)⟩
theorem evi_zipLT (h : EvA K M ρ ta (fun M1 ss => ∃ ds es, ss = [.dat (.list ds), .dat (.tuple es)] ∧ P M1 (zipD ds es))) : EvI K M ρ (iZipG true false K ta) P := fun S H0 σ H s R f => by
  refine h S H0 σ H s _ fun M1 x v H1 p s1 l1 hv => ?_
  obtain ⟨ds, es, rfl, g⟩ := p
  obtain ⟨v, w, rfl, hv2, hw2⟩ := vall2 hv
  obtain ⟨a, xs, rfl, g1, g2⟩ := dp_list hv2
  obtain ⟨b, ys, rfl, g3, g4⟩ := dp_tup hw2
  exact ⟨a, b, xs, ys, rfl, hm_le.l g1, hm_le.t g3, f M1 _ _ H1 g s1 l1 (itd_zipG (k := true) (k' := false) g1 g2 g3 g4)⟩
end
end D
namespace D
open PySem PySem.Spec PyProof.Rows L2
abbrev s0 (w : World) : Obj := { cls := .type "set", dict := none, data := .set #[] 0 (.fresh 0 0 (!w.params.followText "set-order")) }
theorem set_of_listI {P : Program} {w : World} {A : Around} {E : Value → Shared → Prop} {s : Shared} {a : Addr} {vs : Array Value} (zs : List Int) {Q : Value → Shared → Prop} (hd : A.handled = none) (hL : s.heap.IsList a vs) (hI : IntsAre vs.toList zs) (hz : zs.length + 1 < scanBound)
    (fin : ∀ (g : Heap) (tk n : Nat), SetR w g s.heap.objs.size (fun j => decide (j ∈ zs)) n → n ≤ zs.length → (∀ b o, s.heap.get? b = some o → g.get? b = some o) → Q (.ref s.heap.objs.size) { s with heap := g, toks := tk }) :
    wpAny (model P w) A (call (.type "set") [.ref a]) Q E s := by
  have vsz : vs.size = zs.length := by
    have q := IntsAre.length hI
    rwa [Array.length_toList] at q
  obtain ⟨cc, tl, m0⟩ := F.called_set.mro
  have m1 := F.called_set.made
  have m2 := F.called_set.sub
  refine wpAny_call (codeAny_of_tree ?_)
  show wpAny _ _ (callAny (.type "set") _) _ _ _
  refine wpAny_pure ⟨Code.quiet_builtin _ (by decide +kernel), codeAny_builtin F.entry_type_call ?_⟩
  rw [Around.under_plain (weight_type_call_type "set" [Value.ref a] []) rfl]
  have m3 := F.called_set.notType
  have m4 := F.called_set.canCreate
  have m5 := F.typeCall_set_1 (Value.ref a)
  repeat (any_goals (first | assumption | wp_step))
  refine codeAny_mono (code_set_led1 (Value.ref a) (E := E) (Q₁ := fun x t => x = .ref s.heap.objs.size ∧ t = { s with heap := s.heap.push (s0 w) }) ⟨rfl, rfl⟩) fun r t hr => ?_
  cases r with
  | error e => exact hr
  | ok fl =>
    cases fl with
    | ret x =>
      obtain ⟨rfl, rfl⟩ := hr
      have gS : (s.heap.push (s0 w)).get? s.heap.objs.size = some (s0 w) := Heap.get?_push_size _ rfl
      have tS : Shared.TypeIs { s with heap := s.heap.push (s0 w) } (.ref s.heap.objs.size) "set" := ⟨_, gS, rfl⟩
      have m6 := F.called_set.init.lookup
      have m7 := F.called_set.init.bind (Value.ref s.heap.objs.size)
      repeat (any_goals (first | assumption | wp_step))
      refine codeAny_mono (codeAny_call_builtin (R := wants (fun r u => r = .none ∧ ∃ g tk n, u = { s with heap := g, toks := tk } ∧ SetR w g s.heap.objs.size (fun j => decide (j ∈ zs)) n ∧ n ≤ zs.length ∧
          (∀ b o, s.heap.get? b = some o → g.get? b = some o)) E) F.called_set.init.plain F.entry_set_init (check_set_init_1 tS ?_)) fun r2 u hr2 => ?_
      · obtain ⟨⟨lc, ld, lv, ls⟩, gl, hcl, nl, hdl⟩ := hL
        simp only at hcl hdl
        subst hcl hdl
        have gl1 : (s.heap.push (s0 w)).get? a = some { cls := .type "list", dict := ld, data := .seq vs nl, slots := ls } := Heap.get?_push_of_some _ gl
        have n1 := F.sub_list_set
        have n2 := F.sub_list_frozenset
        have n3 : (Value.type "list" == Value.type "dict") = false := by decide
        have L1 : (s.heap.push (s0 w)).IsList a vs := ⟨_, gl1, rfl, nl, rfl⟩
        unfold Builtin.«set.__init__» noKeywords Builtin.Frozenset.updateFrom
        generalize ePI : pyIter = PI
        wp_walk
        subst ePI
        refine wpAny_pyIter_list L1 ?_
        refine wpAny_bind (wpAny_runValue ?_)
        have la : a < s.heap.objs.size := Heap.lt_size gl
        have hd3 : A.in1.in1.in1.handled = none := by simp [hd]
        have sz1 : (s.heap.push (s0 w)).objs.size = s.heap.objs.size + 1 := Heap.size_push ..
        have ne1 : a ≠ (s.heap.push (s0 w)).objs.size := by
          rw [sz1]
          exact Nat.ne_of_lt (Nat.lt_succ_of_lt la)
        have out : s.heap.objs.size ∉ [(s.heap.push (s0 w)).objs.size, a] := by
          rw [sz1]
          intro z
          rcases List.mem_cons.mp z with z | z
          · exact absurd z (Nat.ne_of_lt (Nat.lt_succ_self _))
          · exact absurd (List.mem_singleton.mp z) (Nat.ne_of_gt la)
        have val : ∀ (i : Nat) (v : Value), vs[i]? = some v → ∃ k t, zs[i]? = some k ∧ v = .int k t := fun i v hv => by
          have hi : i < zs.length := by
            rw [← vsz]
            exact (Array.getElem?_eq_some_iff.mp hv).1
          obtain ⟨t, e⟩ := PyProof.Rows.IntsAre.int_at hI i v (by rw [Array.getElem?_toList]; exact hv)
          refine ⟨zs[i], t, List.getElem?_eq_getElem hi, ?_⟩
          rw [e, List.getD_eq_getElem?_getD, List.getElem?_eq_getElem hi] <;> rfl
        refine set_update_ints ((Walks.list hd3 _ a ne1 vs).toS) s.heap.objs.size out zs vsz hz val (vs.size - 0) 0 _ (by omega) (Nat.zero_le _) ⟨⟨_, Heap.get?_push_size _ rfl, rfl, rfl⟩, (L1.push _)⟩ ?cS ?cR
        case cS =>
          have g2 : ((s.heap.push (s0 w)).push { cls := .type "list_iterator", data := .fields #[.ref a, .int 0 0] }).get? s.heap.objs.size = some (s0 w) := Heap.get?_push_of_some _ gS
          exact ⟨0, Nat.le_refl 0, setR_new_at g2⟩
        case cR =>
          intro u n hm hn hS
          obtain ⟨g, gs, dn, tk, os⟩ := u
          have eg : gs = s.gens := hm.gens
          have ed : dn = s.drawn := hm.drawn
          have eo : os = s.os := hm.os
          subst eg ed eo
          show wpAny _ _ _ _ _ _
          refine wpAny_pure ?_
          show wpAny _ _ (ret Value.none) _ _ _
          rw [vsz] at hn
          refine wpAny_pure ⟨rfl, g, tk, n, rfl, hS, hn, fun b o e => ?_⟩
          have lb : b < s.heap.objs.size := Heap.lt_size e
          refine hm.heap b o (fun z => ?_) (Heap.get?_push_of_some _ (Heap.get?_push_of_some _ e))
          rcases List.mem_cons.mp z with z | z
          · exact absurd z (Nat.ne_of_lt lb)
          · have z2 := List.mem_singleton.mp z
            rw [sz1] at z2
            exact absurd z2 (Nat.ne_of_lt (Nat.lt_succ_of_lt lb))
      · cases r2 with
        | error e => exact hr2
        | ok fl2 =>
          cases fl2 with
          | ret r =>
            obtain ⟨rfl, g, tk, n, rfl, hS, hn, kp⟩ := hr2
            repeat (any_goals (first | assumption | wp_step))
            exact fin _ _ _ hS hn kp
          | _ => exact hr2.elim
    | _ => exact hr.elim
/-- set(list of ints) -/
def rSetL (K : PySem.W.Frag) (w : World) : List V → Hp → VK → Prop := fun xs H Q => ∃ (a : Addr) (zs : List Int), xs = [.ref a] ∧ SqL K H a (zs.map V.int) ∧ zs.length + 1 < scanBound ∧
  ∀ p n, H p = none → n ≤ zs.length → Q (.ref p) (upd H p (SetO w p (fun j => decide (j ∈ zs)) n))
section
variable {X : Cx}
theorem cr_setL (hc : X.calm = true) : CallR X (.type "set") (rSetL X.K X.w) := by
  intro pins s σ H xs us Q I r ⟨a, zs, e, hq, hz, q⟩
  subst e
  obtain ⟨u, rfl, ru⟩ := vals1 r
  cases ru
  obtain ⟨its, rv, p, _⟩ := I.list hq
  refine set_of_listI zs (I.ok.hd hc) p.isList (ints_of_vals rv) hz fun g tk n hS hn kp => ?_
  exact ⟨.ref _, upd H s.heap.objs.size (SetO X.w s.heap.objs.size (fun j => decide (j ∈ zs)) n), I.laid (t' := tk) kp (Nat.le_refl _) (setO_new hS), rfl, q _ _ (I.hok.fresh (Nat.le_refl _)) hn⟩
end
section
variable {K : PySem.W.Frag} {M : MS} {ρ : List Sl} {P : MS → Sl → Prop} {te : TE} {w : World}
/-- what sorted(set(..)) gives -/
def IsSort (ns ys : List Int) : Prop := ys.Pairwise (· < ·) ∧ ∀ k : Int, k ∈ ys ↔ k ∈ ns
theorem eva_sortSetA {k : Nat} (h : Eva K M ρ te (fun M1 x => ∃ (a : Addr) (ns : List Int), x = .adr a ∧ M1[k]? = some (a, .lst (di ns)) ∧ ns.length < 64 ∧ ∀ ys, IsSort ns ys → P M1 (.dat (.list (di ys))))) : Eva K M ρ (tCB (rSortedSet w) (tCons (tCB (rSetL K w) (tCons te tNil)) tNil)) P := fun S H0 σ H s Q f => by
  refine h S H0 σ H s _ fun M1 x v H1 p s1 l1 hv => ?_
  obtain ⟨a, ns, rfl, hk, hl, p⟩ := p
  cases (show v = .ref a from hv)
  obtain ⟨xs, e1, e2⟩ := s1.obs _ (List.mem_of_getElem? hk)
  rw [dpa_ints e2] at e1
  refine ⟨a, ns, rfl, SqL.of e1, Nat.lt_trans (Nat.succ_lt_succ hl) (by decide), fun q n hq hn => ?_⟩
  obtain ⟨s2, l2, _⟩ := s1.new (o := SetO w q (fun j => decide (j ∈ ns)) n) hq
  refine ⟨q, _, n, rfl, upd_same, by omega, fun ys r g1 g2 g3 hr => ?_⟩
  exact (f.then_ (l1.trans l2)).newL s2 (dpa_ofInts ys) (p ys ⟨g1, fun k => by rw [g2 k, decide_eq_true_iff]⟩) hr
end
end D
namespace D
open PySem PySem.Spec PyProof.Rows L2
section
variable {K : PySem.W.Frag} {S : Addr → Prop} {H0 H H' : Hp} {M M' : MS} {ρ ρ' : List Sl} {σ : L2.St} {ta tb tc te : TE} {t u : TT} {P : MS → Sl → Prop} {D : Ends} {tz tu tw : TS}
theorem q_while (I : Nat → MS → List Sl → Prop) (m0 : Nat) (h0 : I m0 M ρ)
    (h : ∀ m M ρ, I m M ρ → EvT K M ρ t (fun M1 b => (b = true → At K S H0 M1 ρ (tu { D with nx := Btw K S H0 (fun M ρ => ∃ m', m' < m ∧ I m' M ρ), ct := Btw K S H0 (fun M ρ => ∃ m', m' < m ∧ I m' M ρ), bk := tz D })) ∧ (b = false → At K S H0 M1 ρ (tz D)))) :
    At K S H0 M ρ (tSeq (tWhile t tu) tz D) := fun σ H s => by
  refine ⟨fun m σ H => ∃ M ρ, I m M ρ ∧ Sta K S H0 M ρ σ H, ⟨m0, M, ρ, h0, s⟩, fun m σ H w => ?_⟩
  obtain ⟨M1, ρ1, hI, s1⟩ := w
  refine h m M1 ρ1 hI S H0 σ H s1 _ fun M2 b H2 p s2 l2 => ?_
  cases b with
  | true =>
    refine ⟨Btw K S H0 (fun M ρ => ∃ m', m' < m ∧ I m' M ρ), fun σ' H' q => ?_, p.1 rfl σ H2 s2⟩
    obtain ⟨M3, ρ3, ⟨m', hm, hI3⟩, s3⟩ := q
    exact ⟨m', hm, M3, ρ3, hI3, s3⟩
  | false => exact p.2 rfl σ H2 s2
theorem lay_all {xs : List PyData} (h : ∀ x ∈ xs, x.canLay0 = true ∧ x.depth ≤ 62) : PyData.canLayAll0 xs = true ∧ PyData.depthAll xs ≤ 62 := by
  induction xs with
  | nil => exact ⟨rfl, by show 0 ≤ 62; decide⟩
  | cons a r ih =>
    obtain ⟨h1, h2⟩ := h a List.mem_cons_self
    obtain ⟨h3, h4⟩ := ih fun x hx => h x (List.mem_cons_of_mem _ hx)
    refine ⟨?_, ?_⟩
    · show (a.canLay0 && PyData.canLayAll0 r) = true
      rw [h1, h3]
      rfl
    · show max a.depth (PyData.depthAll r) ≤ 62
      omega
theorem lay_ints (ns : List Int) : ∀ x ∈ di ns, x.canLay0 = true ∧ x.depth ≤ 62 := fun x hx => by
  obtain ⟨i, _, rfl⟩ := List.mem_map.mp hx
  exact ⟨rfl, by show 0 ≤ 62; decide⟩
theorem lay_int (i : Int) : (PyData.int i).canLay0 = true ∧ (PyData.int i).depth ≤ 62 := ⟨rfl, by show 0 ≤ 62; decide⟩
theorem lay_tupI (ns : List Int) : (PyData.tuple (di ns)).canLay0 = true ∧ (PyData.tuple (di ns)).depth ≤ 62 := by
  obtain ⟨h1, h2⟩ := lay_all (lay_ints ns)
  refine ⟨h1, ?_⟩
  have h3 : PyData.depthAll (di ns) ≤ 0 := by
    clear h1 h2
    induction ns with
    | nil => exact Nat.le_refl 0
    | cons a r ih =>
      show max 0 (PyData.depthAll (di r)) ≤ 0
      omega
  show PyData.depthAll (di ns) + 1 ≤ 62
  omega
theorem shp_list {xs : List PyData} (h : ∀ x ∈ xs, x.canLay0 = true ∧ x.depth ≤ 62) : SeqAt.shaped (.list xs) = true := by
  obtain ⟨h1, h2⟩ := lay_all h
  exact Bool.and_eq_true_iff.mpr ⟨h1, decide_eq_true (show PyData.depthAll xs + 1 ≤ 64 by omega)⟩
theorem shp_tup {xs : List PyData} (h : ∀ x ∈ xs, x.canLay0 = true ∧ x.depth ≤ 62) : SeqAt.shaped (.tuple xs) = true := by
  obtain ⟨h1, h2⟩ := lay_all h
  exact Bool.and_eq_true_iff.mpr ⟨h1, decide_eq_true (show PyData.depthAll xs + 1 ≤ 64 by omega)⟩
theorem shp_none : SeqAt.shaped .none = true := by decide
theorem lay_cons {x : PyData} {xs : List PyData} (h : x.canLay0 = true ∧ x.depth ≤ 62) (t : ∀ y ∈ xs, y.canLay0 = true ∧ y.depth ≤ 62) : ∀ y ∈ x :: xs, y.canLay0 = true ∧ y.depth ≤ 62 := fun y hy => by
  rcases List.mem_cons.mp hy with z | z
  · rw [z]
    exact h
  · exact t y z
theorem lay_nil : ∀ y ∈ ([] : List PyData), y.canLay0 = true ∧ y.depth ≤ 62 := fun y hy => by cases hy
theorem eqv_self {d : PyData} (h : SeqAt.shaped d = true) : PyData.eqv d d = true := SeqAt.eqv_refl_plain d (PyData.plain_of_canLay0 d (SeqAt.canLay_of_shaped h))
theorem opd_neR {d e : PyData} (he : e = d) (h : SeqAt.shaped d = true) (p : P M (.dat (.bool false))) : OpD K M ρ (rNeD K) (.dat d) (.dat e) P := by
  subst he
  refine opd_neD h h ?_
  rw [eqv_self h]
  exact p
theorem opd_eqR {d e : PyData} (he : e = d) (h : SeqAt.shaped d = true) (p : P M (.dat (.bool true))) : OpD K M ρ (rEqD K) (.dat d) (.dat e) P := by
  subst he
  refine opd_eqD h h ?_
  rw [eqv_self h]
  exact p
theorem opd_neRA {k : Nat} {a : Addr} {ds : List PyData} {e : PyData} (hk : M[k]? = some (a, .lst ds)) (he : e = .list ds) (h : SeqAt.shaped (.list ds) = true) (p : P M (.dat (.bool false))) : OpD K M ρ (rNeD K) (.adr a) (.dat e) P := by
  subst he
  refine opd_neDA hk h h ?_
  rw [eqv_self h]
  exact p
end
end D
namespace D
open PySem PySem.Spec PyProof.Rows L2
theorem pg_tupK {X : Cx} {K : PySem.W.Frag} {es : List Expr} {k : Nat} {pos : Pos} {t : TGs} (hK : X.K = K) (n : Nat) (hc : X.calm = true) (h : PGs X es t)
    (hn : (assignEach es X.env).length = n := by rfl) (hst : (assignEach es X.env).findIdx? (·.1) = none := by rfl) : PG X (.Tuple es k pos) (gTup K n t) := by
  subst hK
  exact pg_tup hc h hn hst
end D
namespace D
open PySem PySem.Spec PyProof.Rows L2
section
variable {K : PySem.W.Frag} {S : Addr → Prop} {H0 H H' : Hp} {M M' : MS} {ρ ρ' : List Sl} {σ : L2.St} {te : TE} {D : Ends} {tz : TS}
/-- extend by a new list: the place of the list that grows may have moved -/
theorem ext_core2 {i k : Nat} {a : Addr} {ds0 : List PyData} {N : L2.St → Hp → Prop} (hi : ρ[i]? = some (.adr a)) (hk : M[k]? = some (a, .lst ds0)) (h : Eva K M ρ te (fun M1 x => ∃ (k1 j : Nat) (ds : List PyData) (b : Addr) (es : List PyData), M1[k1]? = some (a, .lst ds) ∧ x = .adr b ∧ M1[j]? = some (b, .lst es) ∧ ds.length + es.length ≤ 100000 ∧ At K S H0 (M1.set k1 (a, .lst (ds ++ es))) ρ N)) (s : Sta K S H0 M ρ σ H) :
    tDrop (tBM K "list" rExtend (tVar i) (tCons te tNil)) { nx := N, rt := fun _ _ => False } σ H := by
  obtain ⟨xs0, e0, _⟩ := s.obs _ (List.mem_of_getElem? hk)
  refine ⟨.ref a, s.env i _ hi, .inl ⟨rfl, xs0, SqL.of e0⟩, h S H0 σ H s _ fun M1 x v H1 p s1 l1 hv => ?_⟩
  obtain ⟨k1, j, ds, b, es, hk1, rfl, hj1, hl, g⟩ := p
  obtain ⟨xs, e1, e2⟩ := s1.obs _ (List.mem_of_getElem? hk1)
  obtain ⟨ys, e3, e4⟩ := s1.obs _ (List.mem_of_getElem? hj1)
  cases (show v = .ref b from hv)
  refine ⟨a, b, xs, ys, rfl, rfl, e1, e3, ?_, g _ _ (s1.put (m' := .lst (ds ++ es)) hk1 ⟨xs ++ ys, rfl, dpa_append e2 e4⟩).1⟩
  rw [dpa_len e2, dpa_len e4]
  exact Nat.le_trans hl (by decide)
theorem s_ext2 {i k : Nat} {a : Addr} {ds0 : List PyData} (hi : ρ[i]? = some (.adr a)) (hk : M[k]? = some (a, .lst ds0)) (h : Eva K M ρ te (fun M1 x => ∃ (k1 j : Nat) (ds : List PyData) (b : Addr) (es : List PyData), M1[k1]? = some (a, .lst ds) ∧ x = .adr b ∧ M1[j]? = some (b, .lst es) ∧ ds.length + es.length ≤ 100000 ∧ At K S H0 (M1.set k1 (a, .lst (ds ++ es))) ρ D.nx)) :
    At K S H0 M ρ (tDrop (tBM K "list" rExtend (tVar i) (tCons te tNil)) D) := fun σ H s => ext_core2 hi hk h s
end
end D
namespace D
open PySem PySem.Spec PyProof.Rows L2
theorem pi_listK {X : Cx} {K : PySem.W.Frag} {tg e : Expr} {te : TE} (hK : X.K = K) (h : PI X tg e (iList X.K te)) : PI X tg e (iList K te) := by
  subst hK
  exact h
end D
namespace D
open PySem PySem.Spec PyProof.Rows L2 M
section
variable (K : PySem.W.Frag)
abbrev rowD (r : M.Row) : PyData := .tuple [.int r.d, .int r.f, .int r.c]
abbrev encL (ns : List Int) : List PyData := [.list (di ns)]
abbrev encII (x : Int × Int) : List PyData := [.int x.1, .int x.2]
abbrev encNC (x : List Int × List Int) : List PyData := [.list (di x.1), .tuple (di x.2)]
abbrev encNP (x : List Int × List M.Row) : List PyData := [.list (di x.1), .list (x.2.map rowD)]
abbrev encNCI (x : List Int × List Int × Int) : List PyData := [.list (di x.1), .tuple (di x.2.1), .int x.2.2]
abbrev encNLI (x : List Int × Int) : List PyData := [.list (di x.1), .int (x.1.length : Nat), .int x.2]
abbrev encNAP (x : List Int × List M.Row) : List PyData := [.list (di x.1), .tuple (di (amounts x.1 x.2)), .list (x.2.map rowD)]
abbrev encNPC (x : List Int × List M.Row × List Int) : List PyData := [.list (di x.1), .list (x.2.1.map rowD), .tuple (di x.2.2)]
abbrev sp_products : Sp := spP K encL Sched (fun ns d => d = .list (di (sizes ns)))
abbrev sp_is_integer : Sp := spP K (fun i : Int => [.int i]) (fun _ => True) (fun _ d => d = .bool true)
abbrev sp_is_at_least : Sp := spP K encII (fun _ => True) (fun i d => d = .bool (decide (i.2 ≤ i.1)))
abbrev sp_is_between : Sp := spP K (fun i : Int × Int × Int => [.int i.1, .int i.2.1, .int i.2.2]) (fun _ => True) (fun i d => d = .bool (decide (i.2.1 ≤ i.1) && decide (i.1 ≤ i.2.2)))
abbrev sp_rounded_up : Sp := spP K encII (fun i => 0 < i.2 ∧ i.2 < P2 700) (fun i d => d = .int (-((-i.1) / i.2)))
abbrev sp_require_schedule : Sp := spP K encL Sched (fun i d => d = .none)
abbrev sp_is_group : Sp := spP K (fun x : List Int × Int => [.tuple (di x.1), .int x.2]) (fun x => (∀ c ∈ x.1, 0 ≤ c) ∧ x.2 = (x.1.length : Int) ∧ x.1.length ≤ 200) (fun i d => d = .bool true)
abbrev sp_require_counts : Sp := spP K (fun cs : List Int => [.tuple (di cs)]) Counts (fun i d => d = .none)
abbrev sp_is_row : Sp := spP K (fun x : List Int × M.Row => [.list (di (sizes x.1)), rowD x.2]) (fun x => Sched x.1 ∧ RowOk x.1 x.2) (fun i d => d = .bool true)
abbrev sp_require_plan : Sp := spP K encNP (fun x => Sched x.1 ∧ Plan x.1 x.2) (fun i d => d = .none)
abbrev sp_require_choices : Sp := spP K encNCI (fun x => Sched x.1 ∧ Choices x.1 x.2.1 ∧ (x.2.1.length : Int) ≤ x.2.2) (fun i d => d = .none)
abbrev sp_digits : Sp := spP K encNLI (fun x => Sched x.1) (fun x d => d = .tuple (di (word x.1 x.1.length x.2)))
abbrev sp_greatest_common_divisor : Sp := spP K encII (fun i => 0 ≤ i.1 ∧ 0 ≤ i.2) (fun i d => d = .int (M.gcd i.1 i.2))
abbrev sp_lowest_terms : Sp := spP K encII (fun i => 0 ≤ i.1 ∧ 0 < i.2 ∧ i.2 < P2 700) (fun i d => d = .tuple [.int (i.1 / M.gcd i.1 i.2), .int (i.2 / M.gcd i.1 i.2)])
abbrev sp_scaled_weight : Sp := spP K encNC (fun x => Sched x.1 ∧ Counts x.2 ∧ x.2.length = x.1.length) (fun x d => d = .int (scaled x.1 x.2))
abbrev sp_weight : Sp := spP K encNC (fun x => Sched x.1 ∧ Counts x.2 ∧ x.2.length = x.1.length)
  (fun x d => d = .tuple [.int (scaled x.1 x.2 / M.gcd (scaled x.1 x.2) (pd x.1 x.1.length)), .int (pd x.1 x.1.length / M.gcd (scaled x.1 x.2) (pd x.1 x.1.length))])
abbrev sp_word_numbers : Sp := spP K encNC (fun x => Sched x.1 ∧ Choices x.1 x.2) (fun x d => d = .list (di (nums x.1 x.2)))
abbrev sp_number_of : Sp := spP K encNC (fun x => Sched x.1 ∧ Choices x.1 x.2) (fun x d => d = .int (wn x.1 x.2 x.2.length))
abbrev sp_check_plan : Sp := spP K encNAP (fun x => Sched x.1 ∧ Plan x.1 x.2) (fun x d => d = .none)
abbrev sp_covered : Sp := spP K encNPC (fun x => Sched x.1 ∧ Plan x.1 x.2.1 ∧ Choices x.1 x.2.2) (fun x d => d = .int (cov x.1 x.2.1 x.2.2))
end
theorem rows_get {rs : List M.Row} {i : Nat} {d : PyData} (h : (rs.map rowD)[i]? = some d) : ∃ r, rs[i]? = some r ∧ d = rowD r := by
  rw [List.getElem?_map] at h
  cases q : rs[i]? with
  | none =>
    rw [q] at h
    cases h
  | some x =>
    rw [q] at h
    exact ⟨x, rfl, (Option.some.inj h).symm⟩
theorem cutD_all (ds : List PyData) {n : Int} (h : n = (ds.length : Int)) : cutD ds none (some n) = ds := by
  subst h
  unfold cutD HT.sIx
  simp only [List.drop_zero, Nat.sub_zero]
  exact List.take_of_length_le (by split <;> omega)
theorem cutD_from1 (ds : List PyData) : cutD ds (some 1) none = ds.drop 1 := by
  cases ds with
  | nil => rfl
  | cons d r =>
    unfold cutD HT.sIx
    show List.take (r.length + 1 - min 1 (r.length + 1)) (List.drop (min 1 (r.length + 1)) (d :: r)) = r
    rw [Nat.min_eq_left (by omega)]
    exact List.take_of_length_le (by show r.length ≤ _; omega)
theorem zip_ints : ∀ (xs ys : List Int), zipD (di xs) (di ys) = List.zipWith (fun x y => PyData.tuple [.int x, .int y]) xs ys
  | [], _ => by simp [zipD]
  | _ :: _, [] => by simp [zipD]
  | x :: xs, y :: ys => by
    have ih := zip_ints xs ys
    unfold zipD at ih ⊢
    simp only [List.map_cons, List.zipWith_cons_cons, ih]
theorem scaled_zip {ns cs : List Int} (h : cs.length = ns.length) {W : Int} : (zipD (di cs) ((di (sizes ns)).drop 1)).filterMap (fun d => match d with | .tuple [.int c, .int p] => some (PyData.int (c * (W / p))) | _ => none) = di ((List.range cs.length).map fun i => cs.getD i 0 * (W / pd ns (i + 1))) := by
  rw [← List.map_drop, zip_ints]
  refine List.ext_getElem? fun i => ?_
  have e : (List.zipWith (fun x y => PyData.tuple [.int x, .int y]) cs ((sizes ns).drop 1)).filterMap (fun d => match d with | .tuple [.int c, .int p] => some (PyData.int (c * (W / p))) | _ => none) = List.zipWith (fun x y => PyData.int (x * (W / y))) cs ((sizes ns).drop 1) := by
    generalize (sizes ns).drop 1 = ys
    clear h
    induction cs generalizing ys with
    | nil => rfl
    | cons c r ih =>
      cases ys with
      | nil => rfl
      | cons y s =>
        rw [List.zipWith_cons_cons, List.zipWith_cons_cons, List.filterMap_cons]
        rw [ih]
  rw [e, List.getElem?_zipWith, List.getElem?_drop]
  unfold di
  rw [List.getElem?_map, List.getElem?_map]
  by_cases hi : i < cs.length
  · rw [List.getElem?_range hi, getD_some hi 0, sizes_get (by omega), Nat.add_comm 1 i]
    rfl
  · rw [List.getElem?_eq_none (l := cs) (by omega), List.getElem?_eq_none (l := sizes ns) (by rw [sizes_len]; omega), List.getElem?_eq_none (l := List.range cs.length) (by rw [List.length_range]; omega)]
    rfl
end D
namespace D
open PySem PySem.Spec PyProof.Rows L2 M
def addK (ks : List Int) (n : Int) : List Int := if n ∈ ks then ks else ks ++ [n]
theorem mem_addK {ks : List Int} {n k : Int} : k ∈ addK ks n ↔ k ∈ ks ∨ k = n := by
  unfold addK
  split
  · rename_i h
    exact ⟨.inl, fun z => z.elim id fun w => by rw [w]; exact h⟩
  · rw [List.mem_append, List.mem_singleton]
theorem len_addK (ks : List Int) (n : Int) : (addK ks n).length ≤ ks.length + 1 := by
  unfold addK
  split
  · omega
  · rw [List.length_append]
    exact Nat.le_refl _
structure Dct (kvs : List (Key × V)) (ks : List Int) (v : Int → Int) : Prop where
  keys : kvs.map (·.1) = ks.map Sum.inl
  nd : ks.Nodup
  val : ∀ k : Int, valV kvs (.inl k) = if k ∈ ks then some (.int (v k)) else none
  zero : ∀ k, k ∉ ks → v k = 0
theorem Dct.len {kvs : List (Key × V)} {ks : List Int} {v : Int → Int} (h : Dct kvs ks v) : kvs.length = ks.length := by
  have := congrArg List.length h.keys
  rwa [List.length_map, List.length_map] at this
theorem Dct.get {kvs : List (Key × V)} {ks : List Int} {v : Int → Int} (h : Dct kvs ks v) (k : Int) : (valV kvs (.inl k : Key)).getD (.int 0) = .int (v k) := by
  rw [h.val k]
  split
  · rfl
  · rename_i n
    rw [h.zero k n]
    rfl
theorem Dct.at {kvs : List (Key × V)} {ks : List Int} {v : Int → Int} (h : Dct kvs ks v) {k : Int} (hk : k ∈ ks) : valV kvs (.inl k : Key) = some (.int (v k)) := by
  rw [h.val k, if_pos hk]
theorem Dct.congr {kvs : List (Key × V)} {ks : List Int} {v v' : Int → Int} (h : Dct kvs ks v) (e : ∀ k, v' k = v k) : Dct kvs ks v' := by
  have : v' = v := funext e
  rw [this]
  exact h
theorem Dct.one : Dct [((.inl 0 : Key), .int 0)] [0] (fun _ => 0) where
  keys := rfl
  nd := by simp
  val := fun k => by
    by_cases e : k = 0
    · subst e
      rw [if_pos (by simp)]
      exact valV_pos rfl
    · rw [if_neg (by simpa using e)]
      rw [valV_neg (fun z => e (Sum.inl.inj z).symm)]
      rfl
  zero := fun _ _ => rfl
theorem Dct.put {kvs : List (Key × V)} {ks : List Int} {v : Int → Int} (h : Dct kvs ks v) (n z : Int) : Dct (putK kvs (.inl n : Key) (.int z)) (addK ks n) (fun k => if k = n then z else v k) where
  keys := by
    unfold putK
    rw [valV_any, h.val n]
    unfold addK
    by_cases e : n ∈ ks
    · rw [if_pos e, if_pos e]
      show ((kvs.map fun kv => if kv.1 = (.inl n : Key) then (kv.1, V.int z) else kv).map (·.1)) = _
      rw [List.map_map, ← h.keys]
      refine List.map_congr_left fun kv _ => ?_
      show (if kv.1 = (.inl n : Key) then (kv.1, V.int z) else kv).1 = kv.1
      split <;> rfl
    · rw [if_neg e, if_neg e]
      show ((kvs ++ [((.inl n : Key), V.int z)]).map (·.1)) = _
      rw [List.map_append, List.map_append, h.keys]
      rfl
  nd := by
    unfold addK
    split
    · exact h.nd
    · rename_i e
      rw [List.nodup_append]
      exact ⟨h.nd, by simp, fun a ha b hb => by
        rw [List.mem_singleton.mp hb]
        intro w
        rw [w] at ha
        exact e ha⟩
  val := fun k => by
    rw [valV_put, h.val k]
    by_cases e : k = n
    · rw [if_pos (by rw [e]), if_pos (mem_addK.mpr (.inr e)), if_pos e]
    · rw [if_neg (fun w => e (Sum.inl.inj w))]
      by_cases m : k ∈ ks
      · rw [if_pos m, if_pos (mem_addK.mpr (.inl m)), if_neg e]
      · rw [if_neg m, if_neg fun w => (mem_addK.mp w).elim m e]
  zero := fun k m => by
    have m1 : k ∉ ks := fun w => m (mem_addK.mpr (.inl w))
    have m2 : ¬ k = n := fun w => m (mem_addK.mpr (.inr w))
    rw [if_neg m2]
    exact h.zero k m1
/-- a row's three changes -/
theorem three (v : Int → Int) (a b w k : Int) :
    (if k = 0 then (if (0 : Int) = b then (if b = a then v a + 1 else v b) - 1 else if (0 : Int) = a then v a + 1 else v 0) + w else if k = b then (if b = a then v a + 1 else v b) - 1 else if k = a then v a + 1 else v k)
      = v k + (ind (k = a) - ind (k = b) + if k = 0 then w else 0) := by
  unfold ind
  by_cases h1 : k = 0
  · subst h1
    rw [if_pos rfl, if_pos rfl]
    by_cases h2 : (0 : Int) = b
    · subst h2
      rw [if_pos rfl, if_pos rfl]
      by_cases h3 : (0 : Int) = a
      · subst h3
        rw [if_pos rfl, if_pos rfl]
        omega
      · rw [if_neg h3, if_neg h3]
        omega
    · rw [if_neg h2, if_neg h2]
      by_cases h3 : (0 : Int) = a
      · subst h3
        rw [if_pos rfl, if_pos rfl]
        omega
      · rw [if_neg h3, if_neg h3]
        omega
  · rw [if_neg h1, if_neg h1]
    by_cases h2 : k = b
    · subst h2
      rw [if_pos rfl, if_pos rfl]
      by_cases h3 : k = a
      · subst h3
        rw [if_pos rfl, if_pos rfl]
        omega
      · rw [if_neg h3, if_neg h3]
        omega
    · rw [if_neg h2, if_neg h2]
      by_cases h3 : k = a
      · subst h3
        rw [if_pos rfl, if_pos rfl]
        omega
      · rw [if_neg h3, if_neg h3]
        omega
/-- the dict of changes after some rows -/
structure Chs (ns : List Int) (rs : List M.Row) (kvs : List (Key × V)) : Prop where
  ex : ∃ ks, Dct kvs ks (chgs ns rs) ∧ ks.length ≤ 1 + 2 * rs.length ∧ ∀ k, k ∈ ks ↔ k = 0 ∨ ∃ r ∈ rs, k = r.f * unit ns r ∨ k = endp ns r * unit ns r
theorem Chs.nil (ns : List Int) : Chs ns [] [((.inl 0 : Key), .int 0)] := ⟨[0], Dct.one, by decide, fun k => by simp⟩
theorem Chs.len {ns : List Int} {rs : List M.Row} {kvs : List (Key × V)} (h : Chs ns rs kvs) : kvs.length ≤ 1 + 2 * rs.length := by
  obtain ⟨ks, d, l, _⟩ := h.ex
  rw [d.len]
  exact l
theorem chgs_snoc (ns : List Int) (rs : List M.Row) (r : M.Row) (k : Int) : chgs ns (rs ++ [r]) k = chgs ns rs k + chg ns r k := by
  unfold chgs
  rw [List.map_append, List.sum_append]
  simp
def v1 (v : Int → Int) (a k : Int) : Int := if k = a then v a + 1 else v k
def v2 (v : Int → Int) (a b k : Int) : Int := if k = b then v1 v a b - 1 else v1 v a k
section
variable {ns : List Int} {rs : List M.Row} {kvs : List (Key × V)}
theorem Chs.g1 (h : Chs ns rs kvs) (a : Int) : (valV kvs (.inl a : Key)).getD (.int 0) = .int (chgs ns rs a) := by
  obtain ⟨ks, d, _⟩ := h.ex
  exact d.get a
theorem Chs.g2 (h : Chs ns rs kvs) (a b : Int) : (valV (putK kvs (.inl a : Key) (.int (chgs ns rs a + 1))) (.inl b : Key)).getD (.int 0) = .int (v1 (chgs ns rs) a b) := by
  obtain ⟨ks, d, _⟩ := h.ex
  exact (d.put a _).get b
theorem Chs.g3 (h : Chs ns rs kvs) (a b : Int) : valV (putK (putK kvs (.inl a : Key) (.int (chgs ns rs a + 1))) (.inl b : Key) (.int (v1 (chgs ns rs) a b - 1))) (.inl 0 : Key) = some (.int (v2 (chgs ns rs) a b 0)) := by
  obtain ⟨ks, d, _, m⟩ := h.ex
  exact ((d.put a _).put b _).at (mem_addK.mpr (.inl (mem_addK.mpr (.inl ((m 0).mpr (.inl rfl))))))
theorem Chs.step (h : Chs ns rs kvs) (r : M.Row) {a b w : Int} (ha : a = r.f * unit ns r) (hb : b = endp ns r * unit ns r) (hw : w = ind (pd ns r.d ≤ r.f + r.c % pd ns r.d)) :
    Chs ns (rs ++ [r]) (putK (putK (putK kvs (.inl a : Key) (.int (chgs ns rs a + 1))) (.inl b : Key) (.int (v1 (chgs ns rs) a b - 1))) (.inl 0 : Key) (.int (v2 (chgs ns rs) a b 0 + w))) := by
  obtain ⟨ks, d, l, m⟩ := h.ex
  refine ⟨addK (addK (addK ks a) b) 0, (((d.put a _).put b _).put 0 _).congr fun k => ?_, ?_, fun k => ?_⟩
  · rw [chgs_snoc]
    show chgs ns rs k + (ind (k = r.f * unit ns r) - ind (k = endp ns r * unit ns r) + if k = 0 then ind (pd ns r.d ≤ r.f + r.c % pd ns r.d) else 0) = _
    rw [← ha, ← hb, ← hw]
    exact (three (chgs ns rs) a b w k).symm
  · have e : addK (addK (addK ks a) b) 0 = addK (addK ks a) b := by
      unfold addK
      exact if_pos (mem_addK.mpr (.inl (mem_addK.mpr (.inl ((m 0).mpr (.inl rfl))))))
    rw [e, List.length_append]
    have := len_addK (addK ks a) b
    have := len_addK ks a
    show _ ≤ 1 + 2 * (rs.length + 1)
    omega
  · rw [mem_addK, mem_addK, mem_addK, m]
    constructor
    · rintro ((((z | ⟨r', h1, h2⟩) | z) | z) | z)
      · exact .inl z
      · exact .inr ⟨r', List.mem_append_left _ h1, h2⟩
      · exact .inr ⟨r, by simp, .inl (by rw [z, ha])⟩
      · exact .inr ⟨r, by simp, .inr (by rw [z, hb])⟩
      · exact .inl z
    · rintro (z | ⟨r', h1, h2⟩)
      · exact .inr z
      · rcases List.mem_append.mp h1 with q | q
        · exact .inl (.inl (.inl (.inr ⟨r', q, h2⟩)))
        · rw [List.mem_singleton.mp q] at h2
          rcases h2 with z | z
          · exact .inl (.inl (.inr (by rw [z, ha])))
          · exact .inl (.inr (by rw [z, hb]))
end
theorem lt_of_le_nodup2 (ys : List Int) (h : ys.Pairwise (· ≤ ·)) (n : ys.Nodup) : ys.Pairwise (· < ·) := by
  induction ys with
  | nil => exact .nil
  | cons a r ih =>
    obtain ⟨h1, h2⟩ := List.pairwise_cons.mp h
    obtain ⟨n1, n2⟩ := List.nodup_cons.mp n
    refine List.pairwise_cons.mpr ⟨fun b hb => ?_, ih h2 n2⟩
    have := h1 b hb
    have : a ≠ b := fun e => n1 (by rw [e]; exact hb)
    omega
theorem sorted_places {ns : List Int} {rs : List M.Row} {ks ys : List Int} (hn : ks.Nodup) (hm : ∀ k, k ∈ ks ↔ k = 0 ∨ ∃ r ∈ rs, k = r.f * unit ns r ∨ k = endp ns r * unit ns r) (hp : ys.Perm ks) (hs : ys.Pairwise (· ≤ ·)) : IsPlaces ns rs ys where
  sorted := lt_of_le_nodup2 ys hs (hp.nodup_iff.mpr hn)
  mem := fun p => by rw [hp.mem_iff, hm]
end D
namespace D
theorem max_if (a b : Int) : max a b = if b > a then b else a := by
  split <;> omega
theorem min_if (a b : Int) : min a b = if b < a then b else a := by
  split <;> omega
end D
namespace D
open PySem PySem.Spec PyProof.Rows L2 M
section
variable (K : PySem.W.Frag)
abbrev lvD (ns : List Int) (rs : List M.Row) (ps : List Int) : PyData := .list (ps.map fun p => .tuple [.int p, .int (lvl ns rs p)])
abbrev exD (ns : List Int) (lo plo hi phi : Int) : PyData := .tuple [.int lo, .tuple (di (word ns ns.length plo)), .int hi, .tuple (di (word ns ns.length phi))]
def fltD (ns : List Int) (rs : List M.Row) (ps : List Int) : PyData := match ps.find? (bad ns rs) with
  | none => .none
  | some p => .tuple [.tuple (di (word ns ns.length p)), .int (lvl ns rs p)]
abbrev sp_arrivals_by_start : Sp := spP K encNP (fun x => Sched x.1 ∧ Plan x.1 x.2) (fun x d => ∃ ps, IsPlaces x.1 x.2 ps ∧ d = lvD x.1 x.2 ps)
abbrev sp_plan_fault : Sp := spP K encNAP (fun x => Sched x.1 ∧ Plan x.1 x.2) (fun x d => ∃ ps, IsPlaces x.1 x.2 ps ∧ d = fltD x.1 x.2 ps)
abbrev sp_extreme_choices : Sp := spP K encNP (fun x => Sched x.1 ∧ Plan x.1 x.2) (fun x d => ∃ lo plo hi phi, Ext x.1 x.2 lo plo hi phi ∧ d = exD x.1 lo plo hi phi)
abbrev sp_is_prefix_free : Sp := spP K encNP (fun x => Sched x.1 ∧ Plan x.1 x.2) (fun x d => ∃ lo plo hi phi, Ext x.1 x.2 lo plo hi phi ∧ d = .bool (decide (hi ≤ 1)))
abbrev encCB (x : Int × M.Row × Int × Int) : List PyData := [.int x.1, rowD x.2.1, .int x.2.2.1, .int x.2.2.2]
abbrev sp_climbers_between : Sp := spP K encCB (fun x => 0 < x.1 ∧ x.1 < P2 700 ∧ 1 ≤ x.2.1.c ∧ x.2.1.c < P2 710 ∧ 0 ≤ x.2.2.2 ∧ x.2.2.2 < P2 700) (fun x d => d = .int (clim x.1 x.2.1 x.2.2.1 x.2.2.2))
abbrev sp_rest_of : Sp := spP K encNPC (fun x => Sched x.1 ∧ Plan x.1 x.2.1 ∧ Choices x.1 x.2.2) (fun x d => d = .list ((restR x.1 x.2.1 x.2.2).map rowD))
end
theorem lv_get {ns : List Int} {rs : List M.Row} {ps : List Int} {i : Nat} {d : PyData} (h : (ps.map fun p => PyData.tuple [.int p, .int (lvl ns rs p)])[i]? = some d) : ∃ p, ps[i]? = some p ∧ d = .tuple [.int p, .int (lvl ns rs p)] := by
  rw [List.getElem?_map] at h
  cases q : ps[i]? with
  | none =>
    rw [q] at h
    cases h
  | some x =>
    rw [q] at h
    exact ⟨x, rfl, (Option.some.inj h).symm⟩
theorem lv_mem {ns : List Int} {rs : List M.Row} {ps : List Int} {d : PyData} (h : d ∈ (ps.map fun p => PyData.tuple [.int p, .int (lvl ns rs p)])) : ∃ p, p ∈ ps ∧ d = .tuple [.int p, .int (lvl ns rs p)] := by
  obtain ⟨p, h1, h2⟩ := List.mem_map.mp h
  exact ⟨p, h1, h2.symm⟩
def sndF : PyData → Option PyData
  | .tuple [_, y] => some y
  | _ => none
def atF (v : Int) : PyData → Option PyData
  | .tuple [x, .int l] => if l = v then some x else none
  | _ => none
theorem lv_snd (ns : List Int) (rs : List M.Row) (ps : List Int) : (ps.map fun p => PyData.tuple [.int p, .int (lvl ns rs p)]).filterMap sndF = di (ps.map (lvl ns rs)) := by
  induction ps with
  | nil => rfl
  | cons p r ih =>
    rw [List.map_cons, List.filterMap_cons_some (show sndF (PyData.tuple [.int p, .int (lvl ns rs p)]) = some (.int (lvl ns rs p)) from rfl), ih]
    rfl
theorem lv_at (ns : List Int) (rs : List M.Row) (ps : List Int) (v : Int) : (ps.map fun p => PyData.tuple [.int p, .int (lvl ns rs p)]).filterMap (atF v) = di (ps.filter fun q => decide (lvl ns rs q = v)) := by
  induction ps with
  | nil => rfl
  | cons p r ih =>
    have h : atF v (PyData.tuple [.int p, .int (lvl ns rs p)]) = if lvl ns rs p = v then some (.int p) else none := rfl
    by_cases e : lvl ns rs p = v
    · rw [if_pos e] at h
      rw [List.filter_cons_of_pos (by simp [e]), List.map_cons, List.filterMap_cons_some h, ih]
      rfl
    · rw [if_neg e] at h
      rw [List.filter_cons_of_neg (by simp [e]), List.map_cons, List.filterMap_cons_none h, ih]
end D
namespace D
open PySem
theorem di_inj : ∀ {xs ys : List Int}, di xs = di ys → xs = ys
  | [], [], _ => rfl
  | [], _ :: _, h => by cases h
  | _ :: _, [], h => by cases h
  | x :: xs, y :: ys, h => by
    obtain ⟨h1, h2⟩ := List.cons.inj h
    cases h1
    rw [di_inj h2]
end D
namespace D
open PySem PySem.Spec PyProof.Rows L2 M
def spN (K : PySem.W.Frag) {α : Type} (enc : α → List PyData) (pre : α → Prop) (post : α → Src → Prop) : Sp := fun vs H Q _ =>
  ∃ x : α, DpAll K H vs (enc x) ∧ pre x ∧ ∀ s a H', post x s → H a = none → Le H H' → H' a = some (.lst (srcV s)) → Q (.ref a) H'
section
variable {K : PySem.W.Frag} {S : Addr → Prop} {H0 H H' : Hp} {M M' : MS} {ρ ρ' : List Sl} {σ : L2.St} {P : MS → Sl → Prop} {E : XK} {ta : TA}
theorem Sta.adopt (s : Sta K S H0 M ρ σ H) (e : Le H H') {p : Addr} {m : MO} (hp : H p = none) (h : MOk K (hm S M H) (H' p) m) :
    Sta K S H0 ((p, m) :: M) ρ σ H' ∧ Le (hm S M H) (hm S ((p, m) :: M) H') := by
  obtain ⟨n1, n2⟩ := s.new_out hp
  have el : Le (hm S M H) (hm S ((p, m) :: M) H') := hm_monoM e fun b o q hb z => by
    rcases List.mem_cons.mp z with w | w
    · rw [w, hp] at q
      cases q
    · exact hb w
  have g := s.grow e
  refine ⟨⟨g.ex, fun q hq => ?_, g.sd, fun q hq => ?_, ?_, g.len, fun i x hx => (s.env i x hx).mono el, fun q hq => ?_⟩, el⟩
  · rcases List.mem_cons.mp hq with w | w
    · rw [w]
      exact s.ex.none hp
    · exact s.fr q w
  · rcases List.mem_cons.mp hq with w | w
    · rw [w]
      exact n1
    · exact s.sm q w
  · exact List.nodup_cons.mpr ⟨n2, s.nd⟩
  · rcases List.mem_cons.mp hq with w | w
    · subst w
      exact h.mono el
    · have m1 := (s.obs q w).mono el
      obtain ⟨u, hu, _⟩ := (s.obs q w).some
      rw [hu] at m1
      rw [e q.1 u hu]
      exact m1
theorem eva_callN {α : Type} {enc : α → List PyData} {pre : α → Prop} {post : α → Src → Prop} (h : EvA K M ρ ta (fun M1 ss => ∃ x, datS ss = some (enc x) ∧ pre x ∧ ∀ s a, post x s → P ((a, .lst (srcD s)) :: M1) (.adr a))) : Eva K M ρ (tCall (spN K enc pre post) [] E ta) P := fun S H0 σ H st Q f => by
  refine h S H0 σ H st _ fun M1 ss vs H1 p s1 l1 hv => ?_
  obtain ⟨x, e, hp, k⟩ := p
  rw [datS_map e] at hv
  refine ⟨x, ?_, hp, fun s a H2 hd hn l2 ha => ?_⟩
  · rw [List.append_nil]
    exact dpa_mono hm_le hv.dats
  · obtain ⟨s2, el⟩ := s1.adopt (m := .lst (srcD s)) l2 hn ⟨_, ha, srcV_dp⟩
    exact f _ _ _ _ (k s a hd) s2 (l1.trans el) rfl
end
section
variable {Pg : Program} {w : World} {K : PySem.W.Frag} {mg : Str → Option Value} {base : Heap}
theorem hide_no {H : Hp} : hide (fun _ => False) H = H := funext fun b => hide_out fun z => z
theorem okN {x qual : Str} {st : Stmt} {f : Addr} {fd : FuncData} {N ps : List Str} {k : Nat} {α : Type} {enc : α → List PyData} {pre : α → Prop} {post : α → Src → Prop} (F : Fun K x qual st f fd) (Sc : FnScope N ps (defScope st)) (hl : ∀ x, (enc x).length = ps.length)
    (hbody : ∀ (cdv : Value) (A : Around) (outer : List Env) (s : Shared) (H : Hp) (Q : VK) (E : XK), Room k (A.deeper (envOfC qual (defScope st) s.heap.objs.size f cdv)) →
      ∃ t, PSs (cxOf CX0 Pg w K mg base N qual (defScope st) f cdv A outer s H E).nox (defBody st) t ∧
        ∀ (S : Addr → Prop) (x : α), pre x → (∀ s, post x s → ∀ M ρ a y, M[M.length - 1]? = some (a, .lst (srcD s)) → y = .adr a → Ret K S H M ρ y Q) →
          At K S H [] (ent ((enc x).map Sl.dat) (N.length - ps.length)) (t { nx := fun _ H' => Q .non H', rt := Q })) : FnOk Pg w K mg base CX0 (k + 1) f fd ps (spN K enc pre post) := by
  refine F.ok Sc (fun vs H Q E h => ?_) (fun cdv A outer s H vs Q E hr h => ?_)
  · obtain ⟨x, h2, h3, _⟩ := h
    rw [dpa_len h2]
    exact hl x
  · obtain ⟨x, h2, h3, h4⟩ := h
    obtain ⟨t, ht, hat⟩ := hbody cdv A outer s H Q E hr
    refine ⟨t, ht, hat (fun _ => False) x h3 (fun sr hd M ρ a y hk hy σ H2 v st hv => ?_) (L2.start N vs) H ?_⟩
    · subst hy
      cases (show v = .ref a from hv)
      obtain ⟨xs, e1, e2⟩ := st.obs _ (List.mem_of_getElem? hk)
      rw [srcV_of e2] at e1
      exact h4 sr a H2 hd (st.fr a (List.mem_map.mpr ⟨_, List.mem_of_getElem? hk, rfl⟩)) st.ex e1
    · have hv := vall_dats h2
      have hlen : vs.length = ps.length := (dpa_len h2).trans (hl x)
      refine ⟨.refl H, fun p hp => (nomatch hp), fun b z => z.elim, fun p hp => (nomatch hp), .nil, ?_, fun i y hy => ?_, fun q hq => (nomatch hq)⟩
      · unfold L2.start ent
        rw [List.length_append, List.length_append, List.length_map, List.length_map, List.length_replicate, List.length_replicate, dpa_len h2, hl x]
      · rw [hm_nil, hide_no]
        unfold L2.start
        rw [hlen]
        exact start_env hv i y hy
end
section
variable (K : PySem.W.Frag)
abbrev encNPL (x : List Int × List M.Row × List Int) : List PyData := [.list (di x.1), .list (x.2.1.map rowD), lvD x.1 x.2.1 x.2.2]
abbrev sp__law_mix : Sp := spP K encII (fun _ => True) (fun _ d => ∃ r : Int, d = .int r)
abbrev sp__law_source : Sp := spN K (fun c : Int => [.int c]) (fun _ => True) (fun _ _ => True)
abbrev sp__law_draw : Sp := spS K (fun l : Int => [.int l]) (fun _ l => 0 < l ∧ l < P2 700) (fun _ l d _ => ∃ r : Int, d = .int r ∧ 0 ≤ r ∧ r < l)
abbrev sp__law_sizes : Sp := spP K encL Sched (fun ns d => d = .list (di (sizes ns)))
abbrev sp__law_wide : Sp := spS K (fun _ : Unit => []) (fun _ _ => True) (fun _ _ d _ => ∃ ns, d = .list (di ns) ∧ Sched ns)
abbrev most : Int := 10 ^ 20
abbrev sp__law_plan : Sp := spS K (fun x : List Int × Int => [.list (di x.1), .int x.2, .int most]) (fun _ x => Sched x.1 ∧ 0 ≤ x.2 ∧ x.2 ≤ 8) (fun _ x d _ => ∃ rs : List M.Row, d = .list (rs.map rowD) ∧ Plan x.1 rs ∧ rs.length ≤ 8)
abbrev sp__law_word : Sp := spP K encNLI (fun x => Sched x.1) (fun x d => d = .tuple (di (word x.1 x.1.length x.2)))
abbrev sp__law_levels : Sp := spP K encNP (fun x => Sched x.1 ∧ Plan x.1 x.2) (fun x d => ∃ ps, IsPlaces x.1 x.2 ps ∧ d = lvD x.1 x.2 ps)
abbrev sp__law_amounts : Sp := spP K encNP (fun x => Sched x.1 ∧ Plan x.1 x.2) (fun x d => d = .tuple (di (amounts x.1 x.2)))
abbrev sp__law_mean_right : Sp := spP K encNPL (fun x => Sched x.1 ∧ Plan x.1 x.2.1 ∧ IsPlaces x.1 x.2.1 x.2.2) (fun _ d => d = .bool true)
abbrev sp__law_extremes_right : Sp := spP K encNPL (fun x => Sched x.1 ∧ Plan x.1 x.2.1 ∧ IsPlaces x.1 x.2.1 x.2.2) (fun _ d => d = .bool true)
abbrev sp__law_judged_right : Sp := spP K encNPL (fun x => Sched x.1 ∧ Plan x.1 x.2.1 ∧ IsPlaces x.1 x.2.1 x.2.2) (fun _ d => d = .bool true)
abbrev sp__law_complement_right : Sp := spS K encNP (fun _ x => Sched x.1 ∧ Plan x.1 x.2 ∧ x.2.length ≤ 8) (fun _ _ d _ => d = .bool true)
abbrev sp__law_rest_right : Sp := spS K encNPC (fun _ x => Sched x.1 ∧ Plan x.1 x.2.1 ∧ Choices x.1 x.2.2 ∧ x.2.2.length = x.1.length) (fun _ _ d _ => d = .bool true)
abbrev sp__law_is_right : Sp := spS K encL (fun _ ns => Sched ns) (fun _ _ d _ => d = .bool true)
end
end D
namespace D
theorem cmulS {i j : Int} (h : (-18446744073709551616 < i ∧ i < 18446744073709551616) ∨ (-18446744073709551616 < j ∧ j < 18446744073709551616)) : L2.CMul i j := h
end D
namespace D
open PySem PySem.Spec PyProof.Rows L2 M
theorem amount_comp (rs : List M.Row) (i : Nat) : (rs.map rowD).filterMap (fun d => match d with | .tuple [.int z, _, .int c] => if z = 1 + (i : Int) * 1 then some (PyData.int c) else none | _ => none) = di ((rs.filter fun r => decide (r.d = i + 1)).map M.Row.c) := by
  rw [List.filterMap_map]
  induction rs with
  | nil => rfl
  | cons r s ih =>
    by_cases e : r.d = i + 1
    · rw [List.filterMap_cons_some (b := .int r.c) (by show (if (r.d : Int) = 1 + (i : Int) * 1 then some (PyData.int r.c) else none) = _; rw [if_pos (by omega)]), List.filter_cons_of_pos (by simp [e]), ih]
      rfl
    · rw [List.filterMap_cons_none (by show (if (r.d : Int) = 1 + (i : Int) * 1 then some (PyData.int r.c) else none) = _; rw [if_neg (by omega)]), List.filter_cons_of_neg (by simp [e]), ih]
theorem amounts_comp (ns : List Int) (rs : List M.Row) : (rngD 1 1 ns.length).filterMap (fun d => match d with | .int z => some (PyData.int (amount rs z.toNat)) | _ => none) = di (amounts ns rs) := by
  unfold rngD amounts di
  rw [List.filterMap_map, List.map_map, ← List.filterMap_eq_map]
  refine congrFun (congrArg _ (funext fun i => ?_)) _
  show some (PyData.int (amount rs (1 + (i : Int) * 1).toNat)) = some (PyData.int (amount rs (i + 1)))
  rw [show (1 + (i : Int) * 1).toNat = i + 1 by omega]
end D
namespace D
open PySem PySem.Spec PyProof.Rows L2 M
theorem eva_ite {K : PySem.W.Frag} {M : MS} {ρ : List Sl} {ta tb : TE} {P : MS → Sl → Prop} {b : Bool} (d : PyData) (h1 : b = true → ∀ P : MS → Sl → Prop, P M (.dat d) → Eva K M ρ ta P) (h2 : b = false → ∀ P : MS → Sl → Prop, P M (.dat d) → Eva K M ρ tb P) (p : P M (.dat d)) : if b = true then Eva K M ρ ta P else Eva K M ρ tb P := by
  cases b
  · exact h2 rfl P p
  · exact h1 rfl P p
end D
namespace D
open PySem PySem.Spec PyProof.Rows L2 M
def fstF : PyData → Option PyData
  | .tuple [x, _] => some x
  | _ => none
def areaF : PyData → Option PyData
  | .tuple [.tuple [.int p, .int l], .int e] => some (.int ((e - p) * l))
  | _ => none
def oneF : PyData → Option PyData
  | .tuple [x, y, _] => some (.tuple [x, y, .int 1])
  | _ => none
abbrev lvT (ns : List Int) (rs : List M.Row) (ps : List Int) : List PyData := ps.map fun p => .tuple [.int p, .int (lvl ns rs p)]
theorem lv_fst (ns : List Int) (rs : List M.Row) (ps : List Int) : (lvT ns rs ps).filterMap fstF = di ps := by
  induction ps with
  | nil => rfl
  | cons p r ih =>
    show (PyData.tuple [.int p, .int (lvl ns rs p)] :: lvT ns rs r).filterMap fstF = di (p :: r)
    rw [List.filterMap_cons_some (show fstF (PyData.tuple [.int p, .int (lvl ns rs p)]) = some (.int p) from rfl), ih]
    rfl
theorem lv_area (ns : List Int) (rs : List M.Row) (W : Int) : ∀ ps : List Int, (zipD (lvT ns rs ps) (di (ps.drop 1 ++ [W]))).filterMap areaF = di (areaL (lvl ns rs) W ps)
  | [] => rfl
  | [p] => rfl
  | p :: q :: r => by
    have ih := lv_area ns rs W (q :: r)
    have e : zipD (lvT ns rs (p :: q :: r)) (di ((p :: q :: r).drop 1 ++ [W])) = .tuple [.tuple [.int p, .int (lvl ns rs p)], .int q] :: zipD (lvT ns rs (q :: r)) (di ((q :: r).drop 1 ++ [W])) := rfl
    rw [e, List.filterMap_cons_some (show areaF (PyData.tuple [.tuple [.int p, .int (lvl ns rs p)], .int q]) = some (.int ((q - p) * lvl ns rs p)) from rfl), ih]
    rfl
theorem row_ones (rs : List M.Row) : ((rs.take 1).map rowD).filterMap oneF = (ones rs).map rowD := by
  cases rs with
  | nil => rfl
  | cons r s => rfl
theorem cutD_take (ds : List PyData) {k : Nat} {z : Int} (hz : z = (k : Int)) (hk : k ≤ ds.length) : cutD ds none (some z) = ds.take k := by
  subst hz
  unfold cutD HT.sIx
  show List.take ((if (k : Int) < 0 then ((k : Int) + (ds.length : Int)).toNat else min (k : Int).toNat ds.length) - 0) (ds.drop 0) = _
  rw [if_neg (by omega), Int.toNat_natCast, Nat.min_eq_left hk]
  rfl
theorem cutD_drop (ds : List PyData) {k : Nat} {z : Int} (hz : z = (k : Int)) (hk : k ≤ ds.length) : cutD ds (some z) none = ds.drop k := by
  subst hz
  unfold cutD HT.sIx
  show List.take (ds.length - (if (k : Int) < 0 then ((k : Int) + (ds.length : Int)).toNat else min (k : Int).toNat ds.length)) (ds.drop (if (k : Int) < 0 then ((k : Int) + (ds.length : Int)).toNat else min (k : Int).toNat ds.length)) = _
  rw [if_neg (by omega), Int.toNat_natCast, Nat.min_eq_left hk]
  exact List.take_of_length_le (by rw [List.length_drop]; omega)
theorem cutD_one (ds : List PyData) : cutD ds none (some 1) = ds.take 1 := by
  cases ds with
  | nil => rfl
  | cons d r => exact cutD_take (d :: r) (k := 1) rfl (by show 1 ≤ r.length + 1; omega)
theorem di_take (ns : List Int) (k : Nat) : (di ns).take k = di (ns.take k) := by
  unfold di
  rw [List.map_take]
theorem di_drop (ns : List Int) (k : Nat) : (di ns).drop k = di (ns.drop k) := by
  unfold di
  rw [List.map_drop]
theorem shp_flt (ns : List Int) (rs : List M.Row) (ps : List Int) : SeqAt.shaped (fltD ns rs ps) = true := by
  unfold fltD
  cases ps.find? (bad ns rs) with
  | none => exact shp_none
  | some p => exact shp_tup (lay_cons (lay_tupI _) (lay_cons (lay_int _) lay_nil))
theorem shp_ex (ns : List Int) (lo plo hi phi : Int) : SeqAt.shaped (exD ns lo plo hi phi) = true := shp_tup (lay_cons (lay_int _) (lay_cons (lay_tupI _) (lay_cons (lay_int _) (lay_cons (lay_tupI _) lay_nil))))
theorem shp_ints (ns : List Int) : SeqAt.shaped (.tuple (di ns)) = true := shp_tup (lay_ints ns)
theorem flt_step {ns : List Int} {rs : List M.Row} {ps : List Int} {i : Nat} {p : Int} (hi : i < ps.length) (hp : ps[ps.length - 1 - i]? = some p) :
    fltD ns rs (ps.drop (ps.length - (i + 1))) = if bad ns rs p = true then .tuple [.tuple (di (word ns ns.length p)), .int (lvl ns rs p)] else fltD ns rs (ps.drop (ps.length - i)) := by
  have e : ps.drop (ps.length - (i + 1)) = p :: ps.drop (ps.length - i) := by
    have h1 : ps.length - (i + 1) < ps.length := by omega
    have hp2 : ps[ps.length - (i + 1)] = p := by
      have h2 := (List.getElem?_eq_some_iff.mp hp).2
      have e2 : ps.length - 1 - i = ps.length - (i + 1) := by omega
      simpa [e2] using h2
    rw [List.drop_eq_getElem_cons h1, hp2]
    congr 2
    omega
  rw [e]
  unfold fltD
  by_cases c : bad ns rs p = true
  · rw [if_pos c, List.find?_cons_of_pos c]
  · rw [if_neg c, List.find?_cons_of_neg c]
end D
namespace D
open PySem PySem.Spec PyProof.Rows L2 M
theorem cutD_takeG (ds : List PyData) (k : Nat) {z : Int} (hz : z = (k : Int)) : cutD ds none (some z) = ds.take k := by
  subst hz
  unfold cutD HT.sIx
  show List.take ((if (k : Int) < 0 then ((k : Int) + (ds.length : Int)).toNat else min (k : Int).toNat ds.length) - 0) (ds.drop 0) = _
  rw [if_neg (by omega), Int.toNat_natCast, Nat.sub_zero, List.drop_zero]
  rcases Nat.le_total k ds.length with h | h
  · rw [Nat.min_eq_left h]
  · rw [Nat.min_eq_right h, List.take_length, List.take_of_length_le h]
theorem last_int (ns : List Int) : ∃ z : Int, atI (.int 0 :: di ns) (-1) = some (.int z) := by
  have e : (.int 0 :: di ns : List PyData) = di (0 :: ns) := rfl
  rw [e]
  have h : (0 :: ns) ≠ [] := by simp
  rw [← List.dropLast_concat_getLast h, ← di_app]
  exact ⟨_, atI_last _ _⟩
theorem pd_twos (n : Nat) : ∀ d, d ≤ n → pd (List.replicate n 2) d = P2 d
  | 0, _ => rfl
  | d + 1, h => by
    have e : (List.replicate n (2 : Int))[d]? = some 2 := by
      rw [List.getElem?_replicate, if_pos (by omega)]
    rw [pd_succ e, pd_twos n d (by omega), P2_add]
    rfl
theorem twos_sched : Sched (List.replicate 200 2) where
  len := by rw [List.length_replicate]; decide
  two := fun n hn => by
    rw [(List.mem_replicate.mp hn).2]
    decide
  big := by
    rw [List.length_replicate, pd_twos 200 200 (Nat.le_refl _)]
    decide +kernel
abbrev sp_law (K : PySem.W.Frag) : Sp := spP K encL (fun ns => ns.length ≤ 63) (fun _ d => d = .bool true)
end D
open PySem PySem.Spec PyProof.Rows L2 D
local macro_rules | `(tactic| walk_at "dv") => `(tactic| (with_reducible show D.Eva _ _ _ (L2.tVar _) _; first | refine D.eva_dat rfl ?_ | refine D.eva_adr rfl ?_))
local macro_rules | `(tactic| walk_at "dx") => `(tactic| (first
  | with_reducible refine D.eva_int ?_ | with_reducible refine D.eva_bl ?_ | with_reducible refine D.eva_non ?_
  | with_reducible refine D.eva_op (r := L2.rI0 _) ?_ | with_reducible refine D.eva_op (r := L2.rI _ _) ?_ | with_reducible refine D.eva_op (r := L2.rIxL _) ?_ | with_reducible refine D.eva_op (r := L2.rIxT _) ?_
  | with_reducible refine D.eva_op (r := L2.rEq) ?_ | with_reducible refine D.eva_op (r := L2.rNe) ?_ | with_reducible refine D.eva_op (r := L2.rEqD _) ?_ | with_reducible refine D.eva_op (r := L2.rNeD _) ?_
  | with_reducible refine D.eva_op (r := D.rNotNone) ?_ | with_reducible refine D.eva_op (r := D.rCatL _) ?_ | with_reducible refine D.eva_op (r := L2.rCatA _) ?_ | with_reducible refine D.eva_un ?_
  | with_reducible refine D.eva_tup ?_ | with_reducible refine D.eva_isi ?_ | with_reducible refine D.eva_isiLT ?_ | with_reducible refine D.eva_cb ?_ | with_reducible refine D.eva_if ?_ | with_reducible refine D.eva_and ?_ | with_reducible refine D.eva_or ?_
  | with_reducible refine D.eva_not ?_ | with_reducible refine D.eva_chain ?_ | with_reducible refine D.eva_slL ?_ | with_reducible refine D.eva_slT ?_ | with_reducible refine D.eva_revL ?_
  | with_reducible refine D.eva_call ?_ | with_reducible refine D.eva_a_nil ?_ | with_reducible refine D.eva_a_cons ?_ | with_reducible refine D.evo_none ?_ | with_reducible refine D.evo_some ?_
  | with_reducible refine D.evt_test ?_ | with_reducible refine D.evt_B ?_ | with_reducible refine D.evt_and ?_ | with_reducible refine D.evt_or ?_ | with_reducible refine D.evt_not ?_ | with_reducible refine D.evt_yes ?_))
local macro_rules | `(tactic| walk_at "do") => `(tactic| (first
  | with_reducible refine D.opd_add ?_ | with_reducible refine D.opd_sub ?_ | with_reducible refine D.opd_lt ?_ | with_reducible refine D.opd_le ?_ | with_reducible refine D.opd_gt ?_ | with_reducible refine D.opd_ge ?_
  | with_reducible refine D.opd_eqI ?_ | with_reducible refine D.opd_neI ?_ | with_reducible refine D.opd_eqB ?_ | with_reducible refine D.opd_notN ?_
  | with_reducible refine D.opd_mod (by first | assumption | omega) ?_ | (with_reducible refine D.opd_mul ?hc ?_; (case hc => apply D.cmulS; omega))
  | with_reducible refine D.cbd_neg ?_ | with_reducible refine D.cbd_abs ?_ | with_reducible refine D.cbd_max2 ?_ | with_reducible refine D.cbd_min2 ?_ | with_reducible refine D.cbd_intB ?_
  | with_reducible refine D.cbd_lenL ?_ | with_reducible refine D.cbd_lenT ?_ | with_reducible refine D.cbd_tupleL ?_ | with_reducible refine D.cbd_listT ?_ | with_reducible refine D.cbd_sum ?_))
local macro_rules | `(tactic| walk_at "ds") => `(tactic| (first
  | with_reducible refine D.q_set ?_ | with_reducible refine D.s_set ?_ | with_reducible refine D.q_par ?_ | with_reducible refine D.s_par ?_
  | with_reducible refine D.q_aug rfl ?_ | with_reducible refine D.s_aug rfl ?_ | with_reducible refine D.q_when ?_ | with_reducible refine D.q_if ?_ | with_reducible refine D.s_when ?_ | with_reducible refine D.s_if ?_
  | with_reducible refine D.q_ret ?_ | with_reducible refine D.s_ret ?_ | with_reducible refine D.at_next ?_))
local macro_rules | `(tactic| walk_at "da") => `(tactic| (first
  | (with_reducible show D.At _ _ _ _ _ (L2.tSeq (L2.tDrop (L2.tBM _ _ L2.rAppend _ _)) _ _); first | refine D.q_app (k := 0) rfl rfl ?_ | refine D.q_app (k := 1) rfl rfl ?_ | refine D.q_app (k := 2) rfl rfl ?_)
  | (with_reducible show D.At _ _ _ _ _ (L2.tDrop (L2.tBM _ _ L2.rAppend _ _) _); first | refine D.s_app (k := 0) rfl rfl ?_ | refine D.s_app (k := 1) rfl rfl ?_ | refine D.s_app (k := 2) rfl rfl ?_)))
local macro_rules | `(tactic| walk_at "dq") => `(tactic| (first
  | (with_reducible show D.At _ _ _ _ _ (L2.tSeq (L2.tDrop (L2.tCall _ _ _ _)) _ _); refine D.q_drop ?_)
  | (with_reducible show D.At _ _ _ _ _ (L2.tDrop (L2.tCall _ _ _ _) _); refine D.s_drop ?_)))
local macro_rules | `(tactic| walk_at "dd") => `(tactic| (first
  | refine D.two_t ?_ | refine D.two_f ?_ | refine D.rwo_t ?_ | refine D.rwo_f ?_
  | refine ⟨_, rfl, Nat.le_of_ble_eq_true rfl, ?_⟩ | refine ⟨_, _, rfl, D.kit_ii, ?_⟩ | refine ⟨_, _, rfl, D.kit_ib, ?_⟩ | refine ⟨_, _, rfl, D.kit_tt, ?_⟩ | refine ⟨_, rfl, .inl rfl, ?_⟩ | refine ⟨_, rfl, ?_⟩ | refine ⟨_, _, rfl, ?_⟩))
local macro_rules | `(tactic| walk_at "d1") => `(tactic| (first | walk_at "dv" | walk_at "dx" | walk_at "do" | walk_at "ds" | walk_at "da" | walk_at "dq" | walk_at "dd"))
local macro_rules | `(tactic| walk_at "d") => `(tactic| repeat walk_at "d1")
local macro_rules | `(tactic| walk_at "dn") => `(tactic| (try simp only [D.ent, List.map_cons, List.map_nil, List.nil_append, List.cons_append, List.length_cons, List.length_nil, Nat.reduceAdd, Nat.reduceSub, Nat.zero_add, List.replicate_succ, List.replicate_zero, List.set_cons_zero, List.set_cons_succ]))
local macro_rules | `(tactic| walk_at "dw") => `(tactic| (repeat (first | exact D.Weak.nil | refine D.Weak.cons ?_ | refine D.Weak.no ?_)))
local macro_rules | `(tactic| walk_at "t1") => `(tactic| refine ⟨_, _, D.tgt_name, fun B hB => ?_⟩)
local macro_rules | `(tactic| walk_at "t2") => `(tactic| refine ⟨_, _, D.tgt_tup rfl (D.tgts_cons D.tgt_name (D.tgts_cons D.tgt_name D.tgts_nil)), fun B hB => ?_⟩)
local macro_rules | `(tactic| walk_at "t3") => `(tactic| refine ⟨_, _, D.tgt_tup rfl (D.tgts_cons D.tgt_name (D.tgts_cons D.tgt_name (D.tgts_cons D.tgt_name D.tgts_nil))), fun B hB => ?_⟩)
local macro_rules | `(tactic| walk_at "c1") => `(tactic| refine ⟨_, _, D.tgt_name, (fun _ h => h), ?_⟩)
local macro_rules | `(tactic| walk_at "c2") => `(tactic| refine ⟨_, _, D.tgt_tup rfl (D.tgts_cons D.tgt_name (D.tgts_cons D.tgt_name D.tgts_nil)), (fun _ h => h), ?_⟩)
namespace D
open M
section
variable {Pg : Program} {w : World} {K : PySem.W.Frag} {mg : Str → Option Value} {base : Heap}
abbrev st_products : Stmt := topS 18
theorem sc_products : FnScope ["schedule", "found", "entry"] ["schedule"] (defScope st_products) := ⟨rfl, rfl, rfl, by decide +kernel, rfl, by decide +kernel, by decide +kernel⟩
theorem ok_products {f : Addr} {fd : FuncData} (F : Fun K "products" "products" st_products f fd) (B : Bt mg) : FnOk Pg w K mg base CX0 1 f fd ["schedule"] (sp_products K) := by
  refine okP F sc_products (fun _ => rfl) fun cdv A outer s H Q E hr => ?_
  refine ⟨_, (pss_cons (ps_set (i := 1) sc_products.nd rfl (Or.inl rfl) (pe_lst (pa_cons pe_int pa_nil)))
    (pss_cons (ps_for PassesOwn.never rfl (pi_list (pv 0)) (pg_name (i := 2) sc_products.nd rfl (by first | exact Or.inl rfl | exact Or.inr rfl))
    (pss_one (ps_expr (pe_bm PySem.F.plainAttrs_list PySem.F.slot_list_append PySem.F.type_list_append mt_append (pv 1) (pa_cons (pe_op op_mulW (pe_ix ix_list (pv 1) (pe_un un_neg pe_int) (fun _ _ => rfl)) (pv 2)) pa_nil)))))
    (pss_one (ps_ret (pv 1))))), fun S x hp hq => ?_⟩
  try dsimp only [cxOf]
  revert hp hq
  revert x
  intro ns hs hq
  walk_at "dn"
  walk_at "d"
  refine eva_lstM ?_
  walk_at "d"
  intro p
  walk_at "dn"
  refine q_for (fun ds i M ρ => M = [(p, .lst (di ((List.range (i + 1)).map (pd ns))))] ∧ ρ = [.dat (.list (di ns)), .adr p, .no]) ?_
  refine evi_list ?_
  walk_at "d"
  refine ⟨⟨rfl, rfl⟩, ?_, ?_⟩
  · rintro i d _ _ hd ⟨rfl, rfl⟩
    obtain ⟨x, hx, rfl⟩ := di_get hd
    have hi : i < ns.length := (List.getElem?_eq_some_iff.mp hx).1
    have hl := hs.len
    refine ⟨_, _, tgt_name, fun B hB => ?_⟩
    walk_at "dn"
    walk_at "d"
    refine opd_ixA (k := 0) rfl (at_lastI _ _) ?_
    walk_at "d"
    refine opd_mulW (cmul (a := 700) (b := 700) (Int.le_of_lt (hs.pos i)) (hs.lt (Nat.le_of_lt hi)) (by have := (hs.entry hx).1; omega) (hs.entry hx).2) ?_
    refine ⟨_, _, rfl, rfl, by rw [di_len, List.length_map, List.length_range]; omega, ?_⟩
    refine at_btw [.dat (.list (di ns)), .adr p, .no] (by walk_at "dw") ⟨?_, rfl⟩
    rw [← range_snoc, ← di_app, pd_succ hx]
    rfl
  · rintro _ _ ⟨rfl, rfl⟩
    rw [di_len]
    walk_at "d"
    exact ret_adr (k := 0) rfl (hq _ rfl)
end
end D
namespace D
open M
section
variable {Pg : Program} {w : World} {K : PySem.W.Frag} {mg : Str → Option Value} {base : Heap}
abbrev st_is_integer : Stmt := topS 7
theorem sc_is_integer : FnScope ["value"] ["value"] (defScope st_is_integer) := ⟨rfl, rfl, rfl, by decide +kernel, rfl, by decide +kernel, by decide +kernel⟩
theorem ok_is_integer {f : Addr} {fd : FuncData} (F : Fun K "is_integer" "is_integer" st_is_integer f fd) (B : Bt mg) : FnOk Pg w K mg base CX0 1 f fd ["value"] (sp_is_integer K) := by
  refine okP F sc_is_integer (fun _ => rfl) fun cdv A outer s H Q E hr => ?_
  refine ⟨_, (pss_one (ps_ret (pe_and (pe_callB call_isi (by rfl) B.isinstance PyProof.Rows.boot_isinstance (pa_cons (pv 0) (pa_cons (pe_bltn (v := .ty "int") (by rfl) B.int PyProof.Rows.boot_int rfl) pa_nil))) (pe_one (pe_not (pe_callB call_isi (by rfl) B.isinstance PyProof.Rows.boot_isinstance (pa_cons (pv 0) (pa_cons (pe_bltn (v := .ty "bool") (by rfl) B.bool PyProof.Rows.boot_bool rfl) pa_nil)))))))), fun S x hp hq => ?_⟩
  try dsimp only [cxOf]
  revert hp hq
  revert x
  intro i _ hq
  walk_at "dn"
  walk_at "d"
  exact ret_dat (hq _ rfl)
abbrev st_is_at_least : Stmt := topS 8
theorem sc_is_at_least : FnScope ["value", "low"] ["value", "low"] (defScope st_is_at_least) := ⟨rfl, rfl, rfl, by decide +kernel, rfl, by decide +kernel, by decide +kernel⟩
theorem ok_is_at_least {f : Addr} {fd : FuncData} (F : Fun K "is_at_least" "is_at_least" st_is_at_least f fd) (B : Bt mg)
    (C_is_integer : Cal Pg w K mg base 1 "is_integer" ["value"] (sp_is_integer K)) : FnOk Pg w K mg base CX0 2 f fd ["value", "low"] (sp_is_at_least K) := by
  refine okP F sc_is_at_least (fun _ => rfl) fun cdv A outer s H Q E hr => ?_
  refine ⟨_, (pss_one (ps_ret (pe_and (pe_cal C_is_integer hr (by rfl) (pa_cons (pv 0) pa_nil)) (pe_one (pe_cmpR op_ge (pv 0) (pv 1) (nomark _)))))), fun S x hp hq => ?_⟩
  try dsimp only [cxOf]
  revert hp hq
  revert x
  intro i _ hq
  walk_at "dn"
  walk_at "d"
  refine ⟨trivial, ?_⟩
  rintro _ rfl
  walk_at "d"
  exact ret_dat (hq _ rfl)
abbrev st_is_between : Stmt := topS 9
theorem sc_is_between : FnScope ["value", "low", "high"] ["value", "low", "high"] (defScope st_is_between) := ⟨rfl, rfl, rfl, by decide +kernel, rfl, by decide +kernel, by decide +kernel⟩
theorem ok_is_between {f : Addr} {fd : FuncData} (F : Fun K "is_between" "is_between" st_is_between f fd) (B : Bt mg)
    (C_is_integer : Cal Pg w K mg base 1 "is_integer" ["value"] (sp_is_integer K)) : FnOk Pg w K mg base CX0 2 f fd ["value", "low", "high"] (sp_is_between K) := by
  refine okP F sc_is_between (fun _ => rfl) fun cdv A outer s H Q E hr => ?_
  refine ⟨_, (pss_one (ps_ret (pe_and (pe_cal C_is_integer hr (by rfl) (pa_cons (pv 0) pa_nil)) (pe_one (pe_chain op_le op_le (pv 1) (pv 0) (pv 2)))))), fun S x hp hq => ?_⟩
  try dsimp only [cxOf]
  revert hp hq
  revert x
  intro i _ hq
  walk_at "dn"
  walk_at "d"
  refine ⟨trivial, ?_⟩
  rintro _ rfl
  walk_at "d"
  refine ⟨fun h1 => ?_, fun h1 => ?_⟩
  · walk_at "d"
    exact ret_dat (hq _ (by rw [h1]; rfl))
  · exact ret_dat (hq _ (by rw [h1]; rfl))
abbrev st_rounded_up : Stmt := topS 11
theorem sc_rounded_up : FnScope ["numerator", "denominator"] ["numerator", "denominator"] (defScope st_rounded_up) := ⟨rfl, rfl, rfl, by decide +kernel, rfl, by decide +kernel, by decide +kernel⟩
theorem ok_rounded_up {f : Addr} {fd : FuncData} (F : Fun K "rounded_up" "rounded_up" st_rounded_up f fd) (B : Bt mg) : FnOk Pg w K mg base CX0 1 f fd ["numerator", "denominator"] (sp_rounded_up K) := by
  refine okP F sc_rounded_up (fun _ => rfl) fun cdv A outer s H Q E hr => ?_
  refine ⟨_, (pss_one (ps_ret (pe_un un_neg (pe_op op_fdivW (pe_un un_neg (pv 0)) (pv 1))))), fun S x hp hq => ?_⟩
  try dsimp only [cxOf]
  revert hp hq
  revert x
  intro i hp hq
  walk_at "dn"
  walk_at "d"
  refine opd_divW (cdiv hp.1 hp.2) ?_
  walk_at "d"
  exact ret_dat (hq _ rfl)
abbrev st_require_schedule : Stmt := topS 15
theorem sc_require_schedule : FnScope ["schedule", "index", "entry"] ["schedule"] (defScope st_require_schedule) := ⟨rfl, rfl, rfl, by decide +kernel, rfl, by decide +kernel, by decide +kernel⟩
theorem ok_require_schedule {f : Addr} {fd : FuncData} (F : Fun K "require_schedule" "require_schedule" st_require_schedule f fd) (B : Bt mg) (mgMax : ∃ t, mg "MAX_ROUNDS" = some (.int 200 t))
    (C_is_at_least : Cal Pg w K mg base 2 "is_at_least" ["value", "low"] (sp_is_at_least K)) : FnOk Pg w K mg base CX0 3 f fd ["schedule"] (sp_require_schedule K) := by
  obtain ⟨tk, mgMax⟩ := mgMax
  refine okP F sc_require_schedule (fun _ => rfl) fun cdv A outer s H Q E hr => ?_
  refine ⟨_, (pss_cons (ps_if (PW.pt (pw_or (pt_not (pt_val (pe_callB call_isiT (by rfl) B.isinstance PyProof.Rows.boot_isinstance (pa_cons (pv 0) (pa_cons (pe_tup (pa_cons (pe_bltn (v := .ty "list") (by rfl) B.list PyProof.Rows.boot_list rfl) (pa_cons (pe_bltn (v := .ty "tuple") (by rfl) B.tuple PyProof.Rows.boot_tuple rfl) pa_nil))) pa_nil))))) (pw_or1 (pt_cmpR op_gt (pe_callB dc_len (by rfl) B.len PySem.boot_len (pa_cons (pv 0) pa_nil)) (pe_glob (v := .int 200) rfl mgMax ⟨_, rfl⟩) (nomark _))))) (pss_one ps_never) pss_nil)
    (pss_one (ps_for PassesOwn.never rfl (pi_enum (by rfl) B.enumerate (pa_cons (pv 0) pa_nil)) (pg_tup (by rfl) (pgs_cons (pg_name (i := 1) sc_require_schedule.nd rfl (by first | exact Or.inl rfl | exact Or.inr rfl)) (pgs_cons (pg_name (i := 2) sc_require_schedule.nd rfl (by first | exact Or.inl rfl | exact Or.inr rfl)) pgs_nil)))
    (pss_one (ps_if (pt_not (pt_val (pe_cal C_is_at_least hr (by rfl) (pa_cons (pv 2) (pa_cons pe_int pa_nil))))) (pss_one ps_never) pss_nil))))), fun S x hp hq => ?_⟩
  try dsimp only [cxOf]
  revert hp hq
  revert x
  intro ns hs hq
  walk_at "dn"
  walk_at "d"
  have hl := hs.len
  rw [di_len, show decide ((200 : Int) < (ns.length : Int)) = false from decide_eq_false (by omega)]
  walk_at "d"
  refine for_core (fun ds i M ρ => M = [] ∧ ρ = [.dat (.list (di ns)), .no, .no]) ?_
  refine evi_enum ?_
  walk_at "d"
  refine ⟨⟨rfl, rfl⟩, ?_, ?_⟩
  · rintro i d _ _ hd ⟨rfl, rfl⟩
    obtain ⟨e, he, rfl⟩ := enumD_get hd
    obtain ⟨x, hx, rfl⟩ := di_get he
    walk_at "t2"
    walk_at "dn"
    walk_at "d"
    refine ⟨(x, 2), rfl, trivial, ?_⟩
    rintro _ rfl
    walk_at "d"
    rw [show decide ((2 : Int) ≤ x) = true from decide_eq_true (hs.entry hx).1]
    walk_at "d"
    exact at_btw [.dat (.list (di ns)), .no, .no] (by walk_at "dw") ⟨rfl, rfl⟩
  · rintro _ _ ⟨rfl, rfl⟩
    exact at_end fun H' l => hq _ rfl _ _ l .non
abbrev st_is_group : Stmt := topS 16
theorem sc_is_group : FnScope ["value", "length", "entry"] ["value", "length"] (defScope st_is_group) := ⟨rfl, rfl, rfl, by decide +kernel, rfl, by decide +kernel, by decide +kernel⟩
theorem ok_is_group {f : Addr} {fd : FuncData} (F : Fun K "is_group" "is_group" st_is_group f fd) (B : Bt mg)
    (C_is_at_least : Cal Pg w K mg base 2 "is_at_least" ["value", "low"] (sp_is_at_least K)) : FnOk Pg w K mg base CX0 3 f fd ["value", "length"] (sp_is_group K) := by
  refine okP F sc_is_group (fun _ => rfl) fun cdv A outer s H Q E hr => ?_
  refine ⟨_, (pss_one (ps_ret (pe_and (pe_callB call_isi (by rfl) B.isinstance PyProof.Rows.boot_isinstance (pa_cons (pv 0) (pa_cons (pe_bltn (v := .ty "tuple") (by rfl) B.tuple PyProof.Rows.boot_tuple rfl) pa_nil))) (pe_and (pe_cmpR op_eq (pe_callB dc_len (by rfl) B.len PySem.boot_len (pa_cons (pv 0) pa_nil)) (pv 1) (nomark _)) (pe_one (pe_callB (cr_all rfl) (by rfl) B.all PyProof.Rows.boot_all (pa_cons (pe_lc (own := [("entry", 2)]) (by rfl) sc_is_group.nd (pi_tup (pv 0)) (blkOk_by (own := [("entry", 2)]) (N := ["value", "length", "entry"]) (sc := defScope st_is_group) (by decide +kernel)) (fun _ _ _ _ _ => (pg_name (i := 2) sc_is_group.nd rfl (by first | exact Or.inl rfl | exact Or.inr rfl))) (fun _ _ _ _ _ => pts_nil) (fun _ _ _ _ _ => (pe_cal C_is_at_least hr (by rfl) (pa_cons (pv 2) (pa_cons pe_int pa_nil))))) pa_nil))))))), fun S x hp hq => ?_⟩
  try dsimp only [cxOf]
  obtain ⟨cs, n⟩ := x
  dsimp only at hp
  obtain ⟨h0, rfl, h2⟩ := hp
  walk_at "dn"
  walk_at "d"
  rw [di_len, decide_eq_true rfl]
  walk_at "d"
  refine eva_lc (fun _ => some (.bool true)) ?_
  refine evi_tup ?_
  walk_at "d"
  refine ⟨by rw [di_len]; omega, fun d hd => ?_, ?_⟩
  · obtain ⟨c, hc, rfl⟩ := List.mem_map.mp hd
    walk_at "c1"
    dsimp only [wipeS]
    walk_at "dn"
    walk_at "d"
    refine ⟨rfl, ?_⟩
    rw [if_pos rfl]
    refine ⟨_, rfl, ?_⟩
    walk_at "d"
    refine ⟨(c, 0), rfl, trivial, ?_⟩
    rintro _ rfl
    rw [show decide ((0 : Int) ≤ c) = true from decide_eq_true (h0 c hc)]
    exact ⟨rfl, rfl⟩
  · walk_at "d"
    rw [show (di cs).filterMap (fun _ => some (PyData.bool true)) = (List.replicate cs.length true).map PyData.bool by
      rw [List.filterMap_eq_map', List.map_replicate]
      exact List.map_const' ▸ by simp [di]]
    refine cbd_all ?_
    rw [show (List.replicate cs.length true).all id = true by simp]
    exact ret_dat (hq _ rfl)
end
end D
namespace D
open M
section
variable {Pg : Program} {w : World} {K : PySem.W.Frag} {mg : Str → Option Value} {base : Heap}
abbrev st_require_counts : Stmt := topS 17
theorem sc_require_counts : FnScope ["counts"] ["counts"] (defScope st_require_counts) := ⟨rfl, rfl, rfl, by decide +kernel, rfl, by decide +kernel, by decide +kernel⟩
theorem ok_require_counts {f : Addr} {fd : FuncData} (F : Fun K "require_counts" "require_counts" st_require_counts f fd) (B : Bt mg) (mgMax : ∃ t, mg "MAX_ROUNDS" = some (.int 200 t))
    (C_is_group : Cal Pg w K mg base 3 "is_group" ["value", "length"] (sp_is_group K)) : FnOk Pg w K mg base CX0 4 f fd ["counts"] (sp_require_counts K) := by
  obtain ⟨tk, mgMax⟩ := mgMax
  refine okP F sc_require_counts (fun _ => rfl) fun cdv A outer s H Q E hr => ?_
  refine ⟨_, (pss_one (ps_if (PW.pt (pw_or (pt_not (pt_val (pe_callB call_isi (by rfl) B.isinstance PyProof.Rows.boot_isinstance (pa_cons (pv 0) (pa_cons (pe_bltn (v := .ty "tuple") (by rfl) B.tuple PyProof.Rows.boot_tuple rfl) pa_nil))))) (pw_or (pt_cmpR op_gt (pe_callB dc_len (by rfl) B.len PySem.boot_len (pa_cons (pv 0) pa_nil)) (pe_glob (v := .int 200) rfl mgMax ⟨_, rfl⟩) (nomark _)) (pw_or1 (pt_not (pt_val (pe_cal C_is_group hr (by rfl) (pa_cons (pv 0) (pa_cons (pe_callB dc_len (by rfl) B.len PySem.boot_len (pa_cons (pv 0) pa_nil)) pa_nil))))))))) (pss_one ps_never) pss_nil)), fun S x hp hq => ?_⟩
  try dsimp only [cxOf]
  revert hp hq
  revert x
  intro cs hs hq
  walk_at "dn"
  walk_at "d"
  have hl := hs.len
  rw [di_len, show decide ((200 : Int) < (cs.length : Int)) = false from decide_eq_false (by omega)]
  walk_at "d"
  refine ⟨(cs, (cs.length : Int)), by rw [di_len]; rfl, ⟨fun c hc => (hs.nn c hc).1, rfl, hl⟩, ?_⟩
  rintro _ rfl
  walk_at "d"
  exact at_end fun H' l => hq _ rfl _ _ l .non
abbrev st_is_row : Stmt := topS 22
theorem sc_is_row : FnScope ["sizes", "value", "entry", "distance", "first", "count"] ["sizes", "value"] (defScope st_is_row) := ⟨rfl, rfl, rfl, by decide +kernel, rfl, by decide +kernel, by decide +kernel⟩
theorem ok_is_row {f : Addr} {fd : FuncData} (F : Fun K "is_row" "is_row" st_is_row f fd) (B : Bt mg)
    (C_is_integer : Cal Pg w K mg base 1 "is_integer" ["value"] (sp_is_integer K)) : FnOk Pg w K mg base CX0 2 f fd ["sizes", "value"] (sp_is_row K) := by
  refine okP F sc_is_row (fun _ => rfl) fun cdv A outer s H Q E hr => ?_
  refine ⟨_, (pss_cons (ps_if (PW.pt (pw_or (pt_not (pt_val (pe_callB call_isi (by rfl) B.isinstance PyProof.Rows.boot_isinstance (pa_cons (pv 1) (pa_cons (pe_bltn (v := .ty "tuple") (by rfl) B.tuple PyProof.Rows.boot_tuple rfl) pa_nil))))) (pw_or (pt_cmpR op_ne (pe_callB dc_len (by rfl) B.len PySem.boot_len (pa_cons (pv 1) pa_nil)) pe_int (nomark _)) (pw_or1 (pt_not (pt_val (pe_callB (cr_all rfl) (by rfl) B.all PyProof.Rows.boot_all (pa_cons (pe_lc (own := [("entry", 2)]) (by rfl) sc_is_row.nd (pi_tup (pv 1)) (blkOk_by (own := [("entry", 2)]) (N := ["sizes", "value", "entry", "distance", "first", "count"]) (sc := defScope st_is_row) (by decide +kernel)) (fun _ _ _ _ _ => (pg_name (i := 2) sc_is_row.nd rfl (by first | exact Or.inl rfl | exact Or.inr rfl))) (fun _ _ _ _ _ => pts_nil) (fun _ _ _ _ _ => (pe_cal C_is_integer hr (by rfl) (pa_cons (pv 2) pa_nil)))) pa_nil)))))))) (pss_one (ps_ret pe_bl)) pss_nil)
    (pss_cons (ps_asg (pv 1) (pg_tup (by rfl) (pgs_cons (pg_name (i := 3) sc_is_row.nd rfl (by first | exact Or.inl rfl | exact Or.inr rfl)) (pgs_cons (pg_name (i := 4) sc_is_row.nd rfl (by first | exact Or.inl rfl | exact Or.inr rfl)) (pgs_cons (pg_name (i := 5) sc_is_row.nd rfl (by first | exact Or.inl rfl | exact Or.inr rfl)) pgs_nil)))))
    (pss_one (ps_ret (pe_and (pe_chain op_le op_lt pe_int (pv 3) (pe_callB dc_len (by rfl) B.len PySem.boot_len (pa_cons (pv 0) pa_nil))) (pe_and (pe_chain op_le op_lt pe_int (pv 4) (pe_ix ix_list (pv 0) (pv 3) (fun _ _ => rfl))) (pe_one (pe_cmpR op_ge (pv 5) pe_int (nomark _))))))))), fun S x hp hq => ?_⟩
  try dsimp only [cxOf]
  obtain ⟨ns, r⟩ := x
  obtain ⟨hs, ho⟩ := hp
  dsimp only at hs ho
  walk_at "dn"
  walk_at "d"
  refine eva_lc (fun _ => some (.bool true)) ?_
  refine evi_tup ?_
  walk_at "d"
  refine ⟨fun d hd => ?_, ?_⟩
  · have hd : ∃ z, d = .int z := by
      rcases List.mem_cons.mp hd with z | hd
      · exact ⟨_, z⟩
      rcases List.mem_cons.mp hd with z | hd
      · exact ⟨_, z⟩
      rcases List.mem_cons.mp hd with z | hd
      · exact ⟨_, z⟩
      cases hd
    obtain ⟨z, rfl⟩ := hd
    walk_at "c1"
    dsimp only [wipeS]
    walk_at "dn"
    walk_at "d"
    refine ⟨rfl, ?_⟩
    rw [if_pos rfl]
    refine ⟨_, rfl, ?_⟩
    walk_at "d"
    refine ⟨trivial, ?_⟩
    rintro _ rfl
    exact ⟨rfl, rfl⟩
  · walk_at "d"
    refine cbd_all (bs := [true, true, true]) ?_
    rw [show [true, true, true].all id = true from rfl]
    walk_at "d"
    refine q_asg ?_
    walk_at "d"
    refine ⟨_, _, tgt_tup rfl (tgts_cons tgt_name (tgts_cons tgt_name (tgts_cons tgt_name tgts_nil))), ?_⟩
    walk_at "dn"
    have h1 := ho.d1
    have h2 := ho.dn
    have h3 := ho.f0
    have h4 := ho.f1
    have h5 := ho.c1
    walk_at "d"
    rw [show decide ((1 : Int) ≤ (r.d : Int)) = true from decide_eq_true (by omega)]
    walk_at "d"
    rw [di_len, sizes_len, show decide ((r.d : Int) < ((ns.length + 1 : Nat) : Int)) = true from decide_eq_true (by omega)]
    walk_at "d"
    rw [decide_eq_true h3]
    walk_at "d"
    refine opd_ixL (at_di (sizes_get h2) rfl) ?_
    walk_at "d"
    rw [decide_eq_true h4]
    walk_at "d"
    rw [decide_eq_true h5]
    exact ret_dat (hq _ rfl)
abbrev st_require_plan : Stmt := topS 23
theorem sc_require_plan : FnScope ["schedule", "plan", "sizes", "index", "row"] ["schedule", "plan"] (defScope st_require_plan) := ⟨rfl, rfl, rfl, by decide +kernel, rfl, by decide +kernel, by decide +kernel⟩
theorem ok_require_plan {f : Addr} {fd : FuncData} (F : Fun K "require_plan" "require_plan" st_require_plan f fd) (B : Bt mg)
    (C_is_row : Cal Pg w K mg base 2 "is_row" ["sizes", "value"] (sp_is_row K))
    (C_products : Cal Pg w K mg base 1 "products" ["schedule"] (sp_products K)) : FnOk Pg w K mg base CX0 3 f fd ["schedule", "plan"] (sp_require_plan K) := by
  refine okP F sc_require_plan (fun _ => rfl) fun cdv A outer s H Q E hr => ?_
  refine ⟨_, (pss_cons (ps_if (pt_not (pt_val (pe_callB call_isiT (by rfl) B.isinstance PyProof.Rows.boot_isinstance (pa_cons (pv 1) (pa_cons (pe_tup (pa_cons (pe_bltn (v := .ty "list") (by rfl) B.list PyProof.Rows.boot_list rfl) (pa_cons (pe_bltn (v := .ty "tuple") (by rfl) B.tuple PyProof.Rows.boot_tuple rfl) pa_nil))) pa_nil))))) (pss_one ps_never) pss_nil)
    (pss_cons (ps_set (i := 2) sc_require_plan.nd rfl (Or.inl rfl) (pe_cal C_products (hr.mono (by decide)) (by rfl) (pa_cons (pv 0) pa_nil)))
    (pss_one (ps_for PassesOwn.never rfl (pi_enum (by rfl) B.enumerate (pa_cons (pv 1) pa_nil)) (pg_tup (by rfl) (pgs_cons (pg_name (i := 3) sc_require_plan.nd rfl (by first | exact Or.inl rfl | exact Or.inr rfl)) (pgs_cons (pg_name (i := 4) sc_require_plan.nd rfl (by first | exact Or.inl rfl | exact Or.inr rfl)) pgs_nil)))
    (pss_one (ps_if (pt_not (pt_val (pe_cal C_is_row hr (by rfl) (pa_cons (pv 2) (pa_cons (pv 4) pa_nil))))) (pss_one ps_never) pss_nil)))))), fun S x hp hq => ?_⟩
  try dsimp only [cxOf]
  obtain ⟨ns, rs⟩ := x
  obtain ⟨hs, ho⟩ := hp
  dsimp only at hs ho
  walk_at "dn"
  walk_at "d"
  refine ⟨hs, ?_⟩
  rintro _ rfl
  walk_at "dn"
  refine for_core (fun ds i M ρ => M = [] ∧ ρ = [.dat (.list (di ns)), .dat (.list (rs.map rowD)), .dat (.list (di (sizes ns))), .no, .no]) ?_
  refine evi_enum ?_
  walk_at "d"
  refine ⟨⟨rfl, rfl⟩, ?_, ?_⟩
  · rintro i d _ _ hd ⟨rfl, rfl⟩
    obtain ⟨e, he, rfl⟩ := enumD_get hd
    obtain ⟨r, hx, rfl⟩ := rows_get he
    walk_at "t2"
    walk_at "dn"
    walk_at "d"
    refine ⟨(ns, r), rfl, ⟨hs, ho.2 r (List.mem_of_getElem? hx)⟩, ?_⟩
    rintro _ rfl
    walk_at "d"
    exact at_btw [.dat (.list (di ns)), .dat (.list (rs.map rowD)), .dat (.list (di (sizes ns))), .no, .no] (by walk_at "dw") ⟨rfl, rfl⟩
  · rintro _ _ ⟨rfl, rfl⟩
    exact at_end fun H' l => hq _ rfl _ _ l .non
abbrev st_require_choices : Stmt := topS 24
theorem sc_require_choices : FnScope ["schedule", "choices", "limit", "index", "chosen"] ["schedule", "choices", "limit"] (defScope st_require_choices) := ⟨rfl, rfl, rfl, by decide +kernel, rfl, by decide +kernel, by decide +kernel⟩
theorem ok_require_choices {f : Addr} {fd : FuncData} (F : Fun K "require_choices" "require_choices" st_require_choices f fd) (B : Bt mg)
    (C_is_between : Cal Pg w K mg base 2 "is_between" ["value", "low", "high"] (sp_is_between K)) : FnOk Pg w K mg base CX0 3 f fd ["schedule", "choices", "limit"] (sp_require_choices K) := by
  refine okP F sc_require_choices (fun _ => rfl) fun cdv A outer s H Q E hr => ?_
  refine ⟨_, (pss_cons (ps_if (PW.pt (pw_or (pt_not (pt_val (pe_callB call_isiT (by rfl) B.isinstance PyProof.Rows.boot_isinstance (pa_cons (pv 1) (pa_cons (pe_tup (pa_cons (pe_bltn (v := .ty "list") (by rfl) B.list PyProof.Rows.boot_list rfl) (pa_cons (pe_bltn (v := .ty "tuple") (by rfl) B.tuple PyProof.Rows.boot_tuple rfl) pa_nil))) pa_nil))))) (pw_or1 (pt_cmpR op_gt (pe_callB dc_len (by rfl) B.len PySem.boot_len (pa_cons (pv 1) pa_nil)) (pv 2) (nomark _))))) (pss_one ps_never) pss_nil)
    (pss_one (ps_for PassesOwn.never rfl (pi_enumT (by rfl) B.enumerate (pa_cons (pv 1) pa_nil)) (pg_tup (by rfl) (pgs_cons (pg_name (i := 3) sc_require_choices.nd rfl (by first | exact Or.inl rfl | exact Or.inr rfl)) (pgs_cons (pg_name (i := 4) sc_require_choices.nd rfl (by first | exact Or.inl rfl | exact Or.inr rfl)) pgs_nil)))
    (pss_one (ps_if (pt_not (pt_val (pe_cal C_is_between hr (by rfl) (pa_cons (pv 4) (pa_cons pe_int (pa_cons (pe_op op_sub (pe_ix ix_list (pv 0) (pv 3) (fun _ _ => rfl)) pe_int) pa_nil)))))) (pss_one ps_never) pss_nil))))), fun S x hp hq => ?_⟩
  try dsimp only [cxOf]
  obtain ⟨ns, cs, lim⟩ := x
  obtain ⟨hs, hc, hl⟩ := hp
  dsimp only at hs hc hl
  walk_at "dn"
  walk_at "d"
  refine ⟨.inr rfl, ?_⟩
  walk_at "d"
  rw [di_len, show decide (lim < (cs.length : Int)) = false from decide_eq_false (by omega)]
  walk_at "d"
  refine for_core (fun ds i M ρ => M = [] ∧ ρ = [.dat (.list (di ns)), .dat (.tuple (di cs)), .dat (.int lim), .no, .no]) ?_
  refine evi_enumT ?_
  walk_at "d"
  refine ⟨⟨rfl, rfl⟩, ?_, ?_⟩
  · rintro i d _ _ hd ⟨rfl, rfl⟩
    obtain ⟨e, he, rfl⟩ := enumD_get hd
    obtain ⟨c, hx, rfl⟩ := di_get he
    have hi : i < ns.length := by
      have := (List.getElem?_eq_some_iff.mp hx).1
      have := hc.1
      omega
    have hb := hc.2 i c _ hx (getD_some hi 0)
    walk_at "t2"
    walk_at "dn"
    walk_at "d"
    refine opd_ixL (at_di (getD_some hi 0) (by simp)) ?_
    walk_at "d"
    refine ⟨(c, 0, ns.getD i 0 - 1), rfl, trivial, ?_⟩
    rintro _ rfl
    rw [show (decide ((0 : Int) ≤ c) && decide (c ≤ ns.getD i 0 - 1)) = true by rw [decide_eq_true hb.1, decide_eq_true (show c ≤ ns.getD i 0 - 1 by omega)]; rfl]
    walk_at "d"
    exact at_btw [.dat (.list (di ns)), .dat (.tuple (di cs)), .dat (.int lim), .no, .no] (by walk_at "dw") ⟨rfl, rfl⟩
  · rintro _ _ ⟨rfl, rfl⟩
    exact at_end fun H' l => hq _ rfl _ _ l .non
abbrev st_digits : Stmt := topS 26
theorem sc_digits : FnScope ["schedule", "length", "number", "found", "entry"] ["schedule", "length", "number"] (defScope st_digits) := ⟨rfl, rfl, rfl, by decide +kernel, rfl, by decide +kernel, by decide +kernel⟩
theorem ok_digits {f : Addr} {fd : FuncData} (F : Fun K "digits" "digits" st_digits f fd) (B : Bt mg) : FnOk Pg w K mg base CX0 1 f fd ["schedule", "length", "number"] (sp_digits K) := by
  refine okP F sc_digits (fun _ => rfl) fun cdv A outer s H Q E hr => ?_
  refine ⟨_, (pss_cons (ps_set (i := 3) sc_digits.nd rfl (Or.inl rfl) (pe_lst pa_nil))
    (pss_cons (ps_for PassesOwn.never rfl (pi_reversed (by rfl) B.reversed (pa_cons (pe_slice sl_list (pv 0) po_none (po_some (pv 1))) pa_nil)) (pg_name (i := 4) sc_digits.nd rfl (by first | exact Or.inl rfl | exact Or.inr rfl))
    (pss_cons (ps_expr (pe_bm PySem.F.plainAttrs_list PySem.F.slot_list_append PySem.F.type_list_append mt_append (pv 3) (pa_cons (pe_op op_mod (pv 2) (pv 4)) pa_nil)))
    (pss_one (ps_set (i := 2) sc_digits.nd rfl (Or.inl rfl) (pe_op op_fdivW (pv 2) (pv 4))))))
    (pss_one (ps_ret (pe_callTy dc_tuple (by rfl) B.tuple PyProof.Rows.boot_tuple (pa_cons (pe_revL (pv 3)) pa_nil)))))), fun S x hp hq => ?_⟩
  try dsimp only [cxOf]
  obtain ⟨ns, num⟩ := x
  dsimp only at hp
  walk_at "dn"
  walk_at "d"
  refine eva_lstM ?_
  walk_at "d"
  intro p
  walk_at "dn"
  refine q_for (fun ds i M ρ => ∃ z fs, M = [(p, .lst (di fs))] ∧ ρ = [.dat (.list (di ns)), .dat (.int (ns.length : Nat)), .dat (.int z), .adr p, .no] ∧ word ns ns.length num = word ns (ns.length - i) z ++ fs.reverse ∧ fs.length = i) ?_
  refine evi_rev ?_
  walk_at "d"
  rw [cutD_all (di ns) (by rw [di_len])]
  refine ⟨⟨num, [], rfl, rfl, by simp, rfl⟩, ?_, ?_⟩
  · rintro i d _ _ hd ⟨z, fs, rfl, rfl, hw, hl⟩
    have hlen := hp.len
    have hi : i < ns.length := by
      have := (List.getElem?_eq_some_iff.mp hd).1
      rwa [List.length_reverse, di_len] at this
    rw [List.getElem?_reverse (by rw [di_len]; exact hi), di_len] at hd
    obtain ⟨x, hx, rfl⟩ := di_get hd
    have he := hp.entry hx
    have h0 : (0 : Int) < x := by omega
    walk_at "t1"
    walk_at "dn"
    walk_at "d"
    refine ⟨_, _, rfl, rfl, by rw [di_len, hl]; omega, ?_⟩
    walk_at "d"
    refine opd_divW (cdiv h0 he.2) ?_
    walk_at "d"
    refine at_btw [.dat (.list (di ns)), .dat (.int (ns.length : Nat)), .dat (.int (z / x)), .adr p, .no] (by walk_at "dw") ⟨z / x, fs ++ [z % x], ?_, rfl, ?_, by rw [List.length_append, hl]; rfl⟩
    · rw [← di_app]
      rfl
    · rw [hw, show ns.length - i = (ns.length - 1 - i) + 1 by omega]
      show word ns (ns.length - 1 - i) (z / ns.getD (ns.length - 1 - i) 1) ++ [z % ns.getD (ns.length - 1 - i) 1] ++ fs.reverse = _
      rw [getD_of hx, show ns.length - (i + 1) = ns.length - 1 - i by omega, List.reverse_append]
      simp
  · rintro _ _ ⟨z, fs, rfl, rfl, hw, hl⟩
    refine at_freeze 0 3 rfl rfl ?_
    walk_at "dn"
    walk_at "d"
    refine ret_dat (hq _ ?_)
    dsimp only
    rw [hw]
    rw [List.length_reverse, di_len, Nat.sub_self]
    show PyData.tuple (List.map PyData.int fs).reverse = PyData.tuple (List.map PyData.int ([] ++ fs.reverse))
    rw [List.nil_append, List.map_reverse]
end
end D
namespace D
open M
section
variable {Pg : Program} {w : World} {K : PySem.W.Frag} {mg : Str → Option Value} {base : Heap}
abbrev st_greatest_common_divisor : Stmt := topS 10
theorem sc_greatest_common_divisor : FnScope ["first", "second"] ["first", "second"] (defScope st_greatest_common_divisor) := ⟨rfl, rfl, rfl, by decide +kernel, rfl, by decide +kernel, by decide +kernel⟩
theorem ok_greatest_common_divisor {f : Addr} {fd : FuncData} (F : Fun K "greatest_common_divisor" "greatest_common_divisor" st_greatest_common_divisor f fd) (B : Bt mg) : FnOk Pg w K mg base CX0 1 f fd ["first", "second"] (sp_greatest_common_divisor K) := by
  refine okP F sc_greatest_common_divisor (fun _ => rfl) fun cdv A outer s H Q E hr => ?_
  refine ⟨_, (pss_cons (ps_while PassesOwn.never (pt_cmpR op_ne (pv 1) pe_int (nomark _)) (pss_one (ps_par (by rfl) sc_greatest_common_divisor.nd (i := 0) (j := 1) rfl rfl (by decide) rfl rfl (pa_cons (pv 1) (pa_cons (pe_op op_mod (pv 0) (pv 1)) pa_nil)) (by rfl))))
    (pss_one (ps_ret (pe_callB dc_abs (by rfl) B.abs PyProof.Rows.boot_abs (pa_cons (pv 0) pa_nil))))), fun S x hp hq => ?_⟩
  try dsimp only [cxOf]
  obtain ⟨a, b⟩ := x
  obtain ⟨ha, hb⟩ := hp
  dsimp only at ha hb
  walk_at "dn"
  refine q_while (fun m M ρ => ∃ x y : Int, m = y.toNat ∧ M = [] ∧ ρ = [.dat (.int x), .dat (.int y)] ∧ 0 ≤ x ∧ 0 ≤ y ∧ _root_.M.gcd x y = _root_.M.gcd a b) b.toNat ⟨a, b, rfl, rfl, rfl, ha, hb, rfl⟩ ?_
  rintro m _ _ ⟨x, y, rfl, rfl, rfl, hx, hy, hg⟩
  walk_at "d"
  refine ⟨fun h => ?_, fun h => ?_⟩
  · have hy1 : 0 < y := by
      have : ¬ y = 0 := by simpa using h
      omega
    walk_at "d"
    walk_at "dn"
    have hm := Int.emod_lt_of_pos x hy1
    have hm2 := Int.emod_nonneg x (show y ≠ 0 by omega)
    refine at_btw [.dat (.int y), .dat (.int (x % y))] (by walk_at "dw") ⟨(x % y).toNat, by omega, y, x % y, rfl, rfl, rfl, hy, hm2, ?_⟩
    rw [← hg]
    exact gcd_turn hx hy1
  · have hy0 : y = 0 := by simpa using h
    subst hy0
    walk_at "d"
    rw [if_neg (by omega)]
    refine ret_dat (hq _ ?_)
    rw [← hg, gcd_zero hx]
abbrev st_lowest_terms : Stmt := topS 12
theorem sc_lowest_terms : FnScope ["numerator", "denominator", "shared"] ["numerator", "denominator"] (defScope st_lowest_terms) := ⟨rfl, rfl, rfl, by decide +kernel, rfl, by decide +kernel, by decide +kernel⟩
theorem ok_lowest_terms {f : Addr} {fd : FuncData} (F : Fun K "lowest_terms" "lowest_terms" st_lowest_terms f fd) (B : Bt mg)
    (C_greatest_common_divisor : Cal Pg w K mg base 1 "greatest_common_divisor" ["first", "second"] (sp_greatest_common_divisor K)) : FnOk Pg w K mg base CX0 2 f fd ["numerator", "denominator"] (sp_lowest_terms K) := by
  refine okP F sc_lowest_terms (fun _ => rfl) fun cdv A outer s H Q E hr => ?_
  refine ⟨_, (pss_cons (ps_set (i := 2) sc_lowest_terms.nd rfl (Or.inl rfl) (pe_cal C_greatest_common_divisor hr (by rfl) (pa_cons (pv 0) (pa_cons (pv 1) pa_nil))))
    (pss_one (ps_ret (pe_tup (pa_cons (pe_op op_fdivW (pv 0) (pv 2)) (pa_cons (pe_op op_fdivW (pv 1) (pv 2)) pa_nil)))))), fun S x hp hq => ?_⟩
  try dsimp only [cxOf]
  obtain ⟨a, b⟩ := x
  obtain ⟨ha, hb, hl⟩ := hp
  dsimp only at ha hb hl
  walk_at "dn"
  walk_at "d"
  refine ⟨(a, b), rfl, ⟨ha, by show 0 ≤ b; omega⟩, ?_⟩
  rintro _ rfl
  have g := gcd_pos (a := a) hb
  walk_at "dn"
  walk_at "d"
  refine opd_divW (cdiv g.1 (b := 700) (by show M.gcd a b < _; omega)) ?_
  walk_at "d"
  refine opd_divW (cdiv g.1 (b := 700) (by show M.gcd a b < _; omega)) ?_
  walk_at "d"
  exact ret_dat (hq _ rfl)
abbrev st_weight : Stmt := topS 20
theorem sc_weight : FnScope ["schedule", "counts"] ["schedule", "counts"] (defScope st_weight) := ⟨rfl, rfl, rfl, by decide +kernel, rfl, by decide +kernel, by decide +kernel⟩
theorem ok_weight {f : Addr} {fd : FuncData} (F : Fun K "weight" "weight" st_weight f fd) (B : Bt mg)
    (C_lowest_terms : Cal Pg w K mg base 2 "lowest_terms" ["numerator", "denominator"] (sp_lowest_terms K))
    (C_products : Cal Pg w K mg base 1 "products" ["schedule"] (sp_products K))
    (C_require_counts : Cal Pg w K mg base 4 "require_counts" ["counts"] (sp_require_counts K))
    (C_require_schedule : Cal Pg w K mg base 3 "require_schedule" ["schedule"] (sp_require_schedule K))
    (C_scaled_weight : Cal Pg w K mg base 2 "scaled_weight" ["schedule", "counts"] (sp_scaled_weight K)) : FnOk Pg w K mg base CX0 5 f fd ["schedule", "counts"] (sp_weight K) := by
  refine okP F sc_weight (fun _ => rfl) fun cdv A outer s H Q E hr => ?_
  refine ⟨_, (pss_cons (ps_expr (pe_cal C_require_schedule (hr.mono (by decide)) (by rfl) (pa_cons (pv 0) pa_nil)))
    (pss_cons (ps_expr (pe_cal C_require_counts hr (by rfl) (pa_cons (pv 1) pa_nil)))
    (pss_one (ps_ret (pe_cal C_lowest_terms (hr.mono (by decide)) (by rfl) (pa_cons (pe_cal C_scaled_weight (hr.mono (by decide)) (by rfl) (pa_cons (pv 0) (pa_cons (pv 1) pa_nil))) (pa_cons (pe_ix ix_list (pe_cal C_products (hr.mono (by decide)) (by rfl) (pa_cons (pv 0) pa_nil)) (pe_un un_neg pe_int) (fun _ _ => rfl)) pa_nil))))))), fun S x hp hq => ?_⟩
  try dsimp only [cxOf]
  obtain ⟨ns, cs⟩ := x
  obtain ⟨hs, hc, hl⟩ := hp
  dsimp only at hs hc hl
  walk_at "dn"
  walk_at "d"
  refine ⟨hs, ?_⟩
  rintro _ rfl
  walk_at "d"
  refine ⟨hc, ?_⟩
  rintro _ rfl
  walk_at "d"
  refine ⟨(ns, cs), rfl, ⟨hs, hc, hl⟩, ?_⟩
  rintro _ rfl
  walk_at "d"
  refine ⟨hs, ?_⟩
  rintro _ rfl
  walk_at "d"
  refine opd_ixL (d := .int (pd ns ns.length)) (at_lastI (pd ns) ns.length) ?_
  walk_at "d"
  have hW := hs.pos ns.length
  refine ⟨(scaled ns cs, pd ns ns.length), rfl, ⟨scaled_nonneg hs.two fun c z => (hc.nn c z).1, by show 0 < pd ns ns.length; omega, hs.big⟩, ?_⟩
  rintro _ rfl
  exact ret_dat (hq _ rfl)
abbrev st_number_of : Stmt := topS 27
theorem sc_number_of : FnScope ["schedule", "choices"] ["schedule", "choices"] (defScope st_number_of) := ⟨rfl, rfl, rfl, by decide +kernel, rfl, by decide +kernel, by decide +kernel⟩
theorem ok_number_of {f : Addr} {fd : FuncData} (F : Fun K "number_of" "number_of" st_number_of f fd) (B : Bt mg)
    (C_require_choices : Cal Pg w K mg base 3 "require_choices" ["schedule", "choices", "limit"] (sp_require_choices K))
    (C_require_schedule : Cal Pg w K mg base 3 "require_schedule" ["schedule"] (sp_require_schedule K))
    (C_word_numbers : Cal Pg w K mg base 1 "word_numbers" ["schedule", "choices"] (sp_word_numbers K)) : FnOk Pg w K mg base CX0 4 f fd ["schedule", "choices"] (sp_number_of K) := by
  refine okP F sc_number_of (fun _ => rfl) fun cdv A outer s H Q E hr => ?_
  refine ⟨_, (pss_cons (ps_expr (pe_cal C_require_schedule hr (by rfl) (pa_cons (pv 0) pa_nil)))
    (pss_cons (ps_expr (pe_cal C_require_choices hr (by rfl) (pa_cons (pv 0) (pa_cons (pv 1) (pa_cons (pe_callB dc_len (by rfl) B.len PySem.boot_len (pa_cons (pv 0) pa_nil)) pa_nil)))))
    (pss_one (ps_ret (pe_ix ix_list (pe_cal C_word_numbers (hr.mono (by decide)) (by rfl) (pa_cons (pv 0) (pa_cons (pv 1) pa_nil))) (pe_un un_neg pe_int) (fun _ _ => rfl)))))), fun S x hp hq => ?_⟩
  try dsimp only [cxOf]
  obtain ⟨ns, cs⟩ := x
  obtain ⟨hs, hc⟩ := hp
  dsimp only at hs hc
  walk_at "dn"
  walk_at "d"
  refine ⟨hs, ?_⟩
  rintro _ rfl
  walk_at "d"
  refine ⟨(ns, cs, (ns.length : Int)), by rw [di_len]; rfl, ⟨hs, hc, by have := hc.1; show (cs.length : Int) ≤ ns.length; omega⟩, ?_⟩
  rintro _ rfl
  walk_at "d"
  refine ⟨(ns, cs), rfl, ⟨hs, hc⟩, ?_⟩
  rintro _ rfl
  walk_at "d"
  refine opd_ixL (d := .int (wn ns cs cs.length)) (by rw [nums_eq hc.1]; exact at_lastI (wn ns cs) cs.length) ?_
  walk_at "d"
  exact ret_dat (hq _ rfl)
abbrev st_word_numbers : Stmt := topS 25
theorem sc_word_numbers : FnScope ["schedule", "choices", "found", "entry", "chosen"] ["schedule", "choices"] (defScope st_word_numbers) := ⟨rfl, rfl, rfl, by decide +kernel, rfl, by decide +kernel, by decide +kernel⟩
theorem ok_word_numbers {f : Addr} {fd : FuncData} (F : Fun K "word_numbers" "word_numbers" st_word_numbers f fd) (B : Bt mg) : FnOk Pg w K mg base CX0 1 f fd ["schedule", "choices"] (sp_word_numbers K) := by
  refine okP F sc_word_numbers (fun _ => rfl) fun cdv A outer s H Q E hr => ?_
  refine ⟨_, (pss_cons (ps_set (i := 2) sc_word_numbers.nd rfl (Or.inl rfl) (pe_lst (pa_cons pe_int pa_nil)))
    (pss_cons (ps_for PassesOwn.never rfl (pi_zipKLT (by rfl) B.zip (pa_cons (pv 0) (pa_cons (pv 1) pa_nil))) (pg_tup (by rfl) (pgs_cons (pg_name (i := 3) sc_word_numbers.nd rfl (by first | exact Or.inl rfl | exact Or.inr rfl)) (pgs_cons (pg_name (i := 4) sc_word_numbers.nd rfl (by first | exact Or.inl rfl | exact Or.inr rfl)) pgs_nil)))
    (pss_one (ps_expr (pe_bm PySem.F.plainAttrs_list PySem.F.slot_list_append PySem.F.type_list_append mt_append (pv 2) (pa_cons (pe_op op_add (pe_op op_mulW (pe_ix ix_list (pv 2) (pe_un un_neg pe_int) (fun _ _ => rfl)) (pv 3)) (pv 4)) pa_nil)))))
    (pss_one (ps_ret (pv 2))))), fun S x hp hq => ?_⟩
  try dsimp only [cxOf]
  obtain ⟨ns, cs⟩ := x
  obtain ⟨hs, hc⟩ := hp
  dsimp only at hs hc
  have hlen := hs.len
  have hcl := hc.1
  walk_at "dn"
  walk_at "d"
  refine eva_lstM ?_
  walk_at "d"
  intro p
  walk_at "dn"
  refine q_for (fun ds i M ρ => M = [(p, .lst (di ((List.range (i + 1)).map (wn ns cs))))] ∧ ρ = [.dat (.list (di ns)), .dat (.tuple (di cs)), .adr p, .no, .no]) ?_
  refine evi_zipLT ?_
  walk_at "d"
  refine ⟨⟨rfl, rfl⟩, ?_, ?_⟩
  · rintro i d _ _ hd ⟨rfl, rfl⟩
    obtain ⟨e, f', he, hf, rfl⟩ := zipD_get hd
    obtain ⟨n, hn, rfl⟩ := di_get he
    obtain ⟨c, hx, rfl⟩ := di_get hf
    have hi : i < cs.length := (List.getElem?_eq_some_iff.mp hx).1
    have b := wn_bound hs.two hc i (by omega)
    have e2 := hs.entry hn
    have hl := hs.lt (d := i) (by omega)
    walk_at "t2"
    walk_at "dn"
    walk_at "d"
    refine opd_ixA (k := 0) rfl (at_lastI _ _) ?_
    walk_at "d"
    refine opd_mulW (cmul (a := 700) (b := 700) b.1 (by omega) (by omega) e2.2) ?_
    walk_at "d"
    refine ⟨_, _, rfl, rfl, by rw [di_len, List.length_map, List.length_range]; omega, ?_⟩
    refine at_btw [.dat (.list (di ns)), .dat (.tuple (di cs)), .adr p, .no, .no] (by walk_at "dw") ⟨?_, rfl⟩
    rw [← range_snoc, ← di_app]
    show _ = [(p, MO.lst (_ ++ [.int (wn ns cs i * ns.getD i 0 + cs.getD i 0)]))]
    rw [getD_of hn, getD_of hx]
    rfl
  · rintro _ _ ⟨rfl, rfl⟩
    rw [zipD_len, di_len, di_len]
    walk_at "d"
    exact ret_adr (k := 0) rfl (hq _ rfl)
abbrev st_scaled_weight : Stmt := topS 19
theorem sc_scaled_weight : FnScope ["schedule", "counts", "found", "count", "product"] ["schedule", "counts"] (defScope st_scaled_weight) := ⟨rfl, rfl, rfl, by decide +kernel, rfl, by decide +kernel, by decide +kernel⟩
theorem ok_scaled_weight {f : Addr} {fd : FuncData} (F : Fun K "scaled_weight" "scaled_weight" st_scaled_weight f fd) (B : Bt mg)
    (C_products : Cal Pg w K mg base 1 "products" ["schedule"] (sp_products K)) : FnOk Pg w K mg base CX0 2 f fd ["schedule", "counts"] (sp_scaled_weight K) := by
  refine okP F sc_scaled_weight (fun _ => rfl) fun cdv A outer s H Q E hr => ?_
  refine ⟨_, (pss_cons (ps_set (i := 2) sc_scaled_weight.nd rfl (by first | exact Or.inl rfl | exact Or.inr rfl) (pe_cal C_products hr (by rfl) (pa_cons (pv 0) pa_nil)))
    (pss_one (ps_ret (pe_callB (cr_sum rfl) (by rfl) B.sum PyProof.Rows.boot_sum (pa_cons (pe_lc (own := [("count", 3), ("product", 4)]) (by rfl) sc_scaled_weight.nd (pi_zipTL (by rfl) B.zip (pa_cons (pv 1) (pa_cons (pe_slice sl_list (pv 2) (po_some pe_int) po_none) pa_nil))) (blkOk_by (own := [("count", 3), ("product", 4)]) (N := ["schedule", "counts", "found", "count", "product"]) (sc := defScope st_scaled_weight) (by decide +kernel)) (fun _ _ _ _ _ => (pg_tupK (K := K) rfl 2 rfl (pgs_cons (pg_name (i := 3) sc_scaled_weight.nd rfl (by first | exact Or.inl rfl | exact Or.inr rfl)) (pgs_cons (pg_name (i := 4) sc_scaled_weight.nd rfl (by first | exact Or.inl rfl | exact Or.inr rfl)) pgs_nil)))) (fun _ _ _ _ _ => pts_nil) (fun _ _ _ _ _ => (pe_op op_mulW (pv 3) (pe_op op_fdivW (pe_ix (r := rIxL K) ix_list (pv 2) (pe_un un_neg pe_int) (fun _ _ => rfl)) (pv 4))))) pa_nil))))), fun S x hp hq => ?_⟩
  try dsimp only [cxOf]
  obtain ⟨ns, cs⟩ := x
  obtain ⟨hs, hc, hl⟩ := hp
  dsimp only at hs hc hl
  have hlen := hs.len
  walk_at "dn"
  walk_at "d"
  refine ⟨hs, ?_⟩
  rintro _ rfl
  walk_at "dn"
  walk_at "d"
  refine eva_lc (fun d => match d with | .tuple [.int c, .int p] => some (.int (c * (pd ns ns.length / p))) | _ => none) ?_
  refine evi_zipTL ?_
  walk_at "d"
  rw [cutD_from1]
  refine ⟨by rw [zipD_len, di_len]; omega, fun d hd => ?_, ?_⟩
  · obtain ⟨i, hi⟩ := List.mem_iff_getElem?.mp hd
    obtain ⟨e, g, he, hg, rfl⟩ := zipD_get hi
    obtain ⟨c, hcc, rfl⟩ := di_get he
    rw [List.getElem?_drop] at hg
    obtain ⟨z, hz, rfl⟩ := di_get hg
    have hic : i < cs.length := (List.getElem?_eq_some_iff.mp hcc).1
    rw [sizes_get (by omega)] at hz
    cases hz
    have b := hc.nn c (List.mem_of_getElem? hcc)
    have u0 := hs.ulpos (d := 1 + i) (by omega)
    have p0 := hs.pos (1 + i)
    walk_at "c2"
    dsimp only [wipeS]
    walk_at "dn"
    walk_at "d"
    refine ⟨rfl, ?_⟩
    rw [if_pos rfl]
    refine ⟨_, rfl, ?_⟩
    walk_at "d"
    refine opd_ixL (d := .int (pd ns ns.length)) (at_lastI (pd ns) ns.length) ?_
    walk_at "d"
    refine opd_divW (cdiv (by omega) (hs.lt (by omega))) ?_
    refine opd_mulW (cmul (a := 800) (b := 700) b.1 b.2 (Int.le_of_lt u0) hs.ulow) ?_
    exact ⟨rfl, rfl⟩
  · walk_at "d"
    rw [show (zipD (di cs) ((di (sizes ns)).drop 1)).filterMap (fun d => match d with | .tuple [.int c, .int p] => some (PyData.int (c * (pd ns ns.length / p))) | _ => none) = di ((List.range cs.length).map fun i => cs.getD i 0 * (pd ns ns.length / pd ns (i + 1))) from scaled_zip hl]
    refine cbd_sum ?_
    exact ret_dat (hq _ rfl)
abbrev st_covered : Stmt := topS 31
theorem sc_covered : FnScope ["schedule", "plan", "choices", "sizes", "numbers", "total", "distance", "first", "count", "place"] ["schedule", "plan", "choices"] (defScope st_covered) := ⟨rfl, rfl, rfl, by decide +kernel, rfl, by decide +kernel, by decide +kernel⟩
theorem ok_covered {f : Addr} {fd : FuncData} (F : Fun K "covered" "covered" st_covered f fd) (B : Bt mg)
    (C_products : Cal Pg w K mg base 1 "products" ["schedule"] (sp_products K))
    (C_require_choices : Cal Pg w K mg base 3 "require_choices" ["schedule", "choices", "limit"] (sp_require_choices K))
    (C_require_plan : Cal Pg w K mg base 3 "require_plan" ["schedule", "plan"] (sp_require_plan K))
    (C_require_schedule : Cal Pg w K mg base 3 "require_schedule" ["schedule"] (sp_require_schedule K))
    (C_word_numbers : Cal Pg w K mg base 1 "word_numbers" ["schedule", "choices"] (sp_word_numbers K)) : FnOk Pg w K mg base CX0 4 f fd ["schedule", "plan", "choices"] (sp_covered K) := by
  refine okP F sc_covered (fun _ => rfl) fun cdv A outer s H Q E hr => ?_
  refine ⟨_, (pss_cons (ps_expr (pe_cal C_require_schedule hr (by rfl) (pa_cons (pv 0) pa_nil)))
    (pss_cons (ps_expr (pe_cal C_require_plan hr (by rfl) (pa_cons (pv 0) (pa_cons (pv 1) pa_nil))))
    (pss_cons (ps_expr (pe_cal C_require_choices hr (by rfl) (pa_cons (pv 0) (pa_cons (pv 2) (pa_cons (pe_callB dc_len (by rfl) B.len PySem.boot_len (pa_cons (pv 0) pa_nil)) pa_nil)))))
    (pss_cons (ps_par (by rfl) sc_covered.nd (i := 3) (j := 4) rfl rfl (by decide) rfl rfl (pa_cons (pe_cal C_products (hr.mono (by decide)) (by rfl) (pa_cons (pv 0) pa_nil)) (pa_cons (pe_cal C_word_numbers (hr.mono (by decide)) (by rfl) (pa_cons (pv 0) (pa_cons (pv 2) pa_nil))) pa_nil)) (by rfl))
    (pss_cons (ps_set (i := 5) sc_covered.nd rfl (Or.inl rfl) pe_int)
    (pss_cons (ps_for PassesOwn.never rfl (pi_list (pv 1)) (pg_tup (by rfl) (pgs_cons (pg_name (i := 6) sc_covered.nd rfl (by first | exact Or.inl rfl | exact Or.inr rfl)) (pgs_cons (pg_name (i := 7) sc_covered.nd rfl (by first | exact Or.inl rfl | exact Or.inr rfl)) (pgs_cons (pg_name (i := 8) sc_covered.nd rfl (by first | exact Or.inl rfl | exact Or.inr rfl)) pgs_nil))))
    (pss_one (ps_if (pt_cmpR op_le (pv 6) (pe_callB dc_len (by rfl) B.len PySem.boot_len (pa_cons (pv 2) pa_nil)) (nomark _)) (pss_cons (ps_set (i := 9) sc_covered.nd rfl (Or.inl rfl) (pe_op op_mod (pe_op op_sub (pe_ix ix_list (pv 4) (pv 6) (fun _ _ => rfl)) (pv 7)) (pe_ix ix_list (pv 3) (pv 6) (fun _ _ => rfl))))
    (pss_one (ps_aug (i := 5) sc_covered.nd rfl (Or.inl rfl) (pe_op op_add (pe_op op_fdivW (pv 8) (pe_ix ix_list (pv 3) (pv 6) (fun _ _ => rfl))) (pe_callTy dc_int1 (by rfl) B.int PyProof.Rows.boot_int (pa_cons (pe_cmpR op_lt (pv 9) (pe_op op_mod (pv 8) (pe_ix ix_list (pv 3) (pv 6) (fun _ _ => rfl))) (nomark _)) pa_nil))) ip_add))) pss_nil)))
    (pss_one (ps_ret (pv 5))))))))), fun S x hp hq => ?_⟩
  try dsimp only [cxOf]
  obtain ⟨ns, rs, cs⟩ := x
  obtain ⟨hs, ho, hc⟩ := hp
  dsimp only at hs ho hc
  have hcl := hc.1
  walk_at "dn"
  walk_at "d"
  refine ⟨hs, ?_⟩
  rintro _ rfl
  walk_at "d"
  refine ⟨(ns, rs), rfl, ⟨hs, ho⟩, ?_⟩
  rintro _ rfl
  walk_at "d"
  refine ⟨(ns, cs, (ns.length : Int)), by rw [di_len]; rfl, ⟨hs, hc, by show (cs.length : Int) ≤ ns.length; omega⟩, ?_⟩
  rintro _ rfl
  walk_at "d"
  refine ⟨hs, ?_⟩
  rintro _ rfl
  walk_at "d"
  refine ⟨(ns, cs), rfl, ⟨hs, hc⟩, ?_⟩
  rintro _ rfl
  walk_at "d"
  walk_at "dn"
  refine q_for (fun ds i M ρ => M = [] ∧ ρ = [.dat (.list (di ns)), .dat (.list (rs.map rowD)), .dat (.tuple (di cs)), .dat (.list (di (sizes ns))), .dat (.list (di (nums ns cs))), .dat (.int ((rs.take i).map (covT ns cs)).sum), .no, .no, .no, .no]) ?_
  refine evi_list ?_
  walk_at "d"
  refine ⟨⟨rfl, rfl⟩, ?_, ?_⟩
  · rintro i d _ _ hd ⟨rfl, rfl⟩
    obtain ⟨r, hr1, rfl⟩ := rows_get hd
    have o := ho.2 r (List.mem_of_getElem? hr1)
    have q0 := hs.pos r.d
    have q1 := hs.lt o.dn
    walk_at "t3"
    walk_at "dn"
    walk_at "d"
    rw [di_len]
    refine ⟨fun h => ?_, fun h => ?_⟩
    · have h : r.d ≤ cs.length := by
        have := of_decide_eq_true h
        omega
      walk_at "d"
      refine opd_ixL (at_di (nums_get h hcl) rfl) ?_
      walk_at "d"
      refine opd_ixL (at_di (sizes_get o.dn) rfl) ?_
      refine opd_mod (by omega) ?_
      walk_at "dn"
      walk_at "d"
      refine opd_ixL (at_di (sizes_get o.dn) rfl) ?_
      refine opd_divW (cdiv (by omega) q1) ?_
      walk_at "d"
      refine opd_ixL (at_di (sizes_get o.dn) rfl) ?_
      refine opd_mod (by omega) ?_
      walk_at "d"
      walk_at "dn"
      refine at_btw [.dat (.list (di ns)), .dat (.list (rs.map rowD)), .dat (.tuple (di cs)), .dat (.list (di (sizes ns))), .dat (.list (di (nums ns cs))), .dat (.int ((rs.take (i + 1)).map (covT ns cs)).sum), .no, .no, .no, .no] ?_ ⟨rfl, rfl⟩
      rw [take_map_sum _ hr1, show covT ns cs r = rowT ns r (wn ns cs r.d) from if_pos h]
      unfold rowT
      rw [show (if decide ((wn ns cs r.d - r.f) % pd ns r.d < r.c % pd ns r.d) = true then (1 : Int) else 0) = if (wn ns cs r.d - r.f) % pd ns r.d < r.c % pd ns r.d then 1 else 0 by simp only [decide_eq_true_eq]]
      walk_at "dw"
    · have h : ¬ r.d ≤ cs.length := by
        have := of_decide_eq_false h
        omega
      walk_at "d"
      refine at_btw [.dat (.list (di ns)), .dat (.list (rs.map rowD)), .dat (.tuple (di cs)), .dat (.list (di (sizes ns))), .dat (.list (di (nums ns cs))), .dat (.int ((rs.take (i + 1)).map (covT ns cs)).sum), .no, .no, .no, .no] ?_ ⟨rfl, rfl⟩
      rw [take_map_sum _ hr1, show covT ns cs r = 0 from if_neg h, Int.add_zero]
      walk_at "dw"
  · rintro _ _ ⟨rfl, rfl⟩
    rw [List.length_map, List.take_length]
    walk_at "d"
    exact ret_dat (hq _ rfl)
abbrev st_check_plan : Stmt := topS 28
theorem sc_check_plan : FnScope ["schedule", "counts", "plan", "totals", "distance", "first", "count", "due"] ["schedule", "counts", "plan"] (defScope st_check_plan) := ⟨rfl, rfl, rfl, by decide +kernel, rfl, by decide +kernel, by decide +kernel⟩
theorem ok_check_plan {f : Addr} {fd : FuncData} (F : Fun K "check_plan" "check_plan" st_check_plan f fd) (B : Bt mg)
    (C_require_counts : Cal Pg w K mg base 4 "require_counts" ["counts"] (sp_require_counts K))
    (C_require_plan : Cal Pg w K mg base 3 "require_plan" ["schedule", "plan"] (sp_require_plan K))
    (C_require_schedule : Cal Pg w K mg base 3 "require_schedule" ["schedule"] (sp_require_schedule K)) : FnOk Pg w K mg base CX0 5 f fd ["schedule", "counts", "plan"] (sp_check_plan K) := by
  refine okP F sc_check_plan (fun _ => rfl) fun cdv A outer s H Q E hr => ?_
  refine ⟨_, (pss_cons (ps_expr (pe_cal C_require_schedule (hr.mono (by decide)) (by rfl) (pa_cons (pv 0) pa_nil)))
    (pss_cons (ps_expr (pe_cal C_require_counts hr (by rfl) (pa_cons (pv 1) pa_nil)))
    (pss_cons (ps_expr (pe_cal C_require_plan (hr.mono (by decide)) (by rfl) (pa_cons (pv 0) (pa_cons (pv 2) pa_nil))))
    (pss_cons (ps_set (i := 3) sc_check_plan.nd rfl (Or.inl rfl) (pe_op op_rep (pe_lst (pa_cons pe_int pa_nil)) (pe_callB dc_len (by rfl) B.len PySem.boot_len (pa_cons (pv 0) pa_nil))))
    (pss_cons (ps_for PassesOwn.never rfl (pi_list (pv 2)) (pg_tup (by rfl) (pgs_cons (pg_name (i := 4) sc_check_plan.nd rfl (by first | exact Or.inl rfl | exact Or.inr rfl)) (pgs_cons (pg_name (i := 5) sc_check_plan.nd rfl (by first | exact Or.inl rfl | exact Or.inr rfl)) (pgs_cons (pg_name (i := 6) sc_check_plan.nd rfl (by first | exact Or.inl rfl | exact Or.inr rfl)) pgs_nil))))
    (pss_one (ps_augS (pv 3) (pe_op op_sub (pv 4) pe_int) get_list (pv 6) ip_add set_list)))
    (pss_cons (ps_set (i := 7) sc_check_plan.nd rfl (Or.inl rfl) (pe_callTy dc_list (by rfl) B.list PyProof.Rows.boot_list (pa_cons (pe_slice sl_tupA (pv 1) po_none (po_some (pe_callB dc_len (by rfl) B.len PySem.boot_len (pa_cons (pv 0) pa_nil)))) pa_nil)))
    (pss_one (ps_if (pt_cmpR (op_neD hr.units) (pv 3) (pe_op op_catL (pv 7) (pe_op op_rep (pe_lst (pa_cons pe_int pa_nil)) (pe_op op_sub (pe_callB dc_len (by rfl) B.len PySem.boot_len (pa_cons (pv 0) pa_nil)) (pe_callB dc_len (by rfl) B.len PySem.boot_len (pa_cons (pv 7) pa_nil))))) (nomark _)) (pss_one ps_never) pss_nil)))))))), fun S x hp hq => ?_⟩
  try dsimp only [cxOf]
  obtain ⟨ns, rs⟩ := x
  obtain ⟨hs, ho⟩ := hp
  dsimp only at hs ho
  have hlen := hs.len
  walk_at "dn"
  walk_at "d"
  refine ⟨hs, ?_⟩
  rintro _ rfl
  walk_at "d"
  refine ⟨amounts_counts hs ho, ?_⟩
  rintro _ rfl
  walk_at "d"
  refine ⟨(ns, rs), rfl, ⟨hs, ho⟩, ?_⟩
  rintro _ rfl
  walk_at "d"
  refine eva_repM ?_
  walk_at "d"
  refine ⟨_, ns.length, rfl, by rw [di_len], by omega, fun p => ?_⟩
  walk_at "dn"
  refine q_for (fun ds i M ρ => M = [(p, .lst (di (amounts ns (rs.take i))))] ∧ ρ = [.dat (.list (di ns)), .dat (.tuple (di (amounts ns rs))), .dat (.list (rs.map rowD)), .adr p, .no, .no, .no, .no]) ?_
  refine evi_list ?_
  walk_at "d"
  refine ⟨⟨by rw [List.take_zero, amounts_nil, di, List.map_replicate], rfl⟩, ?_, ?_⟩
  · rintro i d _ _ hd ⟨rfl, rfl⟩
    obtain ⟨r, hr1, rfl⟩ := rows_get hd
    have o := ho.2 r (List.mem_of_getElem? hr1)
    have o1 := o.d1
    have o2 := o.dn
    walk_at "t3"
    walk_at "dn"
    refine s_augS (k := 0) rfl ?_
    walk_at "d"
    refine ⟨_, r.d - 1, amount (rs.take i) r.d, rfl, by rw [show ((r.d : Int) - 1) = ((r.d - 1 : Nat) : Int) by omega], ?_, ?_⟩
    · rw [di, List.getElem?_map, amounts, List.getElem?_map, List.getElem?_range (by omega)]
      show some (PyData.int (amount (rs.take i) (r.d - 1 + 1))) = _
      rw [show r.d - 1 + 1 = r.d by omega]
    · walk_at "d"
      refine ⟨_, rfl, rfl, ?_⟩
      show At _ _ _ _ _ (Btw _ _ _ _)
      refine at_btw [.dat (.list (di ns)), .dat (.tuple (di (amounts ns rs))), .dat (.list (rs.map rowD)), .adr p, .no, .no, .no, .no] ?_ ⟨?_, rfl⟩
      · walk_at "dw"
      rw [amounts_take hr1 o1 o2, di, di, List.map_set]
      rfl
  · rintro _ _ ⟨rfl, rfl⟩
    rw [List.length_map, List.take_length]
    walk_at "d"
    rw [cutD_all _ (by rw [di_len, di_len, amounts_len])]
    walk_at "d"
    refine eva_rep ?_
    walk_at "d"
    refine ⟨_, 0, rfl, by rw [di_len, di_len, amounts_len, Int.sub_self]; rfl, by decide, ?_⟩
    refine opd_catL (by rw [di_len, amounts_len]; simp; omega) ?_
    refine opd_neRA (k := 0) rfl (by simp) (shp_list (lay_ints _)) ?_
    walk_at "d"
    exact at_end fun H' l => hq _ rfl _ _ l .non
end
end D
namespace D
open M
section
variable {Pg : Program} {w : World} {K : PySem.W.Frag} {mg : Str → Option Value} {base : Heap}
abbrev st_arrivals_by_start : Stmt := topS 29
theorem sc_arrivals_by_start : FnScope ["schedule", "plan", "sizes", "level", "changes", "distance", "first", "count", "unit", "start", "end", "found"] ["schedule", "plan"] (defScope st_arrivals_by_start) := ⟨rfl, rfl, rfl, by decide +kernel, rfl, by decide +kernel, by decide +kernel⟩
theorem ok_arrivals_by_start {f : Addr} {fd : FuncData} (F : Fun K "arrivals_by_start" "arrivals_by_start" st_arrivals_by_start f fd) (B : Bt mg)
    (C_products : Cal Pg w K mg base 1 "products" ["schedule"] (sp_products K)) : FnOk Pg w K mg base CX0 2 f fd ["schedule", "plan"] (sp_arrivals_by_start K) := by
  refine okP F sc_arrivals_by_start (fun _ => rfl) fun cdv A outer s H Q E hr => ?_
  refine ⟨_, (pss_cons (ps_set (i := 2) sc_arrivals_by_start.nd rfl (Or.inl rfl) (pe_cal C_products hr (by rfl) (pa_cons (pv 0) pa_nil)))
    (pss_cons (ps_par (by rfl) sc_arrivals_by_start.nd (i := 3) (j := 4) rfl rfl (by decide) rfl rfl (pa_cons pe_int (pa_cons (pe_disp (pps_cons pe_int pe_int pps_nil) (by rfl) (by rfl) (fun z => by cases z) (by decide)) pa_nil)) (by rfl))
    (pss_cons (ps_for PassesOwn.never rfl (pi_list (pv 1)) (pg_tup (by rfl) (pgs_cons (pg_name (i := 5) sc_arrivals_by_start.nd rfl (by first | exact Or.inl rfl | exact Or.inr rfl)) (pgs_cons (pg_name (i := 6) sc_arrivals_by_start.nd rfl (by first | exact Or.inl rfl | exact Or.inr rfl)) (pgs_cons (pg_name (i := 7) sc_arrivals_by_start.nd rfl (by first | exact Or.inl rfl | exact Or.inr rfl)) pgs_nil))))
    (pss_cons (ps_set (i := 8) sc_arrivals_by_start.nd rfl (Or.inl rfl) (pe_op op_fdivW (pe_ix ix_list (pv 2) (pe_un un_neg pe_int) (fun _ _ => rfl)) (pe_ix ix_list (pv 2) (pv 5) (fun _ _ => rfl))))
    (pss_cons (ps_aug (i := 3) sc_arrivals_by_start.nd rfl (Or.inl rfl) (pe_op op_fdivW (pv 7) (pe_ix ix_list (pv 2) (pv 5) (fun _ _ => rfl))) ip_add)
    (pss_cons (ps_par (by rfl) sc_arrivals_by_start.nd (i := 9) (j := 10) rfl rfl (by decide) rfl rfl (pa_cons (pv 6) (pa_cons (pe_op op_add (pv 6) (pe_op op_mod (pv 7) (pe_ix ix_list (pv 2) (pv 5) (fun _ _ => rfl)))) pa_nil)) (by rfl))
    (pss_cons (ps_dput (Nat.lt_of_le_of_lt (Nat.add_le_add_left (by decide) _) hr.units) (pv 4) (pe_op op_mulW (pv 9) (pv 8)) (pe_op op_add (pe_dget2 (Nat.lt_of_le_of_lt (Nat.add_le_add_left (by decide) _) hr.units) (pv 4) (pe_op op_mulW (pv 9) (pv 8)) pe_int ⟨rfl, rfl, rfl, rfl⟩) pe_int) rfl)
    (pss_cons (ps_dput (Nat.lt_of_le_of_lt (Nat.add_le_add_left (by decide) _) hr.units) (pv 4) (pe_op op_mulW (pe_op op_mod (pv 10) (pe_ix ix_list (pv 2) (pv 5) (fun _ _ => rfl))) (pv 8)) (pe_op op_sub (pe_dget2 (Nat.lt_of_le_of_lt (Nat.add_le_add_left (by decide) _) hr.units) (pv 4) (pe_op op_mulW (pe_op op_mod (pv 10) (pe_ix ix_list (pv 2) (pv 5) (fun _ _ => rfl))) (pv 8)) pe_int ⟨rfl, rfl, rfl, rfl⟩) pe_int) rfl)
    (pss_one (ps_daug (Nat.lt_of_le_of_lt (Nat.add_le_add_left (by decide) _) hr.units) (pv 4) pe_int (pe_callTy dc_int1 (by rfl) B.int PyProof.Rows.boot_int (pa_cons (pe_cmpR op_ge (pv 10) (pe_ix ix_list (pv 2) (pv 5) (fun _ _ => rfl)) (nomark _)) pa_nil)) in_add (fun _ _ _ => rfl)))))))))
    (pss_cons (ps_set (i := 11) sc_arrivals_by_start.nd rfl (Or.inl rfl) (pe_lst pa_nil))
    (pss_cons (ps_for PassesOwn.never rfl (pi_list (pe_callB (dc_sortD rfl) (by rfl) B.sorted PyProof.Rows.boot_sorted (pa_cons (pv 4) pa_nil))) (pg_name (i := 9) sc_arrivals_by_start.nd rfl (by first | exact Or.inl rfl | exact Or.inr rfl))
    (pss_cons (ps_aug (i := 3) sc_arrivals_by_start.nd rfl (Or.inl rfl) (pe_dget (Nat.lt_of_le_of_lt (Nat.add_le_add_left (by decide) _) hr.units) (pv 4) (pv 9) (fun _ _ => rfl)) ip_add)
    (pss_one (ps_expr (pe_bm PySem.F.plainAttrs_list PySem.F.slot_list_append PySem.F.type_list_append mt_append (pv 11) (pa_cons (pe_tup (pa_cons (pv 9) (pa_cons (pv 3) pa_nil))) pa_nil))))))
    (pss_one (ps_ret (pv 11)))))))), fun S x hp hq => ?_⟩
  try dsimp only [cxOf]
  obtain ⟨ns, rs⟩ := x
  obtain ⟨hs, ho⟩ := hp
  dsimp only at hs ho
  have hrl := ho.1
  walk_at "dn"
  walk_at "d"
  refine ⟨hs, ?_⟩
  rintro _ rfl
  walk_at "d"
  refine eva_disp0 fun p => ?_
  walk_at "d"
  walk_at "dn"
  refine q_for (fun ds i M ρ => ∃ kvs, M = [(p, .dct kvs)] ∧ Chs ns (rs.take i) kvs ∧ ρ = [.dat (.list (di ns)), .dat (.list (rs.map rowD)), .dat (.list (di (sizes ns))), .dat (.int (turns ns (rs.take i))), .adr p, .no, .no, .no, .no, .no, .no, .no]) ?_
  refine evi_list ?_
  walk_at "d"
  refine ⟨⟨_, rfl, .nil ns, rfl⟩, ?_, ?_⟩
  · rintro i d _ _ hd ⟨kvs, rfl, ch, rfl⟩
    obtain ⟨r, hr1, rfl⟩ := rows_get hd
    have o := ho.2 r (List.mem_of_getElem? hr1)
    have q0 := hs.pos r.d
    have q1 := hs.lt o.dn
    have u0 : 0 < unit ns r := hs.ulpos o.dn
    have u1 : unit ns r < P2 700 := hs.ulow
    have f0 := o.f0
    have f1 := o.f1
    have cl := ch.len
    have tl : (rs.take i).length ≤ rs.length := by
      rw [List.length_take]
      omega
    walk_at "t3"
    walk_at "dn"
    walk_at "d"
    refine opd_ixL (d := .int (pd ns ns.length)) (at_lastI (pd ns) ns.length) ?_
    walk_at "d"
    refine opd_ixL (at_di (sizes_get o.dn) rfl) ?_
    refine opd_divW (cdiv (by omega) q1) ?_
    walk_at "d"
    refine opd_ixL (at_di (sizes_get o.dn) rfl) ?_
    refine opd_divW (cdiv (by omega) q1) ?_
    walk_at "d"
    refine opd_ixL (at_di (sizes_get o.dn) rfl) ?_
    refine opd_mod (by omega) ?_
    walk_at "d"
    walk_at "dn"
    refine q_dput (k := 0) rfl ?_
    walk_at "d"
    refine eva_dget2 (k := 0) rfl rfl ?_
    walk_at "d"
    refine opd_mulW (cmul (a := 700) (b := 700) f0 (by omega) (Int.le_of_lt u0) u1) ?_
    walk_at "d"
    refine ⟨_, 0, _, rfl, rfl, rfl, ch.g1 _, ?_⟩
    walk_at "d"
    refine opd_mulW (cmul (a := 700) (b := 700) f0 (by omega) (Int.le_of_lt u0) u1) ?_
    refine ⟨_, _, _, rfl, rfl, rfl, by omega, ?_⟩
    walk_at "dn"
    have e0 := Int.emod_nonneg (r.f + r.c % pd ns r.d) (show pd ns r.d ≠ 0 by omega)
    have e1 := Int.emod_lt_of_pos (r.f + r.c % pd ns r.d) (show 0 < pd ns r.d by omega)
    refine q_dput (k := 0) rfl ?_
    walk_at "d"
    refine eva_dget2 (k := 0) rfl rfl ?_
    walk_at "d"
    refine opd_ixL (at_di (sizes_get o.dn) rfl) ?_
    refine opd_mod (by omega) ?_
    walk_at "d"
    refine opd_mulW (cmul (a := 700) (b := 700) e0 (by omega) (Int.le_of_lt u0) u1) ?_
    walk_at "d"
    refine ⟨_, 0, _, rfl, rfl, rfl, ch.g2 _ _, ?_⟩
    walk_at "d"
    refine opd_ixL (at_di (sizes_get o.dn) rfl) ?_
    refine opd_mod (by omega) ?_
    walk_at "d"
    refine opd_mulW (cmul (a := 700) (b := 700) e0 (by omega) (Int.le_of_lt u0) u1) ?_
    refine ⟨_, _, _, rfl, rfl, rfl, Nat.lt_of_le_of_lt (length_putK _ _ _) (by omega), ?_⟩
    walk_at "dn"
    refine s_daug (k := 0) rfl ?_
    walk_at "d"
    refine ⟨_, _, _, rfl, rfl, ch.g3 _ _, Nat.lt_of_le_of_lt (Nat.le_trans (length_putK _ _ _) (Nat.succ_le_succ (length_putK _ _ _))) (by omega), ?_⟩
    walk_at "d"
    refine opd_ixL (at_di (sizes_get o.dn) rfl) ?_
    walk_at "d"
    refine ⟨_, rfl, rfl, ?_⟩
    walk_at "dn"
    show At _ _ _ _ _ (Btw _ _ _ _)
    refine at_btw [.dat (.list (di ns)), .dat (.list (rs.map rowD)), .dat (.list (di (sizes ns))), .dat (.int (turns ns (rs.take (i + 1)))), .adr p, .no, .no, .no, .no, .no, .no, .no] ?_ ⟨_, rfl, ?_, rfl⟩
    · unfold turns
      rw [take_map_sum _ hr1]
      walk_at "dw"
    · rw [List.take_add_one, hr1]
      refine ch.step r rfl ?_ ?_
      · rw [endp_eq]
        rfl
      · unfold ind
        simp only [decide_eq_true_eq]
  · rintro _ _ ⟨kvs, rfl, ch, rfl⟩
    rw [List.length_map, List.take_length] at ch ⊢
    obtain ⟨ks, dk, kl, km⟩ := ch.ex
    walk_at "d"
    refine eva_lstM ?_
    walk_at "d"
    intro q
    walk_at "dn"
    refine q_for (fun ds i M ρ => ∃ ys, IsPlaces ns rs ys ∧ ys.length ≤ 41 ∧ ds = di ys ∧ M = [(q, .lst ((ys.take i).map fun p => .tuple [.int p, .int (lvl ns rs p)])), (p, .dct kvs)] ∧
      ∃ z, ρ = [.dat (.list (di ns)), .dat (.list (rs.map rowD)), .dat (.list (di (sizes ns))), .dat (.int (turns ns rs + ((ys.take i).map (chgs ns rs)).sum)), .adr p, .no, .no, .no, .no, z, .no, .adr q]) ?_
    refine evi_list ?_
    walk_at "d"
    refine cbd_sortD (k := 1) rfl dk.keys (by omega) fun ys hp1 hp2 => ?_
    walk_at "d"
    have pl := sorted_places dk.nd km hp1 hp2
    refine ⟨⟨ys, pl, by rw [hp1.length_eq]; omega, rfl, rfl, .no, by simp⟩, ?_, ?_⟩
    · rintro i d _ _ hd ⟨ys', pl, yl, e, rfl, z, rfl⟩
      cases di_inj e
      obtain ⟨y, hy, rfl⟩ := di_get hd
      have yin := List.mem_of_getElem? hy
      have pin := place_in hs ho.2 pl yin
      walk_at "t1"
      walk_at "dn"
      walk_at "d"
      refine eva_dget (k := 1) rfl ?_
      walk_at "d"
      refine ⟨_, _, _, rfl, rfl, dk.at ((km y).mpr ((pl.mem y).mp yin)), ?_⟩
      walk_at "d"
      walk_at "dn"
      walk_at "d"
      refine ⟨_, _, rfl, rfl, by rw [List.length_map, List.length_take]; omega, ?_⟩
      walk_at "dn"
      show At _ _ _ _ _ (Btw _ _ _ _)
      refine at_btw [.dat (.list (di ns)), .dat (.list (rs.map rowD)), .dat (.list (di (sizes ns))), .dat (.int (turns ns rs + ((ys.take (i + 1)).map (chgs ns rs)).sum)), .adr p, .no, .no, .no, .no, .no, .no, .adr q] ?_ ⟨ys, pl, yl, rfl, ?_, .no, rfl⟩
      · rw [take_map_sum _ hy, Int.add_assoc]
        walk_at "dw"
      · have e : lvl ns rs y = turns ns rs + ((ys.take i).map (chgs ns rs)).sum + chgs ns rs y := by
          rw [upto_all hs ho.2 pl pin.1 pin.2, filter_upto pl.sorted hy, take_map_sum _ hy, Int.add_assoc]
        rw [List.take_add_one, hy, List.map_append, ← e]
        rfl
    · rintro _ _ ⟨ys, pl, yl, hds, rfl, z, rfl⟩
      rw [hds, di_len, List.take_length]
      walk_at "d"
      exact ret_adr (k := 0) rfl (hq _ ⟨ys, pl, rfl⟩)
abbrev st_climbers_between : Stmt := topS 34
theorem sc_climbers_between : FnScope ["size", "row", "start", "length", "distance", "first", "count", "turns", "rest", "place", "inside"] ["size", "row", "start", "length"] (defScope st_climbers_between) := ⟨rfl, rfl, rfl, by decide +kernel, rfl, by decide +kernel, by decide +kernel⟩
theorem ok_climbers_between {f : Addr} {fd : FuncData} (F : Fun K "climbers_between" "climbers_between" st_climbers_between f fd) (B : Bt mg) : FnOk Pg w K mg base CX0 1 f fd ["size", "row", "start", "length"] (sp_climbers_between K) := by
  refine okP F sc_climbers_between (fun _ => rfl) fun cdv A outer s H Q E hr => ?_
  refine ⟨_, (pss_cons (ps_asg (pv 1) (pg_tup (by rfl) (pgs_cons (pg_name (i := 4) sc_climbers_between.nd rfl (by first | exact Or.inl rfl | exact Or.inr rfl)) (pgs_cons (pg_name (i := 5) sc_climbers_between.nd rfl (by first | exact Or.inl rfl | exact Or.inr rfl)) (pgs_cons (pg_name (i := 6) sc_climbers_between.nd rfl (by first | exact Or.inl rfl | exact Or.inr rfl)) pgs_nil)))))
    (pss_cons (ps_par (by rfl) sc_climbers_between.nd (i := 7) (j := 8) rfl rfl (by decide) rfl rfl (pa_cons (pe_op op_fdivW (pv 6) (pv 0)) (pa_cons (pe_op op_mod (pv 6) (pv 0)) pa_nil)) (by rfl))
    (pss_cons (ps_set (i := 9) sc_climbers_between.nd rfl (Or.inl rfl) (pe_op op_mod (pe_op op_sub (pv 2) (pv 5)) (pv 0)))
    (pss_cons (ps_set (i := 10) sc_climbers_between.nd rfl (Or.inl rfl) (pe_callB (dc_max2 rfl) (by rfl) B.max PyProof.Rows.boot_max (pa_cons pe_int (pa_cons (pe_op op_sub (pe_callB (dc_min2 rfl) (by rfl) B.min PyProof.Rows.boot_min (pa_cons (pv 8) (pa_cons (pe_op op_add (pv 9) (pv 3)) pa_nil))) (pv 9)) pa_nil))))
    (pss_one (ps_ret (pe_op op_add (pe_op op_add (pe_op op_mulW (pv 7) (pv 3)) (pv 10)) (pe_callB (dc_max2 rfl) (by rfl) B.max PyProof.Rows.boot_max (pa_cons pe_int (pa_cons (pe_callB (dc_min2 rfl) (by rfl) B.min PyProof.Rows.boot_min (pa_cons (pv 8) (pa_cons (pe_op op_sub (pe_op op_add (pv 9) (pv 3)) (pv 0)) pa_nil))) pa_nil)))))))))), fun S x hp hq => ?_⟩
  try dsimp only [cxOf]
  obtain ⟨size, r, start, length⟩ := x
  obtain ⟨h0, h1, c0, c1, l0, l1⟩ := hp
  dsimp only at h0 h1 c0 c1 l0 l1
  walk_at "dn"
  refine q_asg ?_
  walk_at "d"
  refine ⟨_, _, tgt_tup rfl (tgts_cons tgt_name (tgts_cons tgt_name (tgts_cons tgt_name tgts_nil))), ?_⟩
  walk_at "dn"
  walk_at "d"
  refine opd_divW (cdiv h0 h1) ?_
  walk_at "d"
  walk_at "dn"
  walk_at "d"
  refine opd_mulW (cmul (a := 710) (b := 700) (Int.ediv_nonneg (by omega) (by omega)) (Int.lt_of_le_of_lt (Int.ediv_le_self _ (by omega)) c1) l0 l1) ?_
  walk_at "d"
  refine ret_dat (hq _ ?_)
  unfold clim
  rw [Int.add_assoc, max_if, max_if, min_if, min_if]
abbrev st_is_prefix_free : Stmt := topS 33
theorem sc_is_prefix_free : FnScope ["schedule", "plan"] ["schedule", "plan"] (defScope st_is_prefix_free) := ⟨rfl, rfl, rfl, by decide +kernel, rfl, by decide +kernel, by decide +kernel⟩
theorem ok_is_prefix_free {f : Addr} {fd : FuncData} (F : Fun K "is_prefix_free" "is_prefix_free" st_is_prefix_free f fd) (B : Bt mg)
    (C_extreme_choices : Cal Pg w K mg base 4 "extreme_choices" ["schedule", "plan"] (sp_extreme_choices K)) : FnOk Pg w K mg base CX0 5 f fd ["schedule", "plan"] (sp_is_prefix_free K) := by
  refine okP F sc_is_prefix_free (fun _ => rfl) fun cdv A outer s H Q E hr => ?_
  refine ⟨_, (pss_one (ps_ret (pe_cmpR op_le (pe_ix ix_tup (pe_cal C_extreme_choices hr (by rfl) (pa_cons (pv 0) (pa_cons (pv 1) pa_nil))) pe_int (fun _ _ => rfl)) pe_int (nomark _)))), fun S x hp hq => ?_⟩
  try dsimp only [cxOf]
  obtain ⟨ns, rs⟩ := x
  walk_at "dn"
  walk_at "d"
  refine ⟨(ns, rs), rfl, hp, ?_⟩
  rintro _ ⟨lo, plo, hi, phi, he, rfl⟩
  walk_at "d"
  refine opd_ixT (d := .int hi) rfl ?_
  walk_at "d"
  exact ret_dat (hq _ ⟨lo, plo, hi, phi, he, rfl⟩)
end
end D
namespace D
open M
section
variable {Pg : Program} {w : World} {K : PySem.W.Frag} {mg : Str → Option Value} {base : Heap}
abbrev st_extreme_choices : Stmt := topS 32
theorem sc_extreme_choices : FnScope ["schedule", "plan", "levels", "found", "arrivals", "start", "level"] ["schedule", "plan"] (defScope st_extreme_choices) := ⟨rfl, rfl, rfl, by decide +kernel, rfl, by decide +kernel, by decide +kernel⟩
theorem ok_extreme_choices {f : Addr} {fd : FuncData} (F : Fun K "extreme_choices" "extreme_choices" st_extreme_choices f fd) (B : Bt mg)
    (C_arrivals_by_start : Cal Pg w K mg base 2 "arrivals_by_start" ["schedule", "plan"] (sp_arrivals_by_start K))
    (C_digits : Cal Pg w K mg base 1 "digits" ["schedule", "length", "number"] (sp_digits K))
    (C_require_plan : Cal Pg w K mg base 3 "require_plan" ["schedule", "plan"] (sp_require_plan K))
    (C_require_schedule : Cal Pg w K mg base 3 "require_schedule" ["schedule"] (sp_require_schedule K)) : FnOk Pg w K mg base CX0 4 f fd ["schedule", "plan"] (sp_extreme_choices K) := by
  refine okP F sc_extreme_choices (fun _ => rfl) fun cdv A outer s H Q E hr => ?_
  refine ⟨_, (pss_cons (ps_expr (pe_cal C_require_schedule hr (by rfl) (pa_cons (pv 0) pa_nil)))
    (pss_cons (ps_expr (pe_cal C_require_plan hr (by rfl) (pa_cons (pv 0) (pa_cons (pv 1) pa_nil))))
    (pss_cons (ps_set (i := 2) sc_extreme_choices.nd rfl (Or.inl rfl) (pe_cal C_arrivals_by_start (hr.mono (by decide)) (by rfl) (pa_cons (pv 0) (pa_cons (pv 1) pa_nil))))
    (pss_cons (ps_set (i := 3) sc_extreme_choices.nd rfl (Or.inl rfl) (pe_lst pa_nil))
    (pss_cons (ps_for PassesOwn.never rfl (pi_tup (pe_tup (pa_cons (pe_callB (cr_min rfl) (by rfl) B.min PyProof.Rows.boot_min (pa_cons (pe_lc (own := [("start", 5), ("level", 6)]) (by rfl) sc_extreme_choices.nd (pi_list (pv 2)) (blkOk_by (own := [("start", 5), ("level", 6)]) (N := ["schedule", "plan", "levels", "found", "arrivals", "start", "level"]) (sc := defScope st_extreme_choices) (by decide +kernel)) (fun _ _ _ _ _ => (pg_tupK (K := K) rfl 2 rfl (pgs_cons (pg_name (i := 5) sc_extreme_choices.nd rfl (by first | exact Or.inl rfl | exact Or.inr rfl)) (pgs_cons (pg_name (i := 6) sc_extreme_choices.nd rfl (by first | exact Or.inl rfl | exact Or.inr rfl)) pgs_nil)))) (fun _ _ _ _ _ => pts_nil) (fun _ _ _ _ _ => (pv 6))) pa_nil)) (pa_cons (pe_callB (cr_max rfl) (by rfl) B.max PyProof.Rows.boot_max (pa_cons (pe_lc (own := [("start", 5), ("level", 6)]) (by rfl) sc_extreme_choices.nd (pi_list (pv 2)) (blkOk_by (own := [("start", 5), ("level", 6)]) (N := ["schedule", "plan", "levels", "found", "arrivals", "start", "level"]) (sc := defScope st_extreme_choices) (by decide +kernel)) (fun _ _ _ _ _ => (pg_tupK (K := K) rfl 2 rfl (pgs_cons (pg_name (i := 5) sc_extreme_choices.nd rfl (by first | exact Or.inl rfl | exact Or.inr rfl)) (pgs_cons (pg_name (i := 6) sc_extreme_choices.nd rfl (by first | exact Or.inl rfl | exact Or.inr rfl)) pgs_nil)))) (fun _ _ _ _ _ => pts_nil) (fun _ _ _ _ _ => (pv 6))) pa_nil)) pa_nil)))) (pg_name (i := 4) sc_extreme_choices.nd rfl (by first | exact Or.inl rfl | exact Or.inr rfl))
    (pss_cons (ps_set (i := 5) sc_extreme_choices.nd rfl (Or.inl rfl) (pe_ix ix_list (pe_lc (own := [("start", 5), ("level", 6)]) (by rfl) sc_extreme_choices.nd (pi_list (pv 2)) (blkOk_by (own := [("start", 5), ("level", 6)]) (N := ["schedule", "plan", "levels", "found", "arrivals", "start", "level"]) (sc := defScope st_extreme_choices) (by decide +kernel)) (fun _ _ _ _ _ => (pg_tupK (K := K) rfl 2 rfl (pgs_cons (pg_name (i := 5) sc_extreme_choices.nd rfl (by first | exact Or.inl rfl | exact Or.inr rfl)) (pgs_cons (pg_name (i := 6) sc_extreme_choices.nd rfl (by first | exact Or.inl rfl | exact Or.inr rfl)) pgs_nil)))) (fun _ _ _ _ _ => pts_one (pt_cmpR op_eq (pv 6) (pv 4) (nomark _))) (fun _ _ _ _ _ => (pv 5))) pe_int (fun _ _ => rfl)))
    (pss_one (ps_expr (pe_bm PySem.F.plainAttrs_list PySem.F.slot_list_extend PySem.F.type_list_extend mt_extend (pv 3) (pa_cons (pe_lst (pa_cons (pv 4) (pa_cons (pe_cal C_digits (hr.mono (by decide)) (by rfl) (pa_cons (pv 0) (pa_cons (pe_callB dc_len (by rfl) B.len PySem.boot_len (pa_cons (pv 0) pa_nil)) (pa_cons (pv 5) pa_nil)))) pa_nil))) pa_nil))))))
    (pss_one (ps_ret (pe_callTy dc_tuple (by rfl) B.tuple PyProof.Rows.boot_tuple (pa_cons (pv 3) pa_nil))))))))), fun S x hp hq => ?_⟩
  try dsimp only [cxOf]
  obtain ⟨ns, rs⟩ := x
  obtain ⟨hs, ho⟩ := hp
  dsimp only at hs ho
  have hrl := ho.1
  walk_at "dn"
  walk_at "d"
  refine ⟨hs, ?_⟩
  rintro _ rfl
  walk_at "d"
  refine ⟨(ns, rs), rfl, ⟨hs, ho⟩, ?_⟩
  rintro _ rfl
  walk_at "d"
  refine ⟨(ns, rs), rfl, ⟨hs, ho⟩, ?_⟩
  rintro _ ⟨ps, pl, rfl⟩
  dsimp only at pl
  have pb : ps.length ≤ 1 + 2 * rs.length := places_len pl
  have p0 : (0 : Int) ∈ ps := (pl.mem 0).mpr (.inl rfl)
  have pn : 0 < (ps.map (lvl ns rs)).length := by
    rw [List.length_map]
    exact List.length_pos_of_mem p0
  walk_at "d"
  refine eva_lstM ?_
  walk_at "d"
  intro p
  walk_at "dn"
  refine q_for (fun ds i M ρ => ∃ lo hi z1 z2 z3 fs, ds = [.int lo, .int hi] ∧ (∃ q ∈ ps, lvl ns rs q = lo) ∧ (∃ q ∈ ps, lvl ns rs q = hi) ∧ (∀ q ∈ ps, lo ≤ lvl ns rs q) ∧ (∀ q ∈ ps, lvl ns rs q ≤ hi) ∧
    M = [(p, .lst fs)] ∧ ρ = [.dat (.list (di ns)), .dat (.list (rs.map rowD)), .dat (lvD ns rs ps), .adr p, z1, z2, z3] ∧
    match i with
    | 0 => fs = []
    | 1 => ∃ plo, First ns rs lo plo ∧ fs = [.int lo, .tuple (di (word ns ns.length plo))]
    | _ => ∃ plo phi, First ns rs lo plo ∧ First ns rs hi phi ∧ fs = [.int lo, .tuple (di (word ns ns.length plo)), .int hi, .tuple (di (word ns ns.length phi))]) ?_
  refine evi_tup ?_
  walk_at "d"
  refine eva_lc sndF ?_
  refine evi_list ?_
  walk_at "d"
  refine ⟨by rw [List.length_map]; omega, fun d hd => ?_, ?_⟩
  · obtain ⟨q, _, rfl⟩ := lv_mem hd
    walk_at "c2"
    dsimp only [wipeS]
    walk_at "dn"
    walk_at "d"
    refine ⟨rfl, ?_⟩
    rw [if_pos rfl]
    refine ⟨_, rfl, ?_⟩
    walk_at "d"
    exact ⟨rfl, rfl⟩
  rw [lv_snd]
  walk_at "d"
  refine cbd_min pn fun lo ml1 ml2 => ?_
  walk_at "d"
  refine eva_lc sndF ?_
  refine evi_list ?_
  walk_at "d"
  refine ⟨by rw [List.length_map]; omega, fun d hd => ?_, ?_⟩
  · obtain ⟨q, _, rfl⟩ := lv_mem hd
    walk_at "c2"
    dsimp only [wipeS]
    walk_at "dn"
    walk_at "d"
    refine ⟨rfl, ?_⟩
    rw [if_pos rfl]
    refine ⟨_, rfl, ?_⟩
    walk_at "d"
    exact ⟨rfl, rfl⟩
  rw [lv_snd]
  walk_at "d"
  refine cbd_max pn fun hi mh1 mh2 => ?_
  walk_at "d"
  obtain ⟨q1, m1, e1⟩ := List.mem_map.mp ml1
  obtain ⟨q2, m2, e2⟩ := List.mem_map.mp mh1
  refine ⟨⟨lo, hi, .no, .no, .no, [], rfl, ⟨q1, m1, e1⟩, ⟨q2, m2, e2⟩, fun q hq => ml2 _ (List.mem_map_of_mem hq), fun q hq => mh2 _ (List.mem_map_of_mem hq), rfl, rfl, rfl⟩, ?_, ?_⟩
  · rintro i d _ _ hd ⟨lo, hi, z1, z2, z3, fs, hds, hlo, hhi, hl, hh, rfl, rfl, hm⟩
    cases hds
    have key : ∃ v q, d = .int v ∧ q ∈ ps ∧ lvl ns rs q = v ∧ ((i = 0 ∧ v = lo) ∨ (i = 1 ∧ v = hi)) := by
      match i, hd with
      | 0, hd =>
        obtain ⟨q, h1, h2⟩ := hlo
        cases hd
        exact ⟨lo, q, rfl, h1, h2, .inl ⟨rfl, rfl⟩⟩
      | 1, hd =>
        obtain ⟨q, h1, h2⟩ := hhi
        cases hd
        exact ⟨hi, q, rfl, h1, h2, .inr ⟨rfl, rfl⟩⟩
      | (k + 2), hd => cases hd
    obtain ⟨v, q, rfl, hq1, hq2, hv⟩ := key
    have fl : fs.length ≤ 4 := by
      rcases hv with ⟨rfl, _⟩ | ⟨rfl, _⟩
      · rw [hm]
        decide
      · obtain ⟨plo, _, e⟩ := hm
        rw [e]
        show 2 ≤ 4
        decide
    walk_at "t1"
    walk_at "dn"
    walk_at "d"
    refine eva_lc (atF v) ?_
    refine evi_list ?_
    walk_at "d"
    refine ⟨by rw [List.length_map]; omega, fun d hd => ?_, ?_⟩
    · obtain ⟨y, _, rfl⟩ := lv_mem hd
      walk_at "c2"
      dsimp only [wipeS]
      walk_at "dn"
      walk_at "d"
      refine ⟨rfl, ?_⟩
      have ha : atF v (PyData.tuple [.int y, .int (lvl ns rs y)]) = if lvl ns rs y = v then some (.int y) else none := rfl
      rw [ha]
      by_cases e : lvl ns rs y = v
      · rw [if_pos (decide_eq_true e), if_pos e]
        refine ⟨_, rfl, ?_⟩
        walk_at "d"
        exact ⟨rfl, rfl⟩
      · rw [if_neg (by rw [decide_eq_false e]; decide), if_neg e]
    rw [lv_at]
    walk_at "d"
    cases hf : ps.filter (fun y => decide (lvl ns rs y = v)) with
    | nil =>
      have : q ∈ ps.filter (fun y => decide (lvl ns rs y = v)) := List.mem_filter.mpr ⟨hq1, decide_eq_true hq2⟩
      rw [hf] at this
      cases this
    | cons y r =>
      have fst := First.of pl hf
      refine opd_ixL (d := .int y) (at_di (j := 0) rfl rfl) ?_
      walk_at "d"
      walk_at "dn"
      refine s_ext2 (k := 0) rfl rfl ?_
      refine eva_lstM ?_
      walk_at "d"
      refine ⟨(ns, y), by rw [di_len]; rfl, hs, ?_⟩
      rintro _ rfl
      walk_at "d"
      intro b
      refine ⟨1, 0, _, b, _, rfl, rfl, rfl, by show fs.length + 2 ≤ _; omega, ?_⟩
      refine at_drop 0 ?_
      walk_at "dn"
      show At _ _ _ _ _ (Btw _ _ _ _)
      refine at_btw [.dat (.list (di ns)), .dat (.list (rs.map rowD)), .dat (lvD ns rs ps), .adr p, .no, .no, .no] (by walk_at "dw") ⟨lo, hi, .no, .no, .no, _, rfl, hlo, hhi, hl, hh, rfl, rfl, ?_⟩
      rcases hv with ⟨rfl, rfl⟩ | ⟨rfl, rfl⟩
      · rw [hm]
        exact ⟨y, fst, rfl⟩
      · obtain ⟨plo, h1, e⟩ := hm
        rw [e]
        exact ⟨plo, y, h1, fst, rfl⟩
  · rintro _ _ ⟨lo, hi, z1, z2, z3, fs, hds, hlo, hhi, hl, hh, rfl, rfl, hm⟩
    cases hds
    obtain ⟨plo, phi, h1, h2, rfl⟩ := hm
    walk_at "d"
    refine cbd_tupleA (k := 0) rfl ?_
    walk_at "d"
    exact ret_dat (hq _ ⟨lo, plo, hi, phi, ⟨h1, h2, fun q hq => hl q (pl.isP.mpr hq), fun q hq => hh q (pl.isP.mpr hq)⟩, rfl⟩)
abbrev st_plan_fault : Stmt := topS 30
theorem sc_plan_fault : FnScope ["schedule", "counts", "plan", "scaled", "whole", "start", "arrivals"] ["schedule", "counts", "plan"] (defScope st_plan_fault) := ⟨rfl, rfl, rfl, by decide +kernel, rfl, by decide +kernel, by decide +kernel⟩
theorem ok_plan_fault {f : Addr} {fd : FuncData} (F : Fun K "plan_fault" "plan_fault" st_plan_fault f fd) (B : Bt mg)
    (C_arrivals_by_start : Cal Pg w K mg base 2 "arrivals_by_start" ["schedule", "plan"] (sp_arrivals_by_start K))
    (C_check_plan : Cal Pg w K mg base 5 "check_plan" ["schedule", "counts", "plan"] (sp_check_plan K))
    (C_digits : Cal Pg w K mg base 1 "digits" ["schedule", "length", "number"] (sp_digits K))
    (C_products : Cal Pg w K mg base 1 "products" ["schedule"] (sp_products K))
    (C_rounded_up : Cal Pg w K mg base 1 "rounded_up" ["numerator", "denominator"] (sp_rounded_up K))
    (C_scaled_weight : Cal Pg w K mg base 2 "scaled_weight" ["schedule", "counts"] (sp_scaled_weight K)) : FnOk Pg w K mg base CX0 6 f fd ["schedule", "counts", "plan"] (sp_plan_fault K) := by
  refine okP F sc_plan_fault (fun _ => rfl) fun cdv A outer s H Q E hr => ?_
  refine ⟨_, (pss_cons (ps_expr (pe_cal C_check_plan hr (by rfl) (pa_cons (pv 0) (pa_cons (pv 1) (pa_cons (pv 2) pa_nil)))))
    (pss_cons (ps_par (by rfl) sc_plan_fault.nd (i := 3) (j := 4) rfl rfl (by decide) rfl rfl (pa_cons (pe_cal C_scaled_weight (hr.mono (by decide)) (by rfl) (pa_cons (pv 0) (pa_cons (pv 1) pa_nil))) (pa_cons (pe_ix ix_list (pe_cal C_products (hr.mono (by decide)) (by rfl) (pa_cons (pv 0) pa_nil)) (pe_un un_neg pe_int) (fun _ _ => rfl)) pa_nil)) (by rfl))
    (pss_cons (ps_for PassesOwn.never rfl (pi_list (pe_cal C_arrivals_by_start (hr.mono (by decide)) (by rfl) (pa_cons (pv 0) (pa_cons (pv 2) pa_nil)))) (pg_tup (by rfl) (pgs_cons (pg_name (i := 5) sc_plan_fault.nd rfl (by first | exact Or.inl rfl | exact Or.inr rfl)) (pgs_cons (pg_name (i := 6) sc_plan_fault.nd rfl (by first | exact Or.inl rfl | exact Or.inr rfl)) pgs_nil)))
    (pss_one (ps_if (pt_not (pt_chain op_le op_le (pe_op op_fdivW (pv 3) (pv 4)) (pv 6) (pe_cal C_rounded_up (hr.mono (by decide)) (by rfl) (pa_cons (pv 3) (pa_cons (pv 4) pa_nil))))) (pss_one (ps_ret (pe_tup (pa_cons (pe_cal C_digits (hr.mono (by decide)) (by rfl) (pa_cons (pv 0) (pa_cons (pe_callB dc_len (by rfl) B.len PySem.boot_len (pa_cons (pv 0) pa_nil)) (pa_cons (pv 5) pa_nil)))) (pa_cons (pv 6) pa_nil))))) pss_nil)))
    (pss_one (ps_ret pe_non))))), fun S x hp hq => ?_⟩
  try dsimp only [cxOf]
  obtain ⟨ns, rs⟩ := x
  obtain ⟨hs, ho⟩ := hp
  dsimp only at hs ho
  have hrl := ho.1
  have hW := hs.pos ns.length
  walk_at "dn"
  walk_at "d"
  refine ⟨(ns, rs), rfl, ⟨hs, ho⟩, ?_⟩
  rintro _ rfl
  walk_at "d"
  refine ⟨(ns, amounts ns rs), rfl, ⟨hs, amounts_counts hs ho, amounts_len ns rs⟩, ?_⟩
  rintro _ rfl
  walk_at "d"
  refine ⟨hs, ?_⟩
  rintro _ rfl
  walk_at "d"
  refine opd_ixL (d := .int (pd ns ns.length)) (at_lastI (pd ns) ns.length) ?_
  walk_at "d"
  walk_at "dn"
  refine q_for (fun ds i M ρ => ∃ ps, IsPlaces ns rs ps ∧ ds = (ps.map fun p => .tuple [.int p, .int (lvl ns rs p)]) ∧ M = [] ∧ (∀ q ∈ ps.take i, bad ns rs q = false) ∧
    ρ = [.dat (.list (di ns)), .dat (.tuple (di (amounts ns rs))), .dat (.list (rs.map rowD)), .dat (.int (scaled ns (amounts ns rs))), .dat (.int (pd ns ns.length)), .no, .no]) ?_
  refine evi_list ?_
  walk_at "d"
  refine ⟨(ns, rs), rfl, ⟨hs, ho⟩, ?_⟩
  rintro _ ⟨ps, pl, rfl⟩
  dsimp only at pl
  dsimp only
  walk_at "d"
  refine ⟨⟨ps, pl, rfl, rfl, by simp, rfl⟩, ?_, ?_⟩
  · rintro i d _ _ hd ⟨qs, ql, e, rfl, hb, rfl⟩
    cases pl.uniq ql
    obtain ⟨y, hy, rfl⟩ := lv_get hd
    walk_at "t2"
    walk_at "dn"
    walk_at "d"
    refine opd_divW (cdiv (by omega) hs.big) ?_
    walk_at "d"
    have retB : bad ns rs y = true → fltD ns rs ps = .tuple [.tuple (di (word ns ns.length y)), .int (lvl ns rs y)] := fun hbad => by
      unfold fltD
      rw [find_first hy hb hbad]
    have nextB : bad ns rs y = false → ∀ q ∈ ps.take (i + 1), bad ns rs q = false := fun hg q hq => by
      rw [List.take_add_one, hy] at hq
      rcases List.mem_append.mp hq with z | z
      · exact hb q z
      · rw [show q = y by simpa using z]
        exact hg
    refine ⟨fun h1 => ?_, fun h1 => ?_⟩
    · walk_at "d"
      refine ⟨(scaled ns (amounts ns rs), pd ns ns.length), rfl, ⟨by show 0 < pd ns ns.length; omega, hs.big⟩, ?_⟩
      rintro _ rfl
      walk_at "d"
      refine ⟨fun h2 => ?_, fun h2 => ?_⟩
      · walk_at "d"
        refine ⟨(ns, y), by rw [di_len]; rfl, hs, ?_⟩
        rintro _ rfl
        walk_at "d"
        refine Ret.raise (H0 := H) (ret_dat (hq _ ⟨ps, pl, (retB ?_).symm⟩)) (by assumption)
        unfold bad
        rw [h1, Bool.true_and]
        exact h2
      · walk_at "d"
        refine at_btw [.dat (.list (di ns)), .dat (.tuple (di (amounts ns rs))), .dat (.list (rs.map rowD)), .dat (.int (scaled ns (amounts ns rs))), .dat (.int (pd ns ns.length)), .no, .no] (by walk_at "dw") ⟨ps, pl, rfl, rfl, nextB ?_, rfl⟩
        unfold bad
        rw [h1, Bool.true_and]
        exact h2
    · walk_at "d"
      refine ⟨(ns, y), by rw [di_len]; rfl, hs, ?_⟩
      rintro _ rfl
      walk_at "d"
      refine Ret.raise (H0 := H) (ret_dat (hq _ ⟨ps, pl, (retB ?_).symm⟩)) (by assumption)
      unfold bad
      rw [h1, Bool.false_and]
      rfl
  · rintro _ _ ⟨qs, ql, e, rfl, hb, rfl⟩
    cases pl.uniq ql
    rw [List.length_map, List.take_length] at hb
    walk_at "d"
    refine ret_dat (hq _ ⟨ps, pl, ?_⟩)
    unfold fltD
    rw [List.find?_eq_none.mpr fun q hq => by rw [hb q hq]; decide]
end
end D
namespace D
open M
theorem p2big : (9223372036854775808 : Int) < P2 700 := by decide +kernel
theorem ibit (b : Bool) : -(2 ^ 64) < (if b = true then (1 : Int) else 0) ∧ (if b = true then (1 : Int) else 0) < 2 ^ 64 := by cases b <;> decide
theorem p2most : most < P2 700 ∧ (most : Int) < P2 710 := by decide +kernel
section
variable {Pg : Program} {w : World} {K : PySem.W.Frag} {mg : Str → Option Value} {base : Heap}
abbrev st__law_mix : Stmt := topS 37
theorem sc__law_mix : FnScope ["_law_cell", "_law_turn", "_law_low"] ["_law_cell", "_law_turn"] (defScope st__law_mix) := ⟨rfl, rfl, rfl, by decide +kernel, rfl, by decide +kernel, by decide +kernel⟩
theorem ok__law_mix {f : Addr} {fd : FuncData} (F : Fun K "_law_mix" "_law_mix" st__law_mix f fd) (B : Bt mg) : FnOk Pg w K mg base CX0 1 f fd ["_law_cell", "_law_turn"] (sp__law_mix K) := by
  refine okP F sc__law_mix (fun _ => rfl) fun cdv A outer s H Q E hr => ?_
  refine ⟨_, (pss_cons (ps_set (i := 2) sc__law_mix.nd rfl (Or.inl rfl) (pe_op op_add (pe_op op_mod (pv 0) pe_int) (pe_op op_mul (pe_op op_mod (pe_op op_fdivW (pv 0) pe_int) pe_int) pe_int)))
    (pss_cons (ps_set (i := 2) sc__law_mix.nd rfl (Or.inl rfl) (pe_op op_mod (pe_op op_mul (pe_op op_add (pe_op op_add (pv 2) (pe_op op_mul pe_int (pv 1))) pe_int) pe_int) pe_int))
    (pss_cons (ps_set (i := 2) sc__law_mix.nd rfl (Or.inl rfl) (pe_op op_mod (pe_op op_mul (pv 2) (pe_op op_add (pe_op op_add (pe_op op_fdivW (pv 2) pe_int) pe_int) (pv 1))) pe_int))
    (pss_one (ps_ret (pe_op op_mod (pe_op op_mul (pv 2) (pe_op op_add (pe_op op_fdivW (pv 2) pe_int) pe_int)) pe_int)))))), fun S x hp hq => ?_⟩
  try dsimp only [cxOf]
  obtain ⟨c, t⟩ := x
  have big := p2big
  walk_at "dn"
  walk_at "d"
  refine opd_divW (cdiv (j := 2147483647) (b := 700) (by omega) (by omega)) ?_
  walk_at "d"
  walk_at "dn"
  walk_at "d"
  walk_at "dn"
  walk_at "d"
  refine opd_divW (cdiv (j := 1009) (b := 700) (by omega) (by omega)) ?_
  walk_at "d"
  walk_at "dn"
  walk_at "d"
  refine opd_divW (cdiv (j := 2003) (b := 700) (by omega) (by omega)) ?_
  walk_at "d"
  exact ret_dat (hq _ ⟨_, rfl⟩)
abbrev st__law_source : Stmt := topS 38
theorem sc__law_source : FnScope ["_law_cell"] ["_law_cell"] (defScope st__law_source) := ⟨rfl, rfl, rfl, by decide +kernel, rfl, by decide +kernel, by decide +kernel⟩
theorem ok__law_source {f : Addr} {fd : FuncData} (F : Fun K "_law_source" "_law_source" st__law_source f fd) (B : Bt mg) : FnOk Pg w K mg base CX0 1 f fd ["_law_cell"] (sp__law_source K) := by
  refine okN F sc__law_source (fun _ => rfl) fun cdv A outer s H Q E hr => ?_
  refine ⟨_, (pss_one (ps_ret (pe_lst (pa_cons (pe_op op_mul (pe_callB dc_abs (by rfl) B.abs PyProof.Rows.boot_abs (pa_cons (pv 0) pa_nil)) (pe_callTy dc_int1 (by rfl) B.int PyProof.Rows.boot_int (pa_cons (pe_cmpR op_ge (pe_callB dc_abs (by rfl) B.abs PyProof.Rows.boot_abs (pa_cons (pv 0) pa_nil)) (pe_op op_pow pe_int pe_int) (nomark _)) pa_nil))) (pa_cons (pe_callB dc_abs (by rfl) B.abs PyProof.Rows.boot_abs (pa_cons (pv 0) pa_nil)) (pa_cons pe_int pa_nil)))))), fun S x hp hq => ?_⟩
  try dsimp only [cxOf]
  walk_at "dn"
  walk_at "d"
  refine eva_lstM ?_
  walk_at "d"
  refine opd_pow (by unfold CPow; decide) ?_
  walk_at "d"
  intro p
  exact hq (_, _, _) trivial _ _ p _ rfl rfl
abbrev st__law_draw : Stmt := topS 39
theorem sc__law_draw : FnScope ["_law_source_here", "_law_limit", "_law_digit"] ["_law_source_here", "_law_limit"] (defScope st__law_draw) := ⟨rfl, rfl, rfl, by decide +kernel, rfl, by decide +kernel, by decide +kernel⟩
theorem ok__law_draw {f : Addr} {fd : FuncData} (F : Fun K "_law_draw" "_law_draw" st__law_draw f fd) (B : Bt mg)
    (C__law_mix : Cal Pg w K mg base 1 "_law_mix" ["_law_cell", "_law_turn"] (sp__law_mix K)) : FnOk Pg w K mg base CX0 2 f fd ["_law_source_here", "_law_limit"] (sp__law_draw K) := by
  refine okS F sc__law_draw (fun _ => rfl) fun cdv A outer s H Q E hr => ?_
  refine ⟨_, (pss_cons (ps_if (pt_cmpR op_gt (pe_ix ix_list (pv 0) pe_int (fun _ _ => rfl)) pe_int (nomark _)) (pss_cons (ps_set (i := 2) sc__law_draw.nd rfl (Or.inl rfl) (pe_op op_mod (pe_ix ix_list (pv 0) pe_int (fun _ _ => rfl)) (pv 1)))
    (pss_cons (ps_asg (pe_op op_fdivW (pe_ix ix_list (pv 0) pe_int (fun _ _ => rfl)) (pv 1)) (pg_sub (pv 0) pe_int set_list))
    (pss_one (ps_ret (pv 2))))) pss_nil)
    (pss_cons (ps_asg (pe_op op_add (pe_ix ix_list (pv 0) pe_int (fun _ _ => rfl)) pe_int) (pg_sub (pv 0) pe_int set_list))
    (pss_one (ps_ret (pe_op op_mod (pe_cal C__law_mix hr (by rfl) (pa_cons (pe_ix ix_list (pv 0) pe_int (fun _ _ => rfl)) (pa_cons (pe_ix ix_list (pv 0) pe_int (fun _ _ => rfl)) pa_nil))) (pv 1)))))), fun S a sr x hp hq => ?_⟩
  try dsimp only [cxOf]
  obtain ⟨s1, s2, s3⟩ := sr
  have h0 := hp.1
  walk_at "dn"
  walk_at "d"
  refine opd_ixA (k := 0) (d := .int s1) rfl rfl ?_
  walk_at "d"
  refine ⟨fun h => ?_, fun h => ?_⟩
  · walk_at "d"
    refine opd_ixA (k := 0) (d := .int s1) rfl rfl ?_
    walk_at "d"
    walk_at "dn"
    refine q_setL (k := 0) rfl ?_
    walk_at "d"
    refine opd_ixA (k := 0) (d := .int s1) rfl rfl ?_
    walk_at "d"
    refine opd_divW (cdiv h0 hp.2) ?_
    walk_at "d"
    refine ⟨_, _, 0, rfl, rfl, rfl, show 0 < 3 by decide, ?_⟩
    walk_at "d"
    exact hq _ (s1 / x, s2, s3) ⟨_, rfl, Int.emod_nonneg _ (by omega), Int.emod_lt_of_pos _ h0⟩ _ _ _ rfl rfl
  · walk_at "d"
    refine q_setL (k := 0) rfl ?_
    walk_at "d"
    refine opd_ixA (k := 0) (d := .int s3) rfl rfl ?_
    walk_at "d"
    refine ⟨_, _, 2, rfl, rfl, rfl, show 2 < 3 by decide, ?_⟩
    walk_at "dn"
    walk_at "d"
    refine opd_ixA (k := 0) (d := .int s2) rfl rfl ?_
    walk_at "d"
    refine opd_ixA (k := 0) (d := .int (s3 + 1)) rfl rfl ?_
    walk_at "d"
    refine ⟨(s2, s3 + 1), rfl, trivial, ?_⟩
    rintro _ ⟨r, rfl⟩
    walk_at "d"
    exact hq _ (s1, s2, s3 + 1) ⟨_, rfl, Int.emod_nonneg _ (by omega), Int.emod_lt_of_pos _ h0⟩ _ _ _ rfl rfl
abbrev st__law_sizes : Stmt := topS 40
theorem sc__law_sizes : FnScope ["_law_rounds", "_law_found", "_law_entry"] ["_law_rounds"] (defScope st__law_sizes) := ⟨rfl, rfl, rfl, by decide +kernel, rfl, by decide +kernel, by decide +kernel⟩
theorem ok__law_sizes {f : Addr} {fd : FuncData} (F : Fun K "_law_sizes" "_law_sizes" st__law_sizes f fd) (B : Bt mg) : FnOk Pg w K mg base CX0 1 f fd ["_law_rounds"] (sp__law_sizes K) := by
  refine okP F sc__law_sizes (fun _ => rfl) fun cdv A outer s H Q E hr => ?_
  refine ⟨_, (pss_cons (ps_set (i := 1) sc__law_sizes.nd rfl (Or.inl rfl) (pe_lst (pa_cons pe_int pa_nil)))
    (pss_cons (ps_for PassesOwn.never rfl (pi_list (pv 0)) (pg_name (i := 2) sc__law_sizes.nd rfl (by first | exact Or.inl rfl | exact Or.inr rfl))
    (pss_one (ps_expr (pe_bm PySem.F.plainAttrs_list PySem.F.slot_list_append PySem.F.type_list_append mt_append (pv 1) (pa_cons (pe_op op_mulW (pe_ix ix_list (pv 1) (pe_un un_neg pe_int) (fun _ _ => rfl)) (pv 2)) pa_nil)))))
    (pss_one (ps_ret (pv 1))))), fun S x hp hq => ?_⟩
  try dsimp only [cxOf]
  revert hp hq
  revert x
  intro ns hs hq
  walk_at "dn"
  walk_at "d"
  refine eva_lstM ?_
  walk_at "d"
  intro p
  walk_at "dn"
  refine q_for (fun ds i M ρ => M = [(p, .lst (di ((List.range (i + 1)).map (pd ns))))] ∧ ρ = [.dat (.list (di ns)), .adr p, .no]) ?_
  refine evi_list ?_
  walk_at "d"
  refine ⟨⟨rfl, rfl⟩, ?_, ?_⟩
  · rintro i d _ _ hd ⟨rfl, rfl⟩
    obtain ⟨x, hx, rfl⟩ := di_get hd
    have hi : i < ns.length := (List.getElem?_eq_some_iff.mp hx).1
    have hl := hs.len
    walk_at "t1"
    walk_at "dn"
    walk_at "d"
    refine opd_ixA (k := 0) rfl (at_lastI _ _) ?_
    walk_at "d"
    refine opd_mulW (cmul (a := 700) (b := 700) (Int.le_of_lt (hs.pos i)) (hs.lt (Nat.le_of_lt hi)) (by have := (hs.entry hx).1; omega) (hs.entry hx).2) ?_
    refine ⟨_, _, rfl, rfl, by rw [di_len, List.length_map, List.length_range]; omega, ?_⟩
    refine at_btw [.dat (.list (di ns)), .adr p, .no] (by walk_at "dw") ⟨?_, rfl⟩
    rw [← range_snoc, ← di_app, pd_succ hx]
    rfl
  · rintro _ _ ⟨rfl, rfl⟩
    rw [di_len]
    walk_at "d"
    exact ret_adr (k := 0) rfl (hq _ rfl)
abbrev st__law_wide : Stmt := topS 41
theorem sc__law_wide : FnScope ["_law_source_here", "_law_found", "_law_index"] ["_law_source_here"] (defScope st__law_wide) := ⟨rfl, rfl, rfl, by decide +kernel, rfl, by decide +kernel, by decide +kernel⟩
theorem ok__law_wide {f : Addr} {fd : FuncData} (F : Fun K "_law_wide" "_law_wide" st__law_wide f fd) (B : Bt mg)
    (C__law_draw : Cal Pg w K mg base 2 "_law_draw" ["_law_source_here", "_law_limit"] (sp__law_draw K)) : FnOk Pg w K mg base CX0 3 f fd ["_law_source_here"] (sp__law_wide K) := by
  refine okS F sc__law_wide (fun _ => rfl) fun cdv A outer s H Q E hr => ?_
  refine ⟨_, (pss_cons (ps_set (i := 1) sc__law_wide.nd rfl (Or.inl rfl) (pe_lst pa_nil))
    (pss_cons (ps_for PassesOwn.never rfl (pi_range1 (by rfl) B.range (pa_cons (pe_cal C__law_draw hr (by rfl) (pa_cons (pv 0) (pa_cons pe_int pa_nil))) pa_nil)) (pg_name (i := 2) sc__law_wide.nd rfl (by first | exact Or.inl rfl | exact Or.inr rfl))
    (pss_one (ps_expr (pe_bm PySem.F.plainAttrs_list PySem.F.slot_list_append PySem.F.type_list_append mt_append (pv 1) (pa_cons (pe_op op_add pe_int (pe_cal C__law_draw hr (by rfl) (pa_cons (pv 0) (pa_cons (pe_ix ix_list (pe_lst (pa_cons pe_int (pa_cons pe_int (pa_cons pe_int (pa_cons (pe_op op_pow pe_int pe_int) (pa_cons (pe_op op_pow pe_int pe_int) pa_nil)))))) (pe_cal C__law_draw hr (by rfl) (pa_cons (pv 0) (pa_cons pe_int pa_nil))) (fun _ _ => rfl)) pa_nil)))) pa_nil)))))
    (pss_one (ps_ret (pv 1))))), fun S a sr x hp hq => ?_⟩
  try dsimp only [cxOf]
  have big := p2big
  walk_at "dn"
  walk_at "d"
  refine eva_lstM ?_
  walk_at "d"
  intro p
  walk_at "dn"
  refine q_for (fun ds i M ρ => ∃ ns s z, M = [(p, .lst (di ns)), (a, .lst (srcD s))] ∧ ρ = [.adr a, .adr p, z] ∧ ns.length = i ∧ ds.length ≤ 12 ∧ ∀ n ∈ ns, 2 ≤ n ∧ n < P2 50) ?_
  refine evi_range1 ?_
  walk_at "d"
  refine eva_callS ?_
  walk_at "d"
  refine ⟨1, a, _, _, 13, rfl, rfl, rfl, ⟨by decide, by omega⟩, ?_⟩
  rintro _ s' ⟨r, rfl, r0, r1⟩
  walk_at "d"
  refine ⟨r0, by omega, ?_⟩
  walk_at "dn"
  refine ⟨⟨[], _, .no, rfl, rfl, rfl, by rw [rngD_len]; omega, fun n hn => by cases hn⟩, ?_, ?_⟩
  · rintro i d _ _ hd ⟨ns, sr, z, rfl, rfl, hi, hl, hn⟩
    have hil : i < (rngD 0 1 r.toNat).length := (List.getElem?_eq_some_iff.mp hd).1
    obtain ⟨_, rfl⟩ := rngD_get hd
    walk_at "t1"
    walk_at "dn"
    walk_at "d"
    refine eva_callS ?_
    walk_at "d"
    refine eva_lst ?_
    walk_at "d"
    refine opd_pow (by unfold CPow; decide) ?_
    walk_at "d"
    refine opd_pow (by unfold CPow; decide) ?_
    walk_at "d"
    refine eva_callS ?_
    walk_at "d"
    refine ⟨1, a, _, _, 5, rfl, rfl, rfl, ⟨by decide, by omega⟩, ?_⟩
    rintro _ s2 ⟨q, rfl, q0, q1⟩
    walk_at "dn"
    have lim : ∃ l : Int, atI [PyData.int 1, .int 3, .int 9, .int (10 ^ (6 : Int).toNat), .int (10 ^ (15 : Int).toNat)] q = some (.int l) ∧ 0 < l ∧ l ≤ 10 ^ 15 := by
      have : q = 0 ∨ q = 1 ∨ q = 2 ∨ q = 3 ∨ q = 4 := by omega
      rcases this with h | h | h | h | h <;> subst h
      · exact ⟨_, rfl, by decide, by decide⟩
      · exact ⟨_, rfl, by decide, by decide⟩
      · exact ⟨_, rfl, by decide, by decide⟩
      · exact ⟨_, rfl, by decide, by decide⟩
      · exact ⟨_, rfl, by decide, by decide⟩
    obtain ⟨l, la, l0, l1⟩ := lim
    refine opd_ixL la ?_
    walk_at "d"
    refine ⟨1, a, _, _, l, rfl, rfl, rfl, ⟨l0, by omega⟩, ?_⟩
    rintro _ s3 ⟨v, rfl, v0, v1⟩
    walk_at "dn"
    walk_at "d"
    refine ⟨_, _, rfl, rfl, by rw [di_len]; omega, ?_⟩
    walk_at "dn"
    refine at_btw [.adr a, .adr p, .no] (by walk_at "dw") ⟨ns ++ [2 + v], s3, .no, ?_, rfl, by rw [List.length_append, hi]; rfl, hl, fun n m => ?_⟩
    · rw [← di_app]
      rfl
    · rcases List.mem_append.mp m with z | z
      · exact hn n z
      · rw [List.mem_singleton.mp z]
        have p50 : (1000000000000002 : Int) < P2 50 := by decide +kernel
        omega
  · rintro _ _ ⟨ns, sr, z, rfl, rfl, hi, hl, hn⟩
    refine at_freeze 0 1 rfl rfl ?_
    walk_at "dn"
    walk_at "d"
    exact hq _ sr ⟨ns, rfl, sched_of (by omega) hn⟩ _ _ _ rfl rfl
abbrev st__law_plan : Stmt := topS 42
theorem sc__law_plan : FnScope ["_law_source_here", "_law_rounds", "_law_rows", "_law_most", "_law_sizes_so", "_law_found", "_law_index", "_law_span", "_law_size", "_law_first", "_law_amount"] ["_law_source_here", "_law_rounds", "_law_rows", "_law_most"] (defScope st__law_plan) := ⟨rfl, rfl, rfl, by decide +kernel, rfl, by decide +kernel, by decide +kernel⟩
theorem ok__law_plan {f : Addr} {fd : FuncData} (F : Fun K "_law_plan" "_law_plan" st__law_plan f fd) (B : Bt mg)
    (C__law_draw : Cal Pg w K mg base 2 "_law_draw" ["_law_source_here", "_law_limit"] (sp__law_draw K))
    (C__law_sizes : Cal Pg w K mg base 1 "_law_sizes" ["_law_rounds"] (sp__law_sizes K)) : FnOk Pg w K mg base CX0 3 f fd ["_law_source_here", "_law_rounds", "_law_rows", "_law_most"] (sp__law_plan K) := by
  refine okS F sc__law_plan (fun _ => rfl) fun cdv A outer s H Q E hr => ?_
  refine ⟨_, (pss_cons (ps_set (i := 4) sc__law_plan.nd rfl (Or.inl rfl) (pe_cal C__law_sizes (hr.mono (by decide)) (by rfl) (pa_cons (pv 1) pa_nil)))
    (pss_cons (ps_set (i := 5) sc__law_plan.nd rfl (Or.inl rfl) (pe_lst pa_nil))
    (pss_cons (ps_for PassesOwn.never rfl (pi_range1 (by rfl) B.range (pa_cons (pe_op op_mulW (pv 2) (pe_callTy dc_int1 (by rfl) B.int PyProof.Rows.boot_int (pa_cons (pe_cmpR (op_neD hr.units) (pv 1) (pe_lst pa_nil) (nomark _)) pa_nil))) pa_nil)) (pg_name (i := 6) sc__law_plan.nd rfl (by first | exact Or.inl rfl | exact Or.inr rfl))
    (pss_cons (ps_set (i := 7) sc__law_plan.nd rfl (Or.inl rfl) (pe_op op_add pe_int (pe_cal C__law_draw hr (by rfl) (pa_cons (pv 0) (pa_cons (pe_callB dc_len (by rfl) B.len PySem.boot_len (pa_cons (pv 1) pa_nil)) pa_nil)))))
    (pss_cons (ps_set (i := 8) sc__law_plan.nd rfl (Or.inl rfl) (pe_ix ix_list (pv 4) (pv 7) (fun _ _ => rfl)))
    (pss_cons (ps_set (i := 9) sc__law_plan.nd rfl (Or.inl rfl) (pe_ix ix_list (pe_lst (pa_cons pe_int (pa_cons (pe_op op_sub (pv 8) pe_int) (pa_cons (pe_cal C__law_draw hr (by rfl) (pa_cons (pv 0) (pa_cons (pv 8) pa_nil))) pa_nil)))) (pe_cal C__law_draw hr (by rfl) (pa_cons (pv 0) (pa_cons pe_int pa_nil))) (fun _ _ => rfl)))
    (pss_cons (ps_set (i := 10) sc__law_plan.nd rfl (Or.inl rfl) (pe_ix ix_list (pe_lst (pa_cons pe_int (pa_cons (pv 8) (pa_cons (pe_op op_add pe_int (pe_cal C__law_draw hr (by rfl) (pa_cons (pv 0) (pa_cons (pv 3) pa_nil)))) (pa_cons (pe_op op_add pe_int (pe_cal C__law_draw hr (by rfl) (pa_cons (pv 0) (pa_cons (pv 8) pa_nil)))) pa_nil))))) (pe_cal C__law_draw hr (by rfl) (pa_cons (pv 0) (pa_cons pe_int pa_nil))) (fun _ _ => rfl)))
    (pss_one (ps_expr (pe_bm PySem.F.plainAttrs_list PySem.F.slot_list_append PySem.F.type_list_append mt_append (pv 5) (pa_cons (pe_tup (pa_cons (pv 7) (pa_cons (pv 9) (pa_cons (pe_callB (dc_min2 rfl) (by rfl) B.min PyProof.Rows.boot_min (pa_cons (pv 10) (pa_cons (pv 3) pa_nil))) pa_nil)))) pa_nil)))))))))
    (pss_one (ps_ret (pv 5)))))), fun S a sr x hp hq => ?_⟩
  try dsimp only [cxOf]
  obtain ⟨ns, rows⟩ := x
  obtain ⟨hs, hr0, hr8⟩ := hp
  dsimp only at hs hr0 hr8
  have big := p2big
  have pm := p2most
  have hlen := hs.len
  walk_at "dn"
  walk_at "d"
  refine ⟨hs, ?_⟩
  rintro _ rfl
  walk_at "d"
  refine eva_lstM ?_
  walk_at "d"
  intro p
  walk_at "dn"
  refine q_for (fun ds i M ρ => ∃ (rs : List _root_.M.Row), ∃ s z1 z2 z3 z4 z5, M = [(p, .lst (rs.map rowD)), (a, .lst (srcD s))] ∧ ρ = [.adr a, .dat (.list (di ns)), .dat (.int rows), .dat (.int most), .dat (.list (di (sizes ns))), .adr p, z1, z2, z3, z4, z5] ∧ rs.length = i ∧ ds.length ≤ 8 ∧ (ns = [] → ds = []) ∧ ∀ r ∈ rs, RowOk ns r) ?_
  refine evi_range1 ?_
  walk_at "d"
  refine eva_lst ?_
  walk_at "d"
  refine opd_neD (shp_list (lay_ints ns)) (shp_list lay_nil) ?_
  walk_at "d"
  have eb : ∃ b : Bool, (!PyData.eqv (.list (di ns)) (.list [])) = b ∧ (ns = [] → b = false) := by
    cases ns with
    | nil => exact ⟨_, rfl, fun _ => rfl⟩
    | cons x xs => exact ⟨_, rfl, fun z => by cases z⟩
  obtain ⟨b, eb, enil⟩ := eb
  rw [eb]
  have ib : (if b = true then (1 : Int) else 0) = 0 ∧ b = false ∨ (if b = true then (1 : Int) else 0) = 1 := by
    cases b
    · exact .inl ⟨rfl, rfl⟩
    · exact .inr rfl
  refine opd_mulW (cmul (a := 700) (b := 700) hr0 (by omega) (by split <;> decide) (by split <;> omega)) ?_
  walk_at "d"
  refine ⟨by rcases ib with ⟨h, _⟩ | h <;> rw [h] <;> omega, by rcases ib with ⟨h, _⟩ | h <;> rw [h] <;> omega, ?_⟩
  refine ⟨⟨[], sr, .no, .no, .no, .no, .no, rfl, rfl, rfl, by rw [rngD_len]; rcases ib with ⟨h, _⟩ | h <;> rw [h] <;> omega, fun e => ?_, fun r hr => by cases hr⟩, ?_, ?_⟩
  · rw [enil e]
    have h0 : (rows * (if false = true then (1 : Int) else 0)).toNat = 0 := by
      rw [if_neg (by decide), Int.mul_zero]
      rfl
    rw [h0]
    rfl
  · rintro i d _ _ hd ⟨rs, sr, z1, z2, z3, z4, z5, rfl, rfl, hi, hl, hn, hro⟩
    have hil : i < (rngD 0 1 (rows * if b = true then (1 : Int) else 0).toNat).length := (List.getElem?_eq_some_iff.mp hd).1
    have nl : 0 < ns.length := by
      rcases Nat.eq_zero_or_pos ns.length with e | e
      · have := hn (List.eq_nil_of_length_eq_zero e)
        rw [this] at hil
        cases hil
      · exact e
    obtain ⟨_, rfl⟩ := rngD_get hd
    walk_at "t1"
    walk_at "dn"
    walk_at "d"
    refine eva_callS ?_
    walk_at "d"
    refine ⟨1, a, _, _, ns.length, rfl, by rw [di_len]; rfl, rfl, ⟨by omega, by omega⟩, ?_⟩
    rintro _ s2 ⟨q, rfl, q0, q1⟩
    walk_at "dn"
    walk_at "d"
    walk_at "dn"
    walk_at "d"
    obtain ⟨dd, hdd⟩ := Int.eq_ofNat_of_zero_le (show 0 ≤ 1 + q by omega)
    have d1 : 1 ≤ dd := by omega
    have dn : dd ≤ ns.length := by omega
    have z0 := hs.pos dd
    have zl := hs.lt dn
    refine opd_ixL (at_di (sizes_get dn) hdd) ?_
    walk_at "d"
    walk_at "dn"
    walk_at "d"
    refine eva_lst ?_
    walk_at "d"
    refine eva_callS ?_
    walk_at "d"
    refine ⟨1, a, _, _, pd ns dd, rfl, rfl, rfl, ⟨by omega, zl⟩, ?_⟩
    rintro _ s3 ⟨v, rfl, v0, v1⟩
    walk_at "dn"
    walk_at "d"
    refine eva_callS ?_
    walk_at "d"
    refine ⟨1, a, _, _, 3, rfl, rfl, rfl, ⟨by decide, by omega⟩, ?_⟩
    rintro _ s4 ⟨t, rfl, t0, t1⟩
    walk_at "dn"
    have fst : ∃ l : Int, atI [PyData.int 0, .int (pd ns dd - 1), .int v] t = some (.int l) ∧ 0 ≤ l ∧ l < pd ns dd := by
      have : t = 0 ∨ t = 1 ∨ t = 2 := by omega
      rcases this with h | h | h <;> subst h
      · exact ⟨_, rfl, by decide, by omega⟩
      · exact ⟨_, rfl, by omega, by omega⟩
      · exact ⟨_, rfl, v0, v1⟩
    obtain ⟨fi, fa, f0, f1⟩ := fst
    refine opd_ixL fa ?_
    walk_at "d"
    walk_at "dn"
    walk_at "d"
    refine eva_lst ?_
    walk_at "d"
    refine eva_callS ?_
    walk_at "d"
    refine ⟨1, a, _, _, most, rfl, rfl, rfl, ⟨by decide, pm.1⟩, ?_⟩
    rintro _ s5 ⟨v2, rfl, v20, v21⟩
    walk_at "dn"
    walk_at "d"
    refine eva_callS ?_
    walk_at "d"
    refine ⟨1, a, _, _, pd ns dd, rfl, rfl, rfl, ⟨by omega, zl⟩, ?_⟩
    rintro _ s6 ⟨v3, rfl, v30, v31⟩
    walk_at "dn"
    walk_at "d"
    refine eva_callS ?_
    walk_at "d"
    refine ⟨1, a, _, _, 4, rfl, rfl, rfl, ⟨by decide, by omega⟩, ?_⟩
    rintro _ s7 ⟨t2, rfl, t20, t21⟩
    walk_at "dn"
    have am : ∃ l : Int, atI [PyData.int 1, .int (pd ns dd), .int (1 + v2), .int (1 + v3)] t2 = some (.int l) ∧ 1 ≤ l := by
      have : t2 = 0 ∨ t2 = 1 ∨ t2 = 2 ∨ t2 = 3 := by omega
      rcases this with h | h | h | h <;> subst h
      · exact ⟨_, rfl, by decide⟩
      · exact ⟨_, rfl, z0⟩
      · exact ⟨_, rfl, by omega⟩
      · exact ⟨_, rfl, by omega⟩
    obtain ⟨ai, aa, a0⟩ := am
    refine opd_ixL aa ?_
    walk_at "d"
    walk_at "dn"
    walk_at "d"
    refine ⟨_, _, rfl, rfl, by rw [List.length_map]; omega, ?_⟩
    walk_at "dn"
    have mi : ∃ c : Int, (if most < ai then most else ai) = c ∧ 1 ≤ c ∧ c ≤ most := by
      refine ⟨_, rfl, ?_, ?_⟩
      · split
        · decide
        · exact a0
      · split <;> omega
    obtain ⟨c, ce, c1, c2⟩ := mi
    refine at_btw [.adr a, .dat (.list (di ns)), .dat (.int rows), .dat (.int most), .dat (.list (di (sizes ns))), .adr p, .no, .no, .no, .no, .no] (by walk_at "dw") ⟨rs ++ [⟨dd, fi, c⟩], s7, .no, .no, .no, .no, .no, ?_, rfl, by rw [List.length_append, hi]; rfl, hl, hn, fun r m => ?_⟩
    · rw [ce, hdd, List.map_append]
      rfl
    · rcases List.mem_append.mp m with z | z
      · exact hro r z
      · rw [List.mem_singleton.mp z]
        exact ⟨d1, dn, f0, f1, c1, by show c < _; omega⟩
  · rintro _ _ ⟨rs, sr, z1, z2, z3, z4, z5, rfl, rfl, hi, hl, hn, hro⟩
    refine at_freeze 0 5 rfl rfl ?_
    walk_at "dn"
    walk_at "d"
    exact hq _ sr ⟨rs, rfl, ⟨by omega, hro⟩, by omega⟩ _ _ _ rfl rfl
abbrev st__law_word : Stmt := topS 43
theorem sc__law_word : FnScope ["_law_rounds", "_law_span", "_law_code", "_law_found", "_law_index"] ["_law_rounds", "_law_span", "_law_code"] (defScope st__law_word) := ⟨rfl, rfl, rfl, by decide +kernel, rfl, by decide +kernel, by decide +kernel⟩
theorem ok__law_word {f : Addr} {fd : FuncData} (F : Fun K "_law_word" "_law_word" st__law_word f fd) (B : Bt mg) : FnOk Pg w K mg base CX0 1 f fd ["_law_rounds", "_law_span", "_law_code"] (sp__law_word K) := by
  refine okP F sc__law_word (fun _ => rfl) fun cdv A outer s H Q E hr => ?_
  refine ⟨_, (pss_cons (ps_set (i := 3) sc__law_word.nd rfl (Or.inl rfl) (pe_lst pa_nil))
    (pss_cons (ps_for PassesOwn.never rfl (pi_range3 (by rfl) B.range (pa_cons (pe_op op_sub (pv 1) pe_int) (pa_cons (pe_un un_neg pe_int) (pa_cons (pe_un un_neg pe_int) pa_nil)))) (pg_name (i := 4) sc__law_word.nd rfl (by first | exact Or.inl rfl | exact Or.inr rfl))
    (pss_cons (ps_set (i := 3) sc__law_word.nd rfl (Or.inl rfl) (pe_op op_catL (pe_lst (pa_cons (pe_op op_mod (pv 2) (pe_ix ix_list (pv 0) (pv 4) (fun _ _ => rfl))) pa_nil)) (pv 3)))
    (pss_one (ps_set (i := 2) sc__law_word.nd rfl (Or.inl rfl) (pe_op op_fdivW (pv 2) (pe_ix ix_list (pv 0) (pv 4) (fun _ _ => rfl)))))))
    (pss_one (ps_ret (pe_callTy dc_tuple (by rfl) B.tuple PyProof.Rows.boot_tuple (pa_cons (pv 3) pa_nil)))))), fun S x hp hq => ?_⟩
  try dsimp only [cxOf]
  obtain ⟨ns, num⟩ := x
  dsimp only at hp
  have hlen := hp.len
  walk_at "dn"
  walk_at "d"
  refine eva_lst ?_
  walk_at "d"
  walk_at "dn"
  refine q_for (fun ds i M ρ => ∃ z fs, M = [] ∧ (∃ zz, ρ = [.dat (.list (di ns)), .dat (.int (ns.length : Nat)), .dat (.int z), .dat (.list (di fs)), zz]) ∧ word ns ns.length num = word ns (ns.length - i) z ++ fs ∧ fs.length = i) ?_
  refine evi_rangeN ?_
  walk_at "d"
  refine ⟨by omega, by omega, by decide, by decide, ?_⟩
  refine ⟨⟨num, [], rfl, ⟨.no, rfl⟩, by simp, rfl⟩, ?_, ?_⟩
  · rintro i d _ _ hd ⟨z, fs, rfl, ⟨zz, rfl⟩, hw, hl⟩
    obtain ⟨hi, rfl⟩ := rngD_get hd
    have hi2 : i < ns.length := by omega
    have hx : ns[ns.length - 1 - i]? = some (ns.getD (ns.length - 1 - i) 1) := getD_some (by omega) 1
    generalize ns.getD (ns.length - 1 - i) 1 = x at hx
    have he := hp.entry hx
    have h0 : (0 : Int) < x := by omega
    walk_at "t1"
    walk_at "dn"
    walk_at "d"
    refine eva_lst ?_
    walk_at "d"
    refine opd_ixL (at_di hx (by omega)) ?_
    refine opd_mod h0 ?_
    walk_at "d"
    refine opd_catL (by rw [di_len, hl]; show 1 + i ≤ _; omega) ?_
    walk_at "d"
    walk_at "dn"
    walk_at "d"
    refine opd_ixL (at_di hx (by omega)) ?_
    refine opd_divW (cdiv h0 he.2) ?_
    walk_at "d"
    refine at_btw [.dat (.list (di ns)), .dat (.int (ns.length : Nat)), .dat (.int (z / x)), .dat (.list (di ((z % x) :: fs))), .no] (by walk_at "dw") ⟨z / x, (z % x) :: fs, rfl, ⟨.no, rfl⟩, ?_, by rw [List.length_cons, hl]⟩
    rw [hw, show ns.length - i = (ns.length - 1 - i) + 1 by omega]
    show word ns (ns.length - 1 - i) (z / ns.getD (ns.length - 1 - i) 1) ++ [z % ns.getD (ns.length - 1 - i) 1] ++ fs = _
    rw [getD_of hx, show ns.length - (i + 1) = ns.length - 1 - i by omega]
    simp
  · rintro _ _ ⟨z, fs, rfl, ⟨zz, rfl⟩, hw, hl⟩
    rw [rngD_len] at hw hl
    walk_at "d"
    refine ret_dat (hq _ ?_)
    dsimp only
    rw [hw, show ns.length - ((ns.length : Int) - 1 - (-1)).toNat = 0 by omega]
    rfl
end
end D
namespace D
open M
section
variable {Pg : Program} {w : World} {K : PySem.W.Frag} {mg : Str → Option Value} {base : Heap}
abbrev st__law_amounts : Stmt := topS 45
theorem sc__law_amounts : FnScope ["_law_rounds", "_law_rows", "_law_row", "_law_span"] ["_law_rounds", "_law_rows"] (defScope st__law_amounts) := ⟨rfl, rfl, rfl, by decide +kernel, rfl, by decide +kernel, by decide +kernel⟩
theorem ok__law_amounts {f : Addr} {fd : FuncData} (F : Fun K "_law_amounts" "_law_amounts" st__law_amounts f fd) (B : Bt mg) : FnOk Pg w K mg base CX0 1 f fd ["_law_rounds", "_law_rows"] (sp__law_amounts K) := by
  refine okP F sc__law_amounts (fun _ => rfl) fun cdv A outer s H Q E hr => ?_
  refine ⟨_, (pss_one (ps_ret (pe_callTy dc_tuple (by rfl) B.tuple PyProof.Rows.boot_tuple (pa_cons (pe_lc (own := [("_law_span", 3)]) (by rfl) sc__law_amounts.nd (pi_range2 (by rfl) B.range (pa_cons pe_int (pa_cons (pe_op op_add (pe_callB dc_len (by rfl) B.len PySem.boot_len (pa_cons (pv 0) pa_nil)) pe_int) pa_nil))) (blkOk_by (own := [("_law_span", 3)]) (N := ["_law_rounds", "_law_rows", "_law_row", "_law_span"]) (sc := defScope st__law_amounts) (by decide +kernel)) (fun _ _ _ _ _ => (pg_name (i := 3) sc__law_amounts.nd rfl (by first | exact Or.inl rfl | exact Or.inr rfl))) (fun _ _ _ _ _ => pts_nil) (fun _ _ _ _ _ => (pe_callB (r := rSum K) (cr_sum rfl) (by rfl) B.sum PyProof.Rows.boot_sum (pa_cons (pe_lc (own := [("_law_row", 2)]) (by rfl) sc__law_amounts.nd (pi_listK (K := K) rfl (pi_list (pv 1))) (blkOk_by (own := [("_law_row", 2)]) (N := ["_law_rounds", "_law_rows", "_law_row", "_law_span"]) (sc := { kind := .function, names := [(".0", .local), ("_law_span", .cell), ("sum", .globalImplicit), ("_law_rows", .cell)], isGenerator := false, isCoroutine := false }) (by decide +kernel)) (fun _ _ _ _ _ => (pg_name (i := 2) sc__law_amounts.nd rfl (by first | exact Or.inl rfl | exact Or.inr rfl))) (fun _ _ _ _ _ => pts_one (pt_cmpR op_eq (pe_ix (r := rIxT K) ix_tup (pv 2) pe_int (fun _ _ => rfl)) (pv 3) (nomark _))) (fun _ _ _ _ _ => (pe_ix (r := rIxT K) ix_tup (pv 2) pe_int (fun _ _ => rfl)))) pa_nil)))) pa_nil)))), fun S x hp hq => ?_⟩
  try dsimp only [cxOf]
  obtain ⟨ns, rs⟩ := x
  obtain ⟨hs, ho⟩ := hp
  dsimp only at hs ho
  have hlen := hs.len
  have hrl := ho.1
  walk_at "dn"
  walk_at "d"
  refine eva_lc (fun d => match d with | .int z => some (.int (amount rs z.toNat)) | _ => none) ?_
  refine evi_range2 ?_
  walk_at "d"
  rw [di_len]
  refine ⟨by decide, by decide, by omega, by omega, ?_⟩
  refine ⟨by rw [rngD_len]; omega, fun d hd => ?_, ?_⟩
  · obtain ⟨i, hi⟩ := List.mem_iff_getElem?.mp hd
    obtain ⟨hi2, rfl⟩ := rngD_get hi
    walk_at "c1"
    dsimp only [wipeS]
    walk_at "dn"
    walk_at "d"
    refine ⟨rfl, ?_⟩
    rw [if_pos rfl]
    refine ⟨_, rfl, ?_⟩
    walk_at "d"
    refine eva_lc (fun d => match d with | .tuple [.int z, _, .int c] => if z = 1 + (i : Int) * 1 then some (.int c) else none | _ => none) ?_
    refine evi_list ?_
    walk_at "d"
    refine ⟨by rw [List.length_map]; omega, fun d hd => ?_, ?_⟩
    · obtain ⟨r, _, rfl⟩ := List.mem_map.mp hd
      walk_at "c1"
      dsimp only [wipeS]
      walk_at "dn"
      walk_at "d"
      refine opd_ixT (d := .int r.d) rfl ?_
      walk_at "d"
      refine ⟨rfl, ?_⟩
      by_cases e : (r.d : Int) = 1 + (i : Int) * 1
      · rw [if_pos (decide_eq_true e)]
        refine ⟨_, if_pos e, ?_⟩
        walk_at "d"
        refine opd_ixT (d := .int r.c) rfl ?_
        exact ⟨rfl, rfl⟩
      · rw [if_neg (by rw [decide_eq_false e]; decide)]
        exact if_neg e
    · rw [show (rs.map rowD).filterMap (fun d => match d with | .tuple [.int z, _, .int c] => if z = 1 + (i : Int) * 1 then some (PyData.int c) else none | _ => none) = di ((rs.filter fun r => decide (r.d = i + 1)).map M.Row.c) from amount_comp rs i]
      walk_at "d"
      refine ⟨rfl, ?_⟩
      show Sl.dat (PyData.int (amount rs (i + 1))) = .dat (.int (amount rs (1 + (i : Int) * 1).toNat))
      rw [show (1 + (i : Int) * 1).toNat = i + 1 by omega]
  · walk_at "d"
    refine ret_dat (hq _ ?_)
    rw [show ((ns.length : Int) + 1 - 1).toNat = ns.length by omega]
    exact congrArg PyData.tuple (amounts_comp ns rs)
abbrev st__law_levels : Stmt := topS 44
theorem sc__law_levels : FnScope ["_law_rounds", "_law_rows", "_law_sizes_so", "_law_places", "_law_span", "_law_first", "_law_amount", "_law_unit", "_law_found", "_law_place", "_law_total", "_law_size", "_law_start"] ["_law_rounds", "_law_rows"] (defScope st__law_levels) := ⟨rfl, rfl, rfl, by decide +kernel, rfl, by decide +kernel, by decide +kernel⟩
theorem ok__law_levels {f : Addr} {fd : FuncData} (F : Fun K "_law_levels" "_law_levels" st__law_levels f fd) (B : Bt mg)
    (C__law_sizes : Cal Pg w K mg base 1 "_law_sizes" ["_law_rounds"] (sp__law_sizes K)) : FnOk Pg w K mg base CX0 2 f fd ["_law_rounds", "_law_rows"] (sp__law_levels K) := by
  refine okP F sc__law_levels (fun _ => rfl) fun cdv A outer s H Q E hr => ?_
  refine ⟨_, (pss_cons (ps_set (i := 2) sc__law_levels.nd rfl (Or.inl rfl) (pe_cal C__law_sizes hr (by rfl) (pa_cons (pv 0) pa_nil)))
    (pss_cons (ps_set (i := 3) sc__law_levels.nd rfl (Or.inl rfl) (pe_lst (pa_cons pe_int pa_nil)))
    (pss_cons (ps_for PassesOwn.never rfl (pi_list (pv 1)) (pg_tup (by rfl) (pgs_cons (pg_name (i := 4) sc__law_levels.nd rfl (by first | exact Or.inl rfl | exact Or.inr rfl)) (pgs_cons (pg_name (i := 5) sc__law_levels.nd rfl (by first | exact Or.inl rfl | exact Or.inr rfl)) (pgs_cons (pg_name (i := 6) sc__law_levels.nd rfl (by first | exact Or.inl rfl | exact Or.inr rfl)) pgs_nil))))
    (pss_cons (ps_set (i := 7) sc__law_levels.nd rfl (Or.inl rfl) (pe_op op_fdivW (pe_ix ix_list (pv 2) (pe_un un_neg pe_int) (fun _ _ => rfl)) (pe_ix ix_list (pv 2) (pv 4) (fun _ _ => rfl))))
    (pss_one (ps_expr (pe_bm PySem.F.plainAttrs_list PySem.F.slot_list_extend PySem.F.type_list_extend mt_extend (pv 3) (pa_cons (pe_lst (pa_cons (pe_op op_mulW (pv 5) (pv 7)) (pa_cons (pe_op op_mulW (pe_op op_mod (pe_op op_add (pv 5) (pv 6)) (pe_ix ix_list (pv 2) (pv 4) (fun _ _ => rfl))) (pv 7)) pa_nil))) pa_nil))))))
    (pss_cons (ps_set (i := 8) sc__law_levels.nd rfl (Or.inl rfl) (pe_lst pa_nil))
    (pss_cons (ps_for PassesOwn.never rfl (pi_list (pe_callB (cr_sortedSet rfl) (by rfl) B.sorted PyProof.Rows.boot_sorted (pa_cons (pe_callTy (cr_setL rfl) (by rfl) B.set PyProof.Rows.boot_set (pa_cons (pv 3) pa_nil)) pa_nil))) (pg_name (i := 9) sc__law_levels.nd rfl (by first | exact Or.inl rfl | exact Or.inr rfl))
    (pss_cons (ps_set (i := 10) sc__law_levels.nd rfl (Or.inl rfl) pe_int)
    (pss_cons (ps_for PassesOwn.never rfl (pi_list (pv 1)) (pg_tup (by rfl) (pgs_cons (pg_name (i := 4) sc__law_levels.nd rfl (by first | exact Or.inl rfl | exact Or.inr rfl)) (pgs_cons (pg_name (i := 5) sc__law_levels.nd rfl (by first | exact Or.inl rfl | exact Or.inr rfl)) (pgs_cons (pg_name (i := 6) sc__law_levels.nd rfl (by first | exact Or.inl rfl | exact Or.inr rfl)) pgs_nil))))
    (pss_cons (ps_set (i := 11) sc__law_levels.nd rfl (Or.inl rfl) (pe_ix ix_list (pv 2) (pv 4) (fun _ _ => rfl)))
    (pss_cons (ps_set (i := 12) sc__law_levels.nd rfl (Or.inl rfl) (pe_op op_mod (pe_op op_sub (pe_op op_fdivW (pv 9) (pe_op op_fdivW (pe_ix ix_list (pv 2) (pe_un un_neg pe_int) (fun _ _ => rfl)) (pv 11))) (pv 5)) (pv 11)))
    (pss_one (ps_set (i := 10) sc__law_levels.nd rfl (Or.inl rfl) (pe_op op_add (pe_op op_add (pv 10) (pe_op op_fdivW (pv 6) (pv 11))) (pe_callTy dc_int1 (by rfl) B.int PyProof.Rows.boot_int (pa_cons (pe_cmpR op_lt (pv 12) (pe_op op_mod (pv 6) (pv 11)) (nomark _)) pa_nil))))))))
    (pss_one (ps_expr (pe_bm PySem.F.plainAttrs_list PySem.F.slot_list_append PySem.F.type_list_append mt_append (pv 8) (pa_cons (pe_tup (pa_cons (pv 9) (pa_cons (pv 10) pa_nil))) pa_nil)))))))
    (pss_one (ps_ret (pv 8)))))))), fun S x hp hq => ?_⟩
  try dsimp only [cxOf]
  obtain ⟨ns, rs⟩ := x
  obtain ⟨hs, ho⟩ := hp
  dsimp only at hs ho
  have hrl := ho.1
  walk_at "dn"
  walk_at "d"
  refine ⟨hs, ?_⟩
  rintro _ rfl
  walk_at "d"
  refine eva_lstM ?_
  walk_at "d"
  intro p
  walk_at "dn"
  refine q_for (fun ds i M ρ => M = [(p, .lst (di (marks ns (rs.take i))))] ∧ ∃ z1 z2 z3 z4, ρ = [.dat (.list (di ns)), .dat (.list (rs.map rowD)), .dat (.list (di (sizes ns))), .adr p, z1, z2, z3, z4, .no, .no, .no, .no, .no]) ?_
  refine evi_list ?_
  walk_at "d"
  refine ⟨⟨rfl, .no, .no, .no, .no, rfl⟩, ?_, ?_⟩
  · rintro i d _ _ hd ⟨rfl, z1, z2, z3, z4, rfl⟩
    obtain ⟨r, hr1, rfl⟩ := rows_get hd
    have o := ho.2 r (List.mem_of_getElem? hr1)
    have q0 := hs.pos r.d
    have q1 := hs.lt o.dn
    have u0 : 0 < unit ns r := hs.ulpos o.dn
    have u1 : unit ns r < P2 700 := hs.ulow
    have f0 := o.f0
    have f1 := o.f1
    have il : i < rs.length := (List.getElem?_eq_some_iff.mp hr1).1
    have ml : (marks ns (rs.take i)).length ≤ 1 + 2 * rs.length := by
      rw [marks_len, List.length_take]
      omega
    walk_at "t3"
    walk_at "dn"
    walk_at "d"
    refine opd_ixL (d := .int (pd ns ns.length)) (at_lastI (pd ns) ns.length) ?_
    walk_at "d"
    refine opd_ixL (at_di (sizes_get o.dn) rfl) ?_
    refine opd_divW (cdiv (by omega) q1) ?_
    walk_at "dn"
    walk_at "d"
    refine s_ext2 (k := 0) rfl rfl ?_
    refine eva_lstM ?_
    walk_at "d"
    refine opd_mulW (cmul (a := 700) (b := 700) f0 (by omega) (Int.le_of_lt u0) u1) ?_
    walk_at "d"
    refine opd_ixL (at_di (sizes_get o.dn) rfl) ?_
    refine opd_mod (by omega) ?_
    walk_at "d"
    have e0 := Int.emod_nonneg (r.f + r.c) (show pd ns r.d ≠ 0 by omega)
    have e1 := Int.emod_lt_of_pos (r.f + r.c) (show 0 < pd ns r.d by omega)
    refine opd_mulW (cmul (a := 700) (b := 700) e0 (by omega) (Int.le_of_lt u0) u1) ?_
    walk_at "d"
    intro b
    refine ⟨1, 0, _, b, _, rfl, rfl, rfl, by rw [di_len]; show _ + 2 ≤ _; omega, ?_⟩
    refine at_drop 0 ?_
    walk_at "dn"
    show At _ _ _ _ _ (Btw _ _ _ _)
    refine at_btw [.dat (.list (di ns)), .dat (.list (rs.map rowD)), .dat (.list (di (sizes ns))), .adr p, .no, .no, .no, .no, .no, .no, .no, .no, .no] (by walk_at "dw") ⟨?_, .no, .no, .no, .no, rfl⟩
    rw [List.take_add_one, hr1, marks_app, ← di_app]
    rfl
  · rintro _ _ ⟨rfl, z1, z2, z3, z4, rfl⟩
    rw [List.length_map, List.take_length]
    have ml : (marks ns rs).length ≤ 1 + 2 * rs.length := by
      rw [marks_len]
      omega
    walk_at "d"
    refine eva_lstM ?_
    walk_at "d"
    intro q
    walk_at "dn"
    refine q_for (fun ds i M ρ => ∃ ys, IsPlaces ns rs ys ∧ ys.length ≤ 41 ∧ ds = di ys ∧ M = [(q, .lst ((ys.take i).map fun p => .tuple [.int p, .int (lvl ns rs p)])), (p, .lst (di (marks ns rs)))] ∧
      ∃ z1 z2 z3 z4 z6 z7 z8 z9, ρ = [.dat (.list (di ns)), .dat (.list (rs.map rowD)), .dat (.list (di (sizes ns))), .adr p, z1, z2, z3, z4, .adr q, z6, z7, z8, z9]) ?_
    refine evi_list ?_
    refine eva_sortSetA (k := 1) ?_
    walk_at "d"
    refine ⟨p, _, rfl, rfl, by omega, fun ys hy => ?_⟩
    have pl : IsPlaces ns rs ys := ⟨hy.1, fun p => by rw [hy.2, marks_mem]⟩
    have yl := places_len pl
    refine ⟨_, rfl, ?_⟩
    refine ⟨⟨ys, pl, by omega, rfl, rfl, _, _, _, _, _, _, _, _, rfl⟩, ?_, ?_⟩
    · rintro i d _ _ hd ⟨ys', pl, yl, e, rfl, z1, z2, z3, z4, z6, z7, z8, z9, rfl⟩
      cases di_inj e
      obtain ⟨y, hy, rfl⟩ := di_get hd
      have yin := List.mem_of_getElem? hy
      have pin := place_in hs ho.2 pl yin
      walk_at "t1"
      walk_at "dn"
      walk_at "d"
      walk_at "dn"
      refine q_for (fun ds j M ρ => M = [(q, .lst ((ys.take i).map fun p => .tuple [.int p, .int (lvl ns rs p)])), (p, .lst (di (marks ns rs)))] ∧
        ∃ z1 z2 z3 z4 z8 z9, ρ = [.dat (.list (di ns)), .dat (.list (rs.map rowD)), .dat (.list (di (sizes ns))), .adr p, z1, z2, z3, z4, .adr q, .dat (.int y), .dat (.int ((rs.take j).map fun r => rowT ns r (y / unit ns r)).sum), z8, z9]) ?_
      refine evi_list ?_
      walk_at "d"
      refine ⟨⟨rfl, _, _, _, _, _, _, rfl⟩, ?_, ?_⟩
      · rintro j d _ _ hd2 ⟨rfl, z1, z2, z3, z4, z8, z9, rfl⟩
        obtain ⟨r, hr1, rfl⟩ := rows_get hd2
        have o := ho.2 r (List.mem_of_getElem? hr1)
        have q0 := hs.pos r.d
        have q1 := hs.lt o.dn
        have u0 : 0 < unit ns r := hs.ulpos o.dn
        have u1 : unit ns r < P2 700 := hs.ulow
        walk_at "t3"
        walk_at "dn"
        walk_at "d"
        refine opd_ixL (at_di (sizes_get o.dn) rfl) ?_
        walk_at "dn"
        walk_at "d"
        refine opd_ixL (d := .int (pd ns ns.length)) (at_lastI (pd ns) ns.length) ?_
        walk_at "d"
        refine opd_divW (cdiv (by omega) q1) ?_
        refine opd_divW (cdiv u0 u1) ?_
        walk_at "d"
        walk_at "dn"
        walk_at "d"
        refine opd_divW (cdiv (by omega) q1) ?_
        walk_at "d"
        walk_at "dn"
        refine at_btw [.dat (.list (di ns)), .dat (.list (rs.map rowD)), .dat (.list (di (sizes ns))), .adr p, .no, .no, .no, .no, .adr q, .dat (.int y), .dat (.int ((rs.take (j + 1)).map fun r => rowT ns r (y / unit ns r)).sum), .no, .no] ?_ ⟨rfl, _, _, _, _, _, _, rfl⟩
        rw [take_map_sum _ hr1]
        unfold rowT
        rw [← Int.add_assoc]
        simp only [decide_eq_true_eq]
        walk_at "dw"
      · rintro _ _ ⟨rfl, z1, z2, z3, z4, z8, z9, rfl⟩
        rw [List.length_map, List.take_length]
        walk_at "d"
        refine ⟨_, _, rfl, rfl, by rw [List.length_map, List.length_take]; omega, ?_⟩
        walk_at "dn"
        show At _ _ _ _ _ (Btw _ _ _ _)
        refine at_btw [.dat (.list (di ns)), .dat (.list (rs.map rowD)), .dat (.list (di (sizes ns))), .adr p, .no, .no, .no, .no, .adr q, .no, .no, .no, .no] (by walk_at "dw") ⟨ys, pl, yl, rfl, ?_, _, _, _, _, _, _, _, _, rfl⟩
        rw [List.take_add_one, hy, List.map_append]
        rfl
    · rintro _ _ ⟨ys, pl, yl, hds, rfl, z1, z2, z3, z4, z6, z7, z8, z9, rfl⟩
      rw [hds, di_len, List.take_length]
      walk_at "d"
      exact ret_adr (k := 0) rfl (hq _ ⟨ys, pl, rfl⟩)
abbrev st_rest_of : Stmt := topS 35
theorem sc_rest_of : FnScope ["schedule", "plan", "choices", "done", "sizes", "number", "found", "row", "length", "place", "count"] ["schedule", "plan", "choices"] (defScope st_rest_of) := ⟨rfl, rfl, rfl, by decide +kernel, rfl, by decide +kernel, by decide +kernel⟩
theorem ok_rest_of {f : Addr} {fd : FuncData} (F : Fun K "rest_of" "rest_of" st_rest_of f fd) (B : Bt mg)
    (C_climbers_between : Cal Pg w K mg base 1 "climbers_between" ["size", "row", "start", "length"] (sp_climbers_between K))
    (C_products : Cal Pg w K mg base 1 "products" ["schedule"] (sp_products K))
    (C_require_choices : Cal Pg w K mg base 3 "require_choices" ["schedule", "choices", "limit"] (sp_require_choices K))
    (C_require_plan : Cal Pg w K mg base 3 "require_plan" ["schedule", "plan"] (sp_require_plan K))
    (C_require_schedule : Cal Pg w K mg base 3 "require_schedule" ["schedule"] (sp_require_schedule K))
    (C_word_numbers : Cal Pg w K mg base 1 "word_numbers" ["schedule", "choices"] (sp_word_numbers K)) : FnOk Pg w K mg base CX0 4 f fd ["schedule", "plan", "choices"] (sp_rest_of K) := by
  refine okP F sc_rest_of (fun _ => rfl) fun cdv A outer s H Q E hr => ?_
  refine ⟨_, (pss_cons (ps_expr (pe_cal C_require_schedule hr (by rfl) (pa_cons (pv 0) pa_nil)))
    (pss_cons (ps_expr (pe_cal C_require_plan hr (by rfl) (pa_cons (pv 0) (pa_cons (pv 1) pa_nil))))
    (pss_cons (ps_expr (pe_cal C_require_choices hr (by rfl) (pa_cons (pv 0) (pa_cons (pv 2) (pa_cons (pe_callB dc_len (by rfl) B.len PySem.boot_len (pa_cons (pv 0) pa_nil)) pa_nil)))))
    (pss_cons (ps_set (i := 3) sc_rest_of.nd rfl (Or.inl rfl) (pe_callB dc_len (by rfl) B.len PySem.boot_len (pa_cons (pv 2) pa_nil)))
    (pss_cons (ps_par (by rfl) sc_rest_of.nd (i := 4) (j := 5) rfl rfl (by decide) rfl rfl (pa_cons (pe_cal C_products (hr.mono (by decide)) (by rfl) (pa_cons (pv 0) pa_nil)) (pa_cons (pe_ix ix_list (pe_cal C_word_numbers (hr.mono (by decide)) (by rfl) (pa_cons (pv 0) (pa_cons (pv 2) pa_nil))) (pe_un un_neg pe_int) (fun _ _ => rfl)) pa_nil)) (by rfl))
    (pss_cons (ps_set (i := 6) sc_rest_of.nd rfl (Or.inl rfl) (pe_lst pa_nil))
    (pss_cons (ps_for PassesOwn.never rfl (pi_list (pv 1)) (pg_name (i := 7) sc_rest_of.nd rfl (by first | exact Or.inl rfl | exact Or.inr rfl))
    (pss_one (ps_if (pt_cmpR op_gt (pe_ix ix_tup (pv 7) pe_int (fun _ _ => rfl)) (pv 3) (nomark _)) (pss_cons (ps_set (i := 8) sc_rest_of.nd rfl (Or.inl rfl) (pe_op op_fdivW (pe_ix ix_list (pv 4) (pe_ix ix_tup (pv 7) pe_int (fun _ _ => rfl)) (fun _ _ => rfl)) (pe_ix ix_list (pv 4) (pv 3) (fun _ _ => rfl))))
    (pss_cons (ps_set (i := 9) sc_rest_of.nd rfl (Or.inl rfl) (pe_op op_mod (pe_op op_sub (pe_ix ix_tup (pv 7) pe_int (fun _ _ => rfl)) (pe_op op_mulW (pv 5) (pv 8))) (pe_ix ix_list (pv 4) (pe_ix ix_tup (pv 7) pe_int (fun _ _ => rfl)) (fun _ _ => rfl))))
    (pss_cons (ps_set (i := 10) sc_rest_of.nd rfl (Or.inl rfl) (pe_cal C_climbers_between (hr.mono (by decide)) (by rfl) (pa_cons (pe_ix ix_list (pv 4) (pe_ix ix_tup (pv 7) pe_int (fun _ _ => rfl)) (fun _ _ => rfl)) (pa_cons (pv 7) (pa_cons (pe_op op_mulW (pv 5) (pv 8)) (pa_cons (pv 8) pa_nil))))))
    (pss_one (ps_if (pt_cmpR op_gt (pv 10) pe_int (nomark _)) (pss_one (ps_expr (pe_bm PySem.F.plainAttrs_list PySem.F.slot_list_append PySem.F.type_list_append mt_append (pv 6) (pa_cons (pe_tup (pa_cons (pe_op op_sub (pe_ix ix_tup (pv 7) pe_int (fun _ _ => rfl)) (pv 3)) (pa_cons (pe_ifExp (pt_cmpR op_lt (pv 9) (pv 8) (nomark _)) (pv 9) pe_int) (pa_cons (pv 10) pa_nil)))) pa_nil)))) pss_nil))))) pss_nil)))
    (pss_one (ps_ret (pv 6)))))))))), fun S x hp hq => ?_⟩
  try dsimp only [cxOf]
  obtain ⟨ns, rs, cs⟩ := x
  obtain ⟨hs, ho, hc⟩ := hp
  dsimp only at hs ho hc
  have hcl := hc.1
  have hrl := ho.1
  walk_at "dn"
  walk_at "d"
  refine ⟨hs, ?_⟩
  rintro _ rfl
  walk_at "d"
  refine ⟨(ns, rs), rfl, ⟨hs, ho⟩, ?_⟩
  rintro _ rfl
  walk_at "d"
  refine ⟨(ns, cs, (ns.length : Int)), by rw [di_len]; rfl, ⟨hs, hc, by show (cs.length : Int) ≤ ns.length; omega⟩, ?_⟩
  rintro _ rfl
  walk_at "d"
  rw [di_len]
  walk_at "dn"
  walk_at "d"
  refine ⟨hs, ?_⟩
  rintro _ rfl
  walk_at "d"
  refine ⟨(ns, cs), rfl, ⟨hs, hc⟩, ?_⟩
  rintro _ rfl
  walk_at "d"
  refine opd_ixL (d := .int (wn ns cs cs.length)) (by rw [nums_eq hc.1]; exact at_lastI (wn ns cs) cs.length) ?_
  walk_at "d"
  walk_at "dn"
  walk_at "d"
  refine eva_lstM ?_
  walk_at "d"
  intro p
  walk_at "dn"
  have wb := wn_bound hs.two hc cs.length (Nat.le_refl _)
  have w1 := hs.lt (d := cs.length) hcl
  have w0 := hs.pos cs.length
  refine q_for (fun ds i M ρ => M = [(p, .lst ((restR ns (rs.take i) cs).map rowD))] ∧ ∃ z1 z2 z3 z4, ρ = [.dat (.list (di ns)), .dat (.list (rs.map rowD)), .dat (.tuple (di cs)), .dat (.int (cs.length : Nat)), .dat (.list (di (sizes ns))), .dat (.int (wn ns cs cs.length)), .adr p, z1, z2, z3, z4]) ?_
  refine evi_list ?_
  walk_at "d"
  refine ⟨⟨rfl, _, _, _, _, rfl⟩, ?_, ?_⟩
  · rintro i d _ _ hd ⟨rfl, z1, z2, z3, z4, rfl⟩
    obtain ⟨r, hr1, rfl⟩ := rows_get hd
    have o := ho.2 r (List.mem_of_getElem? hr1)
    have q0 := hs.pos r.d
    have q1 := hs.lt o.dn
    have fl : (restR ns (rs.take i) cs).length ≤ 20 := by
      refine Nat.le_trans (List.length_filterMap_le _ _) ?_
      rw [List.length_take]
      omega
    have nxt : restR ns (rs.take (i + 1)) cs = restR ns (rs.take i) cs ++ (restF ns cs.length (wn ns cs cs.length) r).toList := by
      unfold restR
      rw [List.take_add_one, hr1, List.filterMap_append]
      cases e : restF ns cs.length (wn ns cs cs.length) r with
      | none => simp [e]
      | some z => simp [e]
    walk_at "t1"
    walk_at "dn"
    walk_at "d"
    refine opd_ixT (d := .int r.d) rfl ?_
    walk_at "d"
    refine ⟨fun h => ?_, fun h => ?_⟩
    · have h : cs.length < r.d := by
        have := of_decide_eq_true h
        omega
      have dv : pd ns cs.length ∣ pd ns r.d := pd_dvd hs.two (by omega)
      have l0 : 0 ≤ pd ns r.d / pd ns cs.length := Int.ediv_nonneg (by omega) (by omega)
      have l1 : pd ns r.d / pd ns cs.length ≤ pd ns r.d := Int.ediv_le_self _ (by omega)
      walk_at "d"
      refine opd_ixT (d := .int r.d) rfl ?_
      refine opd_ixL (at_di (sizes_get o.dn) rfl) ?_
      walk_at "d"
      refine opd_ixL (at_di (sizes_get hcl) rfl) ?_
      refine opd_divW (cdiv (by omega) w1) ?_
      walk_at "dn"
      walk_at "d"
      refine opd_ixT (d := .int r.f) rfl ?_
      walk_at "d"
      refine opd_mulW (cmul (a := 700) (b := 700) wb.1 (by omega) l0 (by omega)) ?_
      walk_at "d"
      refine opd_ixT (d := .int r.d) rfl ?_
      refine opd_ixL (at_di (sizes_get o.dn) rfl) ?_
      refine opd_mod (by omega) ?_
      walk_at "dn"
      walk_at "d"
      refine opd_ixT (d := .int r.d) rfl ?_
      refine opd_ixL (at_di (sizes_get o.dn) rfl) ?_
      walk_at "d"
      refine opd_mulW (cmul (a := 700) (b := 700) wb.1 (by omega) l0 (by omega)) ?_
      walk_at "d"
      refine ⟨(pd ns r.d, r, wn ns cs cs.length * (pd ns r.d / pd ns cs.length), pd ns r.d / pd ns cs.length), rfl, ⟨by show 0 < pd ns r.d; omega, q1, o.c1, o.cb, l0, by show pd ns r.d / pd ns cs.length < _; omega⟩, ?_⟩
      rintro _ rfl
      walk_at "dn"
      walk_at "d"
      refine ⟨fun h2 => ?_, fun h2 => ?_⟩
      · have e : restF ns cs.length (wn ns cs cs.length) r = some (restRow ns cs.length (wn ns cs cs.length) r) := if_pos ⟨h, of_decide_eq_true h2⟩
        rw [e] at nxt
        walk_at "d"
        refine opd_ixT (d := .int r.d) rfl ?_
        walk_at "d"
        refine eva_ite (d := .int (if (r.f - wn ns cs cs.length * (pd ns r.d / pd ns cs.length)) % pd ns r.d < pd ns r.d / pd ns cs.length then (r.f - wn ns cs cs.length * (pd ns r.d / pd ns cs.length)) % pd ns r.d else 0)) (fun g => ?_) (fun g => ?_) ?_
        · rw [if_pos (of_decide_eq_true g)]
          exact fun P h => eva_dat rfl h
        · rw [if_neg (of_decide_eq_false g)]
          exact fun P h => eva_int h
        walk_at "d"
        refine ⟨_, _, rfl, rfl, by rw [List.length_map]; omega, ?_⟩
        walk_at "dn"
        refine at_btw [.dat (.list (di ns)), .dat (.list (rs.map rowD)), .dat (.tuple (di cs)), .dat (.int (cs.length : Nat)), .dat (.list (di (sizes ns))), .dat (.int (wn ns cs cs.length)), .adr p, .no, .no, .no, .no] (by walk_at "dw") ⟨?_, _, _, _, _, rfl⟩
        rw [nxt, List.map_append]
        refine congrArg (fun z => [(p, MO.lst (((restR ns (rs.take i) cs).map rowD) ++ [z]))]) ?_
        show PyData.tuple [.int ((r.d : Int) - (cs.length : Int)), _, _] = PyData.tuple [.int ((r.d - cs.length : Nat) : Int), _, _]
        rw [show ((r.d - cs.length : Nat) : Int) = (r.d : Int) - (cs.length : Int) by omega]
        rfl
      · have e : restF ns cs.length (wn ns cs cs.length) r = none := if_neg fun z => of_decide_eq_false h2 z.2
        rw [e] at nxt
        walk_at "d"
        refine at_btw [.dat (.list (di ns)), .dat (.list (rs.map rowD)), .dat (.tuple (di cs)), .dat (.int (cs.length : Nat)), .dat (.list (di (sizes ns))), .dat (.int (wn ns cs cs.length)), .adr p, .no, .no, .no, .no] (by walk_at "dw") ⟨?_, _, _, _, _, rfl⟩
        rw [nxt]
        simp
    · have e : restF ns cs.length (wn ns cs cs.length) r = none := if_neg fun z => by
        have := of_decide_eq_false h
        omega
      rw [e] at nxt
      walk_at "d"
      refine at_btw [.dat (.list (di ns)), .dat (.list (rs.map rowD)), .dat (.tuple (di cs)), .dat (.int (cs.length : Nat)), .dat (.list (di (sizes ns))), .dat (.int (wn ns cs cs.length)), .adr p, .no, .no, .no, .no] (by walk_at "dw") ⟨?_, _, _, _, _, rfl⟩
      rw [nxt]
      simp
  · rintro _ _ ⟨rfl, z1, z2, z3, z4, rfl⟩
    rw [List.length_map, List.take_length]
    walk_at "d"
    exact ret_adr (k := 0) rfl (hq _ rfl)
end
end D
namespace D
open M
section
variable {Pg : Program} {w : World} {K : PySem.W.Frag} {mg : Str → Option Value} {base : Heap}
abbrev st__law_mean_right : Stmt := topS 46
theorem sc__law_mean_right : FnScope ["_law_rounds", "_law_rows", "_law_levels_here", "_law_whole", "_law_ends", "_law_place", "_law_total", "_law_area", "_law_end", "_law_top", "_law_bottom"] ["_law_rounds", "_law_rows", "_law_levels_here"] (defScope st__law_mean_right) := ⟨rfl, rfl, rfl, by decide +kernel, rfl, by decide +kernel, by decide +kernel⟩
theorem ok__law_mean_right {f : Addr} {fd : FuncData} (F : Fun K "_law_mean_right" "_law_mean_right" st__law_mean_right f fd) (B : Bt mg)
    (C__law_amounts : Cal Pg w K mg base 1 "_law_amounts" ["_law_rounds", "_law_rows"] (sp__law_amounts K))
    (C__law_sizes : Cal Pg w K mg base 1 "_law_sizes" ["_law_rounds"] (sp__law_sizes K))
    (C_weight : Cal Pg w K mg base 5 "weight" ["schedule", "counts"] (sp_weight K)) : FnOk Pg w K mg base CX0 6 f fd ["_law_rounds", "_law_rows", "_law_levels_here"] (sp__law_mean_right K) := by
  refine okP F sc__law_mean_right (fun _ => rfl) fun cdv A outer s H Q E hr => ?_
  refine ⟨_, (pss_cons (ps_set (i := 3) sc__law_mean_right.nd rfl (Or.inl rfl) (pe_ix ix_list (pe_cal C__law_sizes (hr.mono (by decide)) (by rfl) (pa_cons (pv 0) pa_nil)) (pe_un un_neg pe_int) (fun _ _ => rfl)))
    (pss_cons (ps_set (i := 4) sc__law_mean_right.nd rfl (Or.inl rfl) (pe_op op_catL (pe_lc (own := [("_law_place", 5), ("_law_total", 6)]) (by rfl) sc__law_mean_right.nd (pi_list (pe_slice sl_list (pv 2) (po_some pe_int) po_none)) (blkOk_by (own := [("_law_place", 5), ("_law_total", 6)]) (N := ["_law_rounds", "_law_rows", "_law_levels_here", "_law_whole", "_law_ends", "_law_place", "_law_total", "_law_area", "_law_end", "_law_top", "_law_bottom"]) (sc := defScope st__law_mean_right) (by decide +kernel)) (fun _ _ _ _ _ => (pg_tupK (K := K) rfl 2 rfl (pgs_cons (pg_name (i := 5) sc__law_mean_right.nd rfl (by first | exact Or.inl rfl | exact Or.inr rfl)) (pgs_cons (pg_name (i := 6) sc__law_mean_right.nd rfl (by first | exact Or.inl rfl | exact Or.inr rfl)) pgs_nil)))) (fun _ _ _ _ _ => pts_nil) (fun _ _ _ _ _ => (pv 5))) (pe_lst (pa_cons (pv 3) pa_nil))))
    (pss_cons (ps_set (i := 7) sc__law_mean_right.nd rfl (Or.inl rfl) (pe_callB (cr_sum rfl) (by rfl) B.sum PyProof.Rows.boot_sum (pa_cons (pe_lc (own := [("_law_place", 5), ("_law_total", 6), ("_law_end", 8)]) (by rfl) sc__law_mean_right.nd (pi_zip (by rfl) B.zip (pa_cons (pv 2) (pa_cons (pv 4) pa_nil))) (blkOk_by (own := [("_law_place", 5), ("_law_total", 6), ("_law_end", 8)]) (N := ["_law_rounds", "_law_rows", "_law_levels_here", "_law_whole", "_law_ends", "_law_place", "_law_total", "_law_area", "_law_end", "_law_top", "_law_bottom"]) (sc := defScope st__law_mean_right) (by decide +kernel)) (fun _ _ _ _ _ => (pg_tupK (K := K) rfl 2 rfl (pgs_cons (pg_tupK (K := K) rfl 2 rfl (pgs_cons (pg_name (i := 5) sc__law_mean_right.nd rfl (by first | exact Or.inl rfl | exact Or.inr rfl)) (pgs_cons (pg_name (i := 6) sc__law_mean_right.nd rfl (by first | exact Or.inl rfl | exact Or.inr rfl)) pgs_nil))) (pgs_cons (pg_name (i := 8) sc__law_mean_right.nd rfl (by first | exact Or.inl rfl | exact Or.inr rfl)) pgs_nil)))) (fun _ _ _ _ _ => pts_nil) (fun _ _ _ _ _ => (pe_op op_mulW (pe_op op_sub (pv 8) (pv 5)) (pv 6)))) pa_nil)))
    (pss_cons (ps_asg (pe_cal C_weight hr (by rfl) (pa_cons (pv 0) (pa_cons (pe_cal C__law_amounts (hr.mono (by decide)) (by rfl) (pa_cons (pv 0) (pa_cons (pv 1) pa_nil))) pa_nil))) (pg_tup (by rfl) (pgs_cons (pg_name (i := 9) sc__law_mean_right.nd rfl (by first | exact Or.inl rfl | exact Or.inr rfl)) (pgs_cons (pg_name (i := 10) sc__law_mean_right.nd rfl (by first | exact Or.inl rfl | exact Or.inr rfl)) pgs_nil))))
    (pss_one (ps_ret (pe_cmpR op_eq (pe_op op_mulW (pv 7) (pv 10)) (pe_op op_mulW (pv 9) (pv 3)) (nomark _)))))))), fun S x hp hq => ?_⟩
  try dsimp only [cxOf]
  obtain ⟨ns, rs, ps⟩ := x
  obtain ⟨hs, ho, pl⟩ := hp
  dsimp only at hs ho pl
  have hrl := ho.1
  have pb := places_len pl
  have hW := hs.pos ns.length
  walk_at "dn"
  walk_at "d"
  refine ⟨hs, ?_⟩
  rintro _ rfl
  walk_at "d"
  refine opd_ixL (d := .int (pd ns ns.length)) (at_lastI (pd ns) ns.length) ?_
  walk_at "dn"
  walk_at "d"
  refine eva_lc fstF ?_
  refine evi_list ?_
  walk_at "d"
  rw [cutD_from1]
  refine ⟨by rw [List.length_drop, List.length_map]; omega, fun d hd => ?_, ?_⟩
  · obtain ⟨q, _, rfl⟩ := lv_mem (List.mem_of_mem_drop hd)
    walk_at "c2"
    dsimp only [wipeS]
    walk_at "dn"
    walk_at "d"
    refine ⟨rfl, ?_⟩
    rw [if_pos rfl]
    refine ⟨_, rfl, ?_⟩
    walk_at "d"
    exact ⟨rfl, rfl⟩
  rw [show ((ps.map fun p => PyData.tuple [.int p, .int (lvl ns rs p)]).drop 1).filterMap fstF = di (ps.drop 1) by rw [← List.map_drop]; exact lv_fst ns rs (ps.drop 1)]
  walk_at "d"
  refine eva_lst ?_
  walk_at "d"
  refine opd_catL (by rw [di_len, List.length_drop]; show _ + 1 ≤ _; omega) ?_
  walk_at "dn"
  walk_at "d"
  refine eva_lc areaF ?_
  refine evi_zip ?_
  walk_at "d"
  refine ⟨by rw [zipD_len, List.length_map]; omega, fun d hd => ?_, ?_⟩
  · obtain ⟨i, hi⟩ := List.mem_iff_getElem?.mp hd
    obtain ⟨e, g, he, hg, rfl⟩ := zipD_get hi
    obtain ⟨q, hq1, rfl⟩ := lv_get he
    have hg : (di (ps.drop 1 ++ [pd ns ns.length]))[i]? = some g := by
      rw [← di_app]
      exact hg
    obtain ⟨z, hz, rfl⟩ := di_get hg
    have qb := place_in hs ho.2 pl (List.mem_of_getElem? hq1)
    have zb : 0 ≤ z ∧ z ≤ pd ns ns.length := by
      rcases List.mem_append.mp (List.mem_of_getElem? hz) with u | u
      · have := place_in hs ho.2 pl (List.mem_of_mem_drop u)
        omega
      · rw [List.mem_singleton.mp u]
        omega
    have lb := lvl_bound hs ho q
    have big := hs.big
    refine ⟨_, _, tgt_tup rfl (tgts_cons (tgt_tup rfl (tgts_cons tgt_name (tgts_cons tgt_name tgts_nil))) (tgts_cons tgt_name tgts_nil)), (by decide), ?_⟩
    dsimp only [wipeS]
    walk_at "dn"
    walk_at "d"
    refine ⟨rfl, ?_⟩
    rw [if_pos rfl]
    refine ⟨_, rfl, ?_⟩
    walk_at "d"
    refine opd_mulW (wide_mul (a := 700) (b := 800) (P2_abs2 (by omega) (by omega)) (P2_abs lb.1 lb.2) (by decide) (by decide) (by decide)) ?_
    exact ⟨rfl, rfl⟩
  have ea : (zipD (ps.map fun p => PyData.tuple [.int p, .int (lvl ns rs p)]) (di (ps.drop 1) ++ [.int (pd ns ns.length)])).filterMap areaF = di (areaL (lvl ns rs) (pd ns ns.length) ps) := by
    rw [← lv_area, ← di_app]
    rfl
  rw [show (zipD (ps.map fun p => PyData.tuple [.int p, .int (lvl ns rs p)]) (di (ps.drop 1) ++ (fun x => PyData.int (pd ns ns.length) :: x) [])).filterMap areaF = _ from ea]
  walk_at "d"
  rw [areaL_sum, area_worth hs ho.2 pl]
  walk_at "dn"
  have sw := scaled_worth (ns := ns) (rs := rs) ho.2
  have wb := worth_bound hs ho
  have gp := gcd_pos (a := scaled ns (amounts ns rs)) (show 0 < pd ns ns.length by omega)
  refine q_asg ?_
  walk_at "d"
  refine ⟨(ns, rs), rfl, ⟨hs, ho⟩, ?_⟩
  rintro _ rfl
  walk_at "d"
  refine ⟨(ns, amounts ns rs), rfl, ⟨hs, amounts_counts hs ho, amounts_len ns rs⟩, ?_⟩
  rintro _ rfl
  refine ⟨_, _, tgt_tup rfl (tgts_cons tgt_name (tgts_cons tgt_name tgts_nil)), ?_⟩
  walk_at "dn"
  walk_at "d"
  have bot0 : 0 ≤ pd ns ns.length / M.gcd (scaled ns (amounts ns rs)) (pd ns ns.length) := Int.ediv_nonneg (by omega) (by omega)
  have bot1 : pd ns ns.length / M.gcd (scaled ns (amounts ns rs)) (pd ns ns.length) ≤ pd ns ns.length := Int.ediv_le_self _ (by omega)
  have top0 : 0 ≤ scaled ns (amounts ns rs) / M.gcd (scaled ns (amounts ns rs)) (pd ns ns.length) := Int.ediv_nonneg (by omega) (by omega)
  have top1 : scaled ns (amounts ns rs) / M.gcd (scaled ns (amounts ns rs)) (pd ns ns.length) ≤ scaled ns (amounts ns rs) := Int.ediv_le_self _ (by omega)
  have big := hs.big
  refine opd_mulW (cmul (a := 1500) (b := 700) wb.1 wb.2 bot0 (by omega)) ?_
  walk_at "d"
  refine opd_mulW (cmul (a := 1500) (b := 700) top0 (by omega) (by omega) big) ?_
  walk_at "d"
  rw [decide_eq_true (show worth ns rs * (pd ns ns.length / M.gcd (scaled ns (amounts ns rs)) (pd ns ns.length)) = _ by rw [← sw]; exact low_cross (by omega) (by omega))]
  exact ret_dat (hq _ rfl)
abbrev st__law_extremes_right : Stmt := topS 47
theorem sc__law_extremes_right : FnScope ["_law_rounds", "_law_rows", "_law_levels_here", "_law_found", "_law_totals", "_law_place", "_law_total", "_law_some", "_law_start", "_law_level"] ["_law_rounds", "_law_rows", "_law_levels_here"] (defScope st__law_extremes_right) := ⟨rfl, rfl, rfl, by decide +kernel, rfl, by decide +kernel, by decide +kernel⟩
theorem ok__law_extremes_right {f : Addr} {fd : FuncData} (F : Fun K "_law_extremes_right" "_law_extremes_right" st__law_extremes_right f fd) (B : Bt mg)
    (C__law_word : Cal Pg w K mg base 1 "_law_word" ["_law_rounds", "_law_span", "_law_code"] (sp__law_word K))
    (C_covered : Cal Pg w K mg base 4 "covered" ["schedule", "plan", "choices"] (sp_covered K))
    (C_extreme_choices : Cal Pg w K mg base 4 "extreme_choices" ["schedule", "plan"] (sp_extreme_choices K))
    (C_number_of : Cal Pg w K mg base 4 "number_of" ["schedule", "choices"] (sp_number_of K)) : FnOk Pg w K mg base CX0 5 f fd ["_law_rounds", "_law_rows", "_law_levels_here"] (sp__law_extremes_right K) := by
  refine okP F sc__law_extremes_right (fun _ => rfl) fun cdv A outer s H Q E hr => ?_
  refine ⟨_, (pss_cons (ps_set (i := 3) sc__law_extremes_right.nd rfl (Or.inl rfl) (pe_cal C_extreme_choices hr (by rfl) (pa_cons (pv 0) (pa_cons (pv 1) pa_nil))))
    (pss_cons (ps_setLc (i := 4) (own := [("_law_place", 5), ("_law_total", 6)]) (by rfl) sc__law_extremes_right.nd rfl rfl (sw_true rfl rfl rfl (by decide +kernel)) (pi_list (pv 2)) (blkOk_by (own := [("_law_place", 5), ("_law_total", 6)]) (N := ["_law_rounds", "_law_rows", "_law_levels_here", "_law_found", "_law_totals", "_law_place", "_law_total", "_law_some", "_law_start", "_law_level"]) (sc := defScope st__law_extremes_right) (by decide +kernel)) (fun _ _ _ _ _ => (pg_tupK (K := K) rfl 2 rfl (pgs_cons (pg_name (i := 5) sc__law_extremes_right.nd rfl (by first | exact Or.inl rfl | exact Or.inr rfl)) (pgs_cons (pg_name (i := 6) sc__law_extremes_right.nd rfl (by first | exact Or.inl rfl | exact Or.inr rfl)) pgs_nil)))) (fun _ _ _ _ _ => pts_nil) (fun _ _ _ _ _ => (pv 6)))
    (pss_cons (ps_if (pt_cmpR (op_neD hr.units) (pe_tup (pa_cons (pe_ix ix_tup (pv 3) pe_int (fun _ _ => rfl)) (pa_cons (pe_ix ix_tup (pv 3) pe_int (fun _ _ => rfl)) pa_nil))) (pe_tup (pa_cons (pe_callB (cr_min rfl) (by rfl) B.min PyProof.Rows.boot_min (pa_cons (pv 4) pa_nil)) (pa_cons (pe_callB (cr_max rfl) (by rfl) B.max PyProof.Rows.boot_max (pa_cons (pv 4) pa_nil)) pa_nil))) (nomark _)) (pss_one (ps_ret pe_bl)) pss_nil)
    (pss_cons (ps_for PassesOwn.never rfl (pi_tup (pe_tup (pa_cons (pe_slice sl_tupA (pv 3) po_none (po_some pe_int)) (pa_cons (pe_slice sl_tupA (pv 3) (po_some pe_int) po_none) pa_nil)))) (pg_tup (by rfl) (pgs_cons (pg_name (i := 6) sc__law_extremes_right.nd rfl (by first | exact Or.inl rfl | exact Or.inr rfl)) (pgs_cons (pg_name (i := 7) sc__law_extremes_right.nd rfl (by first | exact Or.inl rfl | exact Or.inr rfl)) pgs_nil)))
    (pss_cons (ps_set (i := 5) sc__law_extremes_right.nd rfl (Or.inl rfl) (pe_ix ix_list (pe_lc (own := [("_law_start", 8), ("_law_level", 9)]) (by rfl) sc__law_extremes_right.nd (pi_list (pv 2)) (blkOk_by (own := [("_law_start", 8), ("_law_level", 9)]) (N := ["_law_rounds", "_law_rows", "_law_levels_here", "_law_found", "_law_totals", "_law_place", "_law_total", "_law_some", "_law_start", "_law_level"]) (sc := defScope st__law_extremes_right) (by decide +kernel)) (fun _ _ _ _ _ => (pg_tupK (K := K) rfl 2 rfl (pgs_cons (pg_name (i := 8) sc__law_extremes_right.nd rfl (by first | exact Or.inl rfl | exact Or.inr rfl)) (pgs_cons (pg_name (i := 9) sc__law_extremes_right.nd rfl (by first | exact Or.inl rfl | exact Or.inr rfl)) pgs_nil)))) (fun _ _ _ _ _ => pts_one (pt_cmpR op_eq (pv 9) (pv 6) (nomark _))) (fun _ _ _ _ _ => (pv 8))) pe_int (fun _ _ => rfl)))
    (pss_cons (ps_if (PW.pt (pw_or (pt_cmpR (op_neD hr.units) (pv 7) (pe_cal C__law_word (hr.mono (by decide)) (by rfl) (pa_cons (pv 0) (pa_cons (pe_callB dc_len (by rfl) B.len PySem.boot_len (pa_cons (pv 0) pa_nil)) (pa_cons (pv 5) pa_nil)))) (nomark _)) (pw_or1 (pt_cmpR op_ne (pe_cal C_number_of hr (by rfl) (pa_cons (pv 0) (pa_cons (pv 7) pa_nil))) (pv 5) (nomark _))))) (pss_one (ps_ret pe_bl)) pss_nil)
    (pss_one (ps_if (pt_cmpR op_ne (pe_cal C_covered hr (by rfl) (pa_cons (pv 0) (pa_cons (pv 1) (pa_cons (pv 7) pa_nil)))) (pv 6) (nomark _)) (pss_one (ps_ret pe_bl)) pss_nil)))))
    (pss_one (ps_ret pe_bl)))))), fun S x hp hq => ?_⟩
  try dsimp only [cxOf]
  obtain ⟨ns, rs, ps⟩ := x
  obtain ⟨hs, ho, pl⟩ := hp
  dsimp only at hs ho pl
  have hrl := ho.1
  have pb := places_len pl
  have p0 : (0 : Int) ∈ ps := (pl.mem 0).mpr (.inl rfl)
  have pn : 0 < (ps.map (lvl ns rs)).length := by
    rw [List.length_map]
    exact List.length_pos_of_mem p0
  walk_at "dn"
  walk_at "d"
  refine ⟨(ns, rs), rfl, ⟨hs, ho⟩, ?_⟩
  rintro _ ⟨lo, plo, hi, phi, he, rfl⟩
  dsimp only at he
  walk_at "dn"
  walk_at "d"
  refine eva_lc sndF ?_
  refine evi_list ?_
  walk_at "d"
  refine ⟨by rw [List.length_map]; omega, fun d hd => ?_, ?_⟩
  · obtain ⟨q, _, rfl⟩ := lv_mem hd
    walk_at "c2"
    dsimp only [wipeS]
    walk_at "dn"
    walk_at "d"
    refine ⟨rfl, ?_⟩
    rw [if_pos rfl]
    refine ⟨_, rfl, ?_⟩
    walk_at "d"
    exact ⟨rfl, rfl⟩
  rw [lv_snd]
  walk_at "dn"
  walk_at "d"
  refine opd_ixT (d := .int lo) rfl ?_
  walk_at "d"
  refine opd_ixT (d := .int hi) rfl ?_
  walk_at "d"
  refine cbd_min pn fun lo' ml1 ml2 => ?_
  walk_at "d"
  refine cbd_max pn fun hi' mh1 mh2 => ?_
  walk_at "d"
  obtain ⟨q1, m1, e1⟩ := List.mem_map.mp ml1
  obtain ⟨q2, m2, e2⟩ := List.mem_map.mp mh1
  have el : lo' = lo := by
    have a := he.least q1 (pl.isP.mp m1)
    have b := ml2 _ (List.mem_map_of_mem (pl.isP.mpr he.atLo.isP))
    have c := he.atLo.lv
    omega
  have eh : hi' = hi := by
    have a := he.most q2 (pl.isP.mp m2)
    have b := mh2 _ (List.mem_map_of_mem (pl.isP.mpr he.atHi.isP))
    have c := he.atHi.lv
    omega
  subst el eh
  refine opd_neR rfl (shp_tup (lay_cons (lay_int _) (lay_cons (lay_int _) lay_nil))) ?_
  walk_at "d"
  refine q_for (fun ds i M ρ => ds = [.tuple [.int lo', .tuple (di (word ns ns.length plo))], .tuple [.int hi', .tuple (di (word ns ns.length phi))]] ∧ M = [] ∧ ∃ z5 z6 z7, ρ = [.dat (.list (di ns)), .dat (.list (rs.map rowD)), .dat (lvD ns rs ps), .dat (exD ns lo' plo hi' phi), .dat (.list (di (ps.map (lvl ns rs)))), z5, z6, z7, .no, .no]) ?_
  refine evi_tup ?_
  walk_at "d"
  refine ⟨⟨rfl, rfl, _, _, _, rfl⟩, ?_, ?_⟩
  · rintro i d _ _ hd ⟨hds, rfl, z5, z6, z7, rfl⟩
    rw [hds] at hd
    have key : ∃ v q, d = .tuple [.int v, .tuple (di (word ns ns.length q))] ∧ First ns rs v q := by
      rcases List.mem_cons.mp (List.mem_of_getElem? hd) with u | u
      · exact ⟨_, _, u, he.atLo⟩
      · exact ⟨_, _, List.mem_singleton.mp u, he.atHi⟩
    obtain ⟨v, q, rfl, hf⟩ := key
    have qin := pl.isP.mpr hf.isP
    have qb := place_in hs ho.2 pl qin
    walk_at "t2"
    walk_at "dn"
    walk_at "d"
    refine eva_lc (atF v) ?_
    refine evi_list ?_
    walk_at "d"
    refine ⟨by rw [List.length_map]; omega, fun d hd => ?_, ?_⟩
    · obtain ⟨y, _, rfl⟩ := lv_mem hd
      walk_at "c2"
      dsimp only [wipeS]
      walk_at "dn"
      walk_at "d"
      refine ⟨rfl, ?_⟩
      have ha : atF v (PyData.tuple [.int y, .int (lvl ns rs y)]) = if lvl ns rs y = v then some (.int y) else none := rfl
      rw [ha]
      by_cases e : lvl ns rs y = v
      · rw [if_pos (decide_eq_true e), if_pos e]
        refine ⟨_, rfl, ?_⟩
        walk_at "d"
        exact ⟨rfl, rfl⟩
      · rw [if_neg (by rw [decide_eq_false e]; decide), if_neg e]
    rw [lv_at]
    walk_at "d"
    cases hfl : ps.filter (fun y => decide (lvl ns rs y = v)) with
    | nil =>
      have : q ∈ ps.filter (fun y => decide (lvl ns rs y = v)) := List.mem_filter.mpr ⟨qin, decide_eq_true hf.lv⟩
      rw [hfl] at this
      cases this
    | cons y r =>
      have eyq : y = q := (First.of pl hfl).uniq hf
      subst eyq
      have hwc := word_choices hs.two ns.length y (Nat.le_refl _)
      refine opd_ixL (d := .int y) (at_di (j := 0) rfl rfl) ?_
      walk_at "d"
      walk_at "dn"
      walk_at "d"
      refine ⟨(ns, y), by rw [di_len]; rfl, hs, ?_⟩
      rintro _ rfl
      refine opd_neR rfl (shp_ints _) ?_
      walk_at "d"
      refine ⟨(ns, word ns ns.length y), rfl, ⟨hs, hwc⟩, ?_⟩
      rintro _ rfl
      walk_at "d"
      rw [show wn ns (word ns ns.length y) (word ns ns.length y).length = y by rw [word_len]; exact number_word hs qb.1 qb.2, decide_eq_true rfl]
      walk_at "d"
      refine ⟨(ns, rs, word ns ns.length y), rfl, ⟨hs, ho, hwc⟩, ?_⟩
      rintro _ rfl
      walk_at "d"
      rw [show cov ns rs (word ns ns.length y) = v by rw [cov_word hs ho.2 qb.1 qb.2]; exact hf.lv, decide_eq_true rfl]
      walk_at "d"
      refine at_btw [.dat (.list (di ns)), .dat (.list (rs.map rowD)), .dat (lvD ns rs ps), .dat (exD ns lo' plo hi' phi), .dat (.list (di (ps.map (lvl ns rs)))), .no, .no, .no, .no, .no] (by walk_at "dw") ⟨hds, rfl, _, _, _, rfl⟩
  · rintro _ _ ⟨hds, rfl, z5, z6, z7, rfl⟩
    walk_at "d"
    exact ret_dat (hq _ rfl)
end
end D
namespace D
open M
section
variable {Pg : Program} {w : World} {K : PySem.W.Frag} {mg : Str → Option Value} {base : Heap}
abbrev st__law_judged_right : Stmt := topS 48
theorem sc__law_judged_right : FnScope ["_law_rounds", "_law_rows", "_law_levels_here", "_law_amounts_here", "_law_top", "_law_bottom", "_law_due", "_law_place", "_law_total", "_law_free", "_law_row"] ["_law_rounds", "_law_rows", "_law_levels_here"] (defScope st__law_judged_right) := ⟨rfl, rfl, rfl, by decide +kernel, rfl, by decide +kernel, by decide +kernel⟩
theorem ok__law_judged_right {f : Addr} {fd : FuncData} (F : Fun K "_law_judged_right" "_law_judged_right" st__law_judged_right f fd) (B : Bt mg)
    (C__law_amounts : Cal Pg w K mg base 1 "_law_amounts" ["_law_rounds", "_law_rows"] (sp__law_amounts K))
    (C__law_word : Cal Pg w K mg base 1 "_law_word" ["_law_rounds", "_law_span", "_law_code"] (sp__law_word K))
    (C_is_prefix_free : Cal Pg w K mg base 5 "is_prefix_free" ["schedule", "plan"] (sp_is_prefix_free K))
    (C_plan_fault : Cal Pg w K mg base 6 "plan_fault" ["schedule", "counts", "plan"] (sp_plan_fault K))
    (C_weight : Cal Pg w K mg base 5 "weight" ["schedule", "counts"] (sp_weight K)) : FnOk Pg w K mg base CX0 7 f fd ["_law_rounds", "_law_rows", "_law_levels_here"] (sp__law_judged_right K) := by
  refine okP F sc__law_judged_right (fun _ => rfl) fun cdv A outer s H Q E hr => ?_
  refine ⟨_, (pss_cons (ps_set (i := 3) sc__law_judged_right.nd rfl (Or.inl rfl) (pe_cal C__law_amounts (hr.mono (by decide)) (by rfl) (pa_cons (pv 0) (pa_cons (pv 1) pa_nil))))
    (pss_cons (ps_asg (pe_cal C_weight (hr.mono (by decide)) (by rfl) (pa_cons (pv 0) (pa_cons (pv 3) pa_nil))) (pg_tup (by rfl) (pgs_cons (pg_name (i := 4) sc__law_judged_right.nd rfl (by first | exact Or.inl rfl | exact Or.inr rfl)) (pgs_cons (pg_name (i := 5) sc__law_judged_right.nd rfl (by first | exact Or.inl rfl | exact Or.inr rfl)) pgs_nil))))
    (pss_cons (ps_set (i := 6) sc__law_judged_right.nd rfl (Or.inl rfl) pe_non)
    (pss_cons (ps_for PassesOwn.never rfl (pi_list (pe_revL (pv 2))) (pg_tup (by rfl) (pgs_cons (pg_name (i := 7) sc__law_judged_right.nd rfl (by first | exact Or.inl rfl | exact Or.inr rfl)) (pgs_cons (pg_name (i := 8) sc__law_judged_right.nd rfl (by first | exact Or.inl rfl | exact Or.inr rfl)) pgs_nil)))
    (pss_one (ps_if (pt_not (pt_chain op_le op_le (pe_op op_fdivW (pv 4) (pv 5)) (pv 8) (pe_op op_sub pe_int (pe_op op_fdivW (pe_op op_sub pe_int (pv 4)) (pv 5))))) (pss_one (ps_set (i := 6) sc__law_judged_right.nd rfl (Or.inl rfl) (pe_tup (pa_cons (pe_cal C__law_word (hr.mono (by decide)) (by rfl) (pa_cons (pv 0) (pa_cons (pe_callB dc_len (by rfl) B.len PySem.boot_len (pa_cons (pv 0) pa_nil)) (pa_cons (pv 7) pa_nil)))) (pa_cons (pv 8) pa_nil))))) pss_nil)))
    (pss_cons (ps_if (pt_cmpR (op_neD hr.units) (pe_cal C_plan_fault hr (by rfl) (pa_cons (pv 0) (pa_cons (pv 3) (pa_cons (pv 1) pa_nil)))) (pv 6) (nomark _)) (pss_one (ps_ret pe_bl)) pss_nil)
    (pss_cons (ps_set (i := 9) sc__law_judged_right.nd rfl (Or.inl rfl) (pe_cmpR op_le (pe_callB (cr_max rfl) (by rfl) B.max PyProof.Rows.boot_max (pa_cons (pe_lc (own := [("_law_place", 7), ("_law_total", 8)]) (by rfl) sc__law_judged_right.nd (pi_list (pv 2)) (blkOk_by (own := [("_law_place", 7), ("_law_total", 8)]) (N := ["_law_rounds", "_law_rows", "_law_levels_here", "_law_amounts_here", "_law_top", "_law_bottom", "_law_due", "_law_place", "_law_total", "_law_free", "_law_row"]) (sc := defScope st__law_judged_right) (by decide +kernel)) (fun _ _ _ _ _ => (pg_tupK (K := K) rfl 2 rfl (pgs_cons (pg_name (i := 7) sc__law_judged_right.nd rfl (by first | exact Or.inl rfl | exact Or.inr rfl)) (pgs_cons (pg_name (i := 8) sc__law_judged_right.nd rfl (by first | exact Or.inl rfl | exact Or.inr rfl)) pgs_nil)))) (fun _ _ _ _ _ => pts_nil) (fun _ _ _ _ _ => (pv 8))) pa_nil)) pe_int (nomark _)))
    (pss_one (ps_ret (pe_and (pe_cmpR op_eq (pe_cal C_is_prefix_free (hr.mono (by decide)) (by rfl) (pa_cons (pv 0) (pa_cons (pv 1) pa_nil))) (pv 9) (nomark _)) (pe_one (pe_cal C_is_prefix_free (hr.mono (by decide)) (by rfl) (pa_cons (pv 0) (pa_cons (pe_lc (own := [("_law_row", 10)]) (by rfl) sc__law_judged_right.nd (pi_list (pe_slice sl_list (pv 1) po_none (po_some pe_int))) (blkOk_by (own := [("_law_row", 10)]) (N := ["_law_rounds", "_law_rows", "_law_levels_here", "_law_amounts_here", "_law_top", "_law_bottom", "_law_due", "_law_place", "_law_total", "_law_free", "_law_row"]) (sc := defScope st__law_judged_right) (by decide +kernel)) (fun _ _ _ _ _ => (pg_name (i := 10) sc__law_judged_right.nd rfl (by first | exact Or.inl rfl | exact Or.inr rfl))) (fun _ _ _ _ _ => pts_nil) (fun _ _ _ _ _ => (pe_op (r := rCatA K) op_catA (pe_slice (r := rSlA K) sl_tupA (pv 10) po_none (po_some pe_int)) (pe_tup (pa_cons pe_int pa_nil))))) pa_nil))))))))))))), fun S x hp hq => ?_⟩
  try dsimp only [cxOf]
  obtain ⟨ns, rs, ps⟩ := x
  obtain ⟨hs, ho, pl⟩ := hp
  dsimp only at hs ho pl
  have hrl := ho.1
  have pb := places_len pl
  have hW := hs.pos ns.length
  have big := hs.big
  have p0 : (0 : Int) ∈ ps := (pl.mem 0).mpr (.inl rfl)
  have pn : 0 < (ps.map (lvl ns rs)).length := by
    rw [List.length_map]
    exact List.length_pos_of_mem p0
  have s0 : 0 ≤ scaled ns (amounts ns rs) := by
    rw [scaled_worth ho.2]
    exact (worth_bound hs ho).1
  have gp := gcd_pos (a := scaled ns (amounts ns rs)) (show 0 < pd ns ns.length by omega)
  have gd := low_div s0 (show 0 < pd ns ns.length by omega)
  have bot1 : pd ns ns.length / M.gcd (scaled ns (amounts ns rs)) (pd ns ns.length) ≤ pd ns ns.length := Int.ediv_le_self _ (by omega)
  have bot0 : 0 < pd ns ns.length / M.gcd (scaled ns (amounts ns rs)) (pd ns ns.length) := Int.ediv_pos_of_pos_of_dvd (by omega) (by omega) (gcd_dvd s0 (by omega)).2
  walk_at "dn"
  walk_at "d"
  refine ⟨(ns, rs), rfl, ⟨hs, ho⟩, ?_⟩
  rintro _ rfl
  walk_at "dn"
  refine q_asg ?_
  walk_at "d"
  refine ⟨(ns, amounts ns rs), rfl, ⟨hs, amounts_counts hs ho, amounts_len ns rs⟩, ?_⟩
  rintro _ rfl
  refine ⟨_, _, tgt_tup rfl (tgts_cons tgt_name (tgts_cons tgt_name tgts_nil)), ?_⟩
  walk_at "dn"
  walk_at "d"
  walk_at "dn"
  refine q_for (fun ds i M ρ => ds = (lvT ns rs ps).reverse ∧ M = [] ∧ ∃ z7 z8, ρ = [.dat (.list (di ns)), .dat (.list (rs.map rowD)), .dat (lvD ns rs ps), .dat (.tuple (di (amounts ns rs))), .dat (.int (scaled ns (amounts ns rs) / _root_.M.gcd (scaled ns (amounts ns rs)) (pd ns ns.length))), .dat (.int (pd ns ns.length / _root_.M.gcd (scaled ns (amounts ns rs)) (pd ns ns.length))), .dat (fltD ns rs (ps.drop (ps.length - i))), z7, z8, .no, .no]) ?_
  refine evi_list ?_
  walk_at "d"
  refine ⟨⟨rfl, rfl, _, _, by rw [Nat.sub_zero, List.drop_length]; rfl⟩, ?_, ?_⟩
  · rintro i d _ _ hd ⟨hds, rfl, z7, z8, rfl⟩
    rw [hds] at hd
    have il : i < ps.length := by
      have := (List.getElem?_eq_some_iff.mp hd).1
      rwa [List.length_reverse, List.length_map] at this
    rw [List.getElem?_reverse (by rw [List.length_map]; exact il), List.length_map] at hd
    obtain ⟨y, hy, rfl⟩ := lv_get hd
    have st := flt_step (ns := ns) (rs := rs) il hy
    walk_at "t2"
    walk_at "dn"
    walk_at "d"
    refine opd_divW (cdiv (b := 700) bot0 (by omega)) ?_
    walk_at "d"
    rw [gd.1]
    refine ⟨fun h1 => ?_, fun h1 => ?_⟩
    · walk_at "d"
      refine opd_divW (cdiv (b := 700) bot0 (by omega)) ?_
      walk_at "d"
      rw [Int.zero_sub, Int.zero_sub, gd.2]
      refine ⟨fun h2 => ?_, fun h2 => ?_⟩
      · have hb : bad ns rs y = true := by
          unfold bad
          rw [h1, Bool.true_and]
          exact h2
        walk_at "d"
        refine ⟨(ns, y), by rw [di_len]; rfl, hs, ?_⟩
        rintro _ rfl
        walk_at "d"
        refine at_btw [.dat (.list (di ns)), .dat (.list (rs.map rowD)), .dat (lvD ns rs ps), .dat (.tuple (di (amounts ns rs))), .dat (.int (scaled ns (amounts ns rs) / M.gcd (scaled ns (amounts ns rs)) (pd ns ns.length))), .dat (.int (pd ns ns.length / M.gcd (scaled ns (amounts ns rs)) (pd ns ns.length))), .dat (fltD ns rs (ps.drop (ps.length - (i + 1)))), .no, .no, .no, .no] ?_ ⟨(by first | exact hds | trivial), rfl, _, _, rfl⟩
        rw [st, if_pos hb]
        walk_at "dw"
      · have hb : ¬ bad ns rs y = true := by
          unfold bad
          rw [h1, Bool.true_and]
          intro z
          rw [h2] at z
          cases z
        walk_at "d"
        refine at_btw [.dat (.list (di ns)), .dat (.list (rs.map rowD)), .dat (lvD ns rs ps), .dat (.tuple (di (amounts ns rs))), .dat (.int (scaled ns (amounts ns rs) / M.gcd (scaled ns (amounts ns rs)) (pd ns ns.length))), .dat (.int (pd ns ns.length / M.gcd (scaled ns (amounts ns rs)) (pd ns ns.length))), .dat (fltD ns rs (ps.drop (ps.length - (i + 1)))), .no, .no, .no, .no] ?_ ⟨(by first | exact hds | trivial), rfl, _, _, rfl⟩
        rw [st, if_neg hb]
        walk_at "dw"
    · have hb : bad ns rs y = true := by
        unfold bad
        rw [h1, Bool.false_and]
        rfl
      walk_at "d"
      refine ⟨(ns, y), by rw [di_len]; rfl, hs, ?_⟩
      rintro _ rfl
      walk_at "d"
      refine at_btw [.dat (.list (di ns)), .dat (.list (rs.map rowD)), .dat (lvD ns rs ps), .dat (.tuple (di (amounts ns rs))), .dat (.int (scaled ns (amounts ns rs) / M.gcd (scaled ns (amounts ns rs)) (pd ns ns.length))), .dat (.int (pd ns ns.length / M.gcd (scaled ns (amounts ns rs)) (pd ns ns.length))), .dat (fltD ns rs (ps.drop (ps.length - (i + 1)))), .no, .no, .no, .no] ?_ ⟨(by first | exact hds | trivial), rfl, _, _, rfl⟩
      rw [st, if_pos hb]
      walk_at "dw"
  · rintro _ _ ⟨hds, rfl, z7, z8, rfl⟩
    rw [List.length_reverse, List.length_map, Nat.sub_self, List.drop_zero]
    walk_at "d"
    refine ⟨(ns, rs), rfl, ⟨hs, ho⟩, ?_⟩
    rintro _ ⟨qs, ql, rfl⟩
    dsimp only at ql
    cases pl.uniq ql
    walk_at "d"
    refine opd_neR rfl (shp_flt _ _ _) ?_
    walk_at "d"
    refine eva_lc sndF ?_
    refine evi_list ?_
    walk_at "d"
    refine ⟨by rw [List.length_map]; omega, fun d hd => ?_, ?_⟩
    · obtain ⟨q, _, rfl⟩ := lv_mem hd
      walk_at "c2"
      dsimp only [wipeS]
      walk_at "dn"
      walk_at "d"
      refine ⟨rfl, ?_⟩
      rw [if_pos rfl]
      refine ⟨_, rfl, ?_⟩
      walk_at "d"
      exact ⟨rfl, rfl⟩
    rw [lv_snd]
    walk_at "d"
    refine cbd_max pn fun m mh1 mh2 => ?_
    walk_at "d"
    walk_at "dn"
    walk_at "d"
    refine ⟨(ns, rs), rfl, ⟨hs, ho⟩, ?_⟩
    rintro _ ⟨lo, plo, hi, phi, he, rfl⟩
    dsimp only at he
    obtain ⟨q2, m2, e2⟩ := List.mem_map.mp mh1
    have eh : m = hi := by
      have a := he.most q2 (pl.isP.mp m2)
      have b := mh2 _ (List.mem_map_of_mem (pl.isP.mpr he.atHi.isP))
      have c := he.atHi.lv
      omega
    subst eh
    walk_at "d"
    rw [decide_eq_true rfl]
    walk_at "d"
    refine eva_lc oneF ?_
    refine evi_list ?_
    walk_at "d"
    rw [cutD_one]
    refine ⟨by rw [List.length_take]; omega, fun d hd => ?_, ?_⟩
    · obtain ⟨r, _, rfl⟩ := List.mem_map.mp (List.mem_of_mem_take hd)
      walk_at "c1"
      dsimp only [wipeS]
      walk_at "dn"
      walk_at "d"
      refine ⟨rfl, ?_⟩
      rw [if_pos rfl]
      refine ⟨_, rfl, ?_⟩
      walk_at "d"
      refine opd_catT (by show 2 + 1 ≤ 100000; decide) ?_
      exact ⟨rfl, rfl⟩
    rw [show ((rs.map rowD).take 1).filterMap oneF = (ones rs).map rowD by rw [← List.map_take]; exact row_ones rs]
    walk_at "d"
    refine ⟨(ns, ones rs), rfl, ⟨hs, ones_plan ho⟩, ?_⟩
    rintro _ ⟨lo2, plo2, hi2, phi2, he2, rfl⟩
    dsimp only at he2
    have h1 : hi2 ≤ 1 := by
      have a := ones_lvl hs ho phi2
      have b := he2.atHi.lv
      omega
    rw [decide_eq_true h1]
    exact ret_dat (hq _ rfl)
abbrev st__law_rest_right : Stmt := topS 50
theorem sc__law_rest_right : FnScope ["_law_source_here", "_law_rounds", "_law_rows", "_law_word_here", "_law_done", "_law_rest", "_law_due"] ["_law_source_here", "_law_rounds", "_law_rows", "_law_word_here"] (defScope st__law_rest_right) := ⟨rfl, rfl, rfl, by decide +kernel, rfl, by decide +kernel, by decide +kernel⟩
theorem ok__law_rest_right {f : Addr} {fd : FuncData} (F : Fun K "_law_rest_right" "_law_rest_right" st__law_rest_right f fd) (B : Bt mg)
    (C__law_draw : Cal Pg w K mg base 2 "_law_draw" ["_law_source_here", "_law_limit"] (sp__law_draw K))
    (C_covered : Cal Pg w K mg base 4 "covered" ["schedule", "plan", "choices"] (sp_covered K))
    (C_rest_of : Cal Pg w K mg base 4 "rest_of" ["schedule", "plan", "choices"] (sp_rest_of K)) : FnOk Pg w K mg base CX0 5 f fd ["_law_source_here", "_law_rounds", "_law_rows", "_law_word_here"] (sp__law_rest_right K) := by
  refine okS F sc__law_rest_right (fun _ => rfl) fun cdv A outer s H Q E hr => ?_
  refine ⟨_, (pss_cons (ps_set (i := 4) sc__law_rest_right.nd rfl (Or.inl rfl) (pe_cal C__law_draw (hr.mono (by decide)) (by rfl) (pa_cons (pv 0) (pa_cons (pe_op op_add (pe_callB dc_len (by rfl) B.len PySem.boot_len (pa_cons (pv 1) pa_nil)) pe_int) pa_nil))))
    (pss_cons (ps_set (i := 5) sc__law_rest_right.nd rfl (Or.inl rfl) (pe_cal C_rest_of hr (by rfl) (pa_cons (pv 1) (pa_cons (pv 2) (pa_cons (pe_slice sl_tupA (pv 3) po_none (po_some (pv 4))) pa_nil)))))
    (pss_cons (ps_set (i := 6) sc__law_rest_right.nd rfl (Or.inl rfl) (pe_op op_add (pe_cal C_covered hr (by rfl) (pa_cons (pv 1) (pa_cons (pv 2) (pa_cons (pe_slice sl_tupA (pv 3) po_none (po_some (pv 4))) pa_nil)))) (pe_cal C_covered hr (by rfl) (pa_cons (pe_slice sl_list (pv 1) (po_some (pv 4)) po_none) (pa_cons (pv 5) (pa_cons (pe_slice sl_tupA (pv 3) (po_some (pv 4)) po_none) pa_nil))))))
    (pss_one (ps_ret (pe_cmpR op_eq (pe_cal C_covered hr (by rfl) (pa_cons (pv 1) (pa_cons (pv 2) (pa_cons (pv 3) pa_nil)))) (pv 6) (nomark _))))))), fun S a sr x hp hq => ?_⟩
  try dsimp only [cxOf]
  obtain ⟨ns, rs, cs⟩ := x
  obtain ⟨hs, ho, hc, hl⟩ := hp
  dsimp only at hs ho hc hl
  have hlen := hs.len
  have big : (9223372036854775808 : Int) < P2 700 := by decide +kernel
  walk_at "dn"
  walk_at "d"
  refine eva_callS ?_
  walk_at "d"
  refine ⟨0, a, _, _, (ns.length : Int) + 1, rfl, by rw [di_len]; rfl, rfl, ⟨by omega, by omega⟩, ?_⟩
  rintro _ s2 ⟨z, rfl, z0, z1⟩
  obtain ⟨k, rfl⟩ := Int.eq_ofNat_of_zero_le z0
  have kl : k ≤ ns.length := by omega
  have C : RestCx ns cs k := ⟨hs, hc, hl, kl⟩
  walk_at "dn"
  walk_at "d"
  rw [cutD_take (di cs) rfl (by rw [di_len]; omega), di_take]
  refine ⟨(ns, rs, cs.take k), rfl, ⟨hs, ho, hc.take k⟩, ?_⟩
  rintro _ rfl
  walk_at "dn"
  walk_at "d"
  rw [cutD_take (di cs) rfl (by rw [di_len]; omega), di_take]
  refine ⟨(ns, rs, cs.take k), rfl, ⟨hs, ho, hc.take k⟩, ?_⟩
  rintro _ rfl
  walk_at "d"
  rw [cutD_drop (di ns) rfl (by rw [di_len]; omega), di_drop, cutD_drop (di cs) rfl (by rw [di_len]; omega), di_drop]
  refine ⟨(ns.drop k, restR ns rs (cs.take k), cs.drop k), rfl, ⟨hs.drop k kl, rest_plan C ho, hc.drop k⟩, ?_⟩
  rintro _ rfl
  walk_at "d"
  walk_at "dn"
  walk_at "d"
  refine ⟨(ns, rs, cs), rfl, ⟨hs, ho, hc⟩, ?_⟩
  rintro _ rfl
  walk_at "d"
  rw [decide_eq_true (show cov ns rs cs = _ from rest_cov C ho.2)]
  exact hq _ s2 rfl _ _ _ rfl rfl
end
end D
namespace D
open M
section
variable {Pg : Program} {w : World} {K : PySem.W.Frag} {mg : Str → Option Value} {base : Heap}
abbrev st__law_complement_right : Stmt := topS 49
theorem sc__law_complement_right : FnScope ["_law_source_here", "_law_rounds", "_law_rows", "_law_sizes_so", "_law_others", "_law_turns", "_law_span", "_law_first", "_law_amount", "_law_more", "_law_one", "_law_other", "_law_both"] ["_law_source_here", "_law_rounds", "_law_rows"] (defScope st__law_complement_right) := ⟨rfl, rfl, rfl, by decide +kernel, rfl, by decide +kernel, by decide +kernel⟩
theorem ok__law_complement_right {f : Addr} {fd : FuncData} (F : Fun K "_law_complement_right" "_law_complement_right" st__law_complement_right f fd) (B : Bt mg)
    (C__law_draw : Cal Pg w K mg base 2 "_law_draw" ["_law_source_here", "_law_limit"] (sp__law_draw K))
    (C__law_sizes : Cal Pg w K mg base 1 "_law_sizes" ["_law_rounds"] (sp__law_sizes K))
    (C_extreme_choices : Cal Pg w K mg base 4 "extreme_choices" ["schedule", "plan"] (sp_extreme_choices K)) : FnOk Pg w K mg base CX0 5 f fd ["_law_source_here", "_law_rounds", "_law_rows"] (sp__law_complement_right K) := by
  refine okS F sc__law_complement_right (fun _ => rfl) fun cdv A outer s H Q E hr => ?_
  refine ⟨_, (pss_cons (ps_set (i := 3) sc__law_complement_right.nd rfl (Or.inl rfl) (pe_cal C__law_sizes (hr.mono (by decide)) (by rfl) (pa_cons (pv 1) pa_nil)))
    (pss_cons (ps_set (i := 4) sc__law_complement_right.nd rfl (Or.inl rfl) (pe_lst pa_nil))
    (pss_cons (ps_set (i := 5) sc__law_complement_right.nd rfl (Or.inl rfl) pe_int)
    (pss_cons (ps_for PassesOwn.never rfl (pi_list (pv 2)) (pg_tup (by rfl) (pgs_cons (pg_name (i := 6) sc__law_complement_right.nd rfl (by first | exact Or.inl rfl | exact Or.inr rfl)) (pgs_cons (pg_name (i := 7) sc__law_complement_right.nd rfl (by first | exact Or.inl rfl | exact Or.inr rfl)) (pgs_cons (pg_name (i := 8) sc__law_complement_right.nd rfl (by first | exact Or.inl rfl | exact Or.inr rfl)) pgs_nil))))
    (pss_cons (ps_set (i := 9) sc__law_complement_right.nd rfl (Or.inl rfl) (pe_op op_add (pe_op op_add (pe_op op_fdivW (pv 8) (pe_ix ix_list (pv 3) (pv 6) (fun _ _ => rfl))) pe_int) (pe_cal C__law_draw (hr.mono (by decide)) (by rfl) (pa_cons (pv 0) (pa_cons pe_int pa_nil)))))
    (pss_cons (ps_set (i := 5) sc__law_complement_right.nd rfl (Or.inl rfl) (pe_op op_add (pv 5) (pv 9)))
    (pss_one (ps_expr (pe_bm PySem.F.plainAttrs_list PySem.F.slot_list_append PySem.F.type_list_append mt_append (pv 4) (pa_cons (pe_tup (pa_cons (pv 6) (pa_cons (pe_op op_mod (pe_op op_add (pv 7) (pv 8)) (pe_ix ix_list (pv 3) (pv 6) (fun _ _ => rfl))) (pa_cons (pe_op op_sub (pe_op op_mulW (pv 9) (pe_ix ix_list (pv 3) (pv 6) (fun _ _ => rfl))) (pv 8)) pa_nil)))) pa_nil)))))))
    (pss_cons (ps_par (by rfl) sc__law_complement_right.nd (i := 10) (j := 11) rfl rfl (by decide) rfl rfl (pa_cons (pe_cal C_extreme_choices hr (by rfl) (pa_cons (pv 1) (pa_cons (pv 2) pa_nil))) (pa_cons (pe_cal C_extreme_choices hr (by rfl) (pa_cons (pv 1) (pa_cons (pv 4) pa_nil))) pa_nil)) (by rfl))
    (pss_cons (ps_if (PW.pt (pw_or (pt_cmpR (op_neD hr.units) (pe_tup (pa_cons (pe_op op_add (pe_ix ix_tup (pv 10) pe_int (fun _ _ => rfl)) (pe_ix ix_tup (pv 11) pe_int (fun _ _ => rfl))) (pa_cons (pe_op op_add (pe_ix ix_tup (pv 10) pe_int (fun _ _ => rfl)) (pe_ix ix_tup (pv 11) pe_int (fun _ _ => rfl))) pa_nil))) (pe_tup (pa_cons (pv 5) (pa_cons (pv 5) pa_nil))) (nomark _)) (pw_or1 (pt_cmpR (op_neD hr.units) (pe_tup (pa_cons (pe_ix ix_tup (pv 10) pe_int (fun _ _ => rfl)) (pa_cons (pe_ix ix_tup (pv 10) pe_int (fun _ _ => rfl)) pa_nil))) (pe_tup (pa_cons (pe_ix ix_tup (pv 11) pe_int (fun _ _ => rfl)) (pa_cons (pe_ix ix_tup (pv 11) pe_int (fun _ _ => rfl)) pa_nil))) (nomark _))))) (pss_one (ps_ret pe_bl)) pss_nil)
    (pss_cons (ps_set (i := 12) sc__law_complement_right.nd rfl (Or.inl rfl) (pe_cal C_extreme_choices hr (by rfl) (pa_cons (pv 1) (pa_cons (pe_op op_catL (pv 2) (pv 4)) pa_nil))))
    (pss_one (ps_ret (pe_cmpR (op_eqD hr.units) (pv 12) (pe_tup (pa_cons (pv 5) (pa_cons (pe_op op_repA (pe_tup (pa_cons pe_int pa_nil)) (pe_callB dc_len (by rfl) B.len PySem.boot_len (pa_cons (pv 1) pa_nil))) (pa_cons (pv 5) (pa_cons (pe_op op_repA (pe_tup (pa_cons pe_int pa_nil)) (pe_callB dc_len (by rfl) B.len PySem.boot_len (pa_cons (pv 1) pa_nil))) pa_nil))))) (nomark _))))))))))), fun S a sr x hp hq => ?_⟩
  try dsimp only [cxOf]
  obtain ⟨ns, rs⟩ := x
  obtain ⟨hs, ho, hl8⟩ := hp
  dsimp only at hs ho hl8
  have hlen := hs.len
  have big : (9223372036854775808 : Int) < P2 700 := by decide +kernel
  walk_at "dn"
  walk_at "d"
  refine ⟨hs, ?_⟩
  rintro _ rfl
  walk_at "d"
  refine eva_lstM ?_
  walk_at "d"
  intro p
  walk_at "dn"
  walk_at "d"
  walk_at "dn"
  refine q_for (fun ds i M ρ => ∃ (prs : List (_root_.M.Row × Int)), ∃ s z1 z2 z3 z4, prs.map (·.1) = rs.take i ∧ (∀ x ∈ prs, x.1.c / pd ns x.1.d + 1 ≤ x.2 ∧ x.2 ≤ x.1.c / pd ns x.1.d + 3) ∧ M = [(p, .lst ((oths ns prs).map rowD)), (a, .lst (srcD s))] ∧
    ρ = [.adr a, .dat (.list (di ns)), .dat (.list (rs.map rowD)), .dat (.list (di (sizes ns))), .adr p, .dat (.int (prs.map (·.2)).sum), z1, z2, z3, z4, .no, .no, .no]) ?_
  refine evi_list ?_
  walk_at "d"
  refine ⟨⟨[], sr, _, _, _, _, rfl, fun x hx => (nomatch hx), rfl, rfl⟩, ?_, ?_⟩
  · rintro i d _ _ hd ⟨prs, sr, z1, z2, z3, z4, hp1, hp2, rfl, rfl⟩
    obtain ⟨r, hr1, rfl⟩ := rows_get hd
    have o := ho.2 r (List.mem_of_getElem? hr1)
    have q0 := hs.pos r.d
    have q1 := hs.lt o.dn
    have c1 := o.c1
    have cb := o.cb
    have t0 : 0 ≤ r.c / pd ns r.d := Int.ediv_nonneg (by omega) (by omega)
    have t1 : r.c / pd ns r.d ≤ r.c := Int.ediv_le_self _ (by omega)
    have il : i < rs.length := (List.getElem?_eq_some_iff.mp hr1).1
    have pll : prs.length = i := by
      have := congrArg List.length hp1
      rw [List.length_map, List.length_take] at this
      omega
    have p711 := P2_711
    have p3 : P2 711 + 2 < P2 800 := by decide +kernel
    walk_at "t3"
    walk_at "dn"
    walk_at "d"
    refine opd_ixL (at_di (sizes_get o.dn) rfl) ?_
    refine opd_divW (cdiv (by omega) q1) ?_
    walk_at "d"
    refine eva_callS ?_
    walk_at "d"
    refine ⟨1, a, _, _, 3, rfl, rfl, rfl, ⟨by decide, by omega⟩, ?_⟩
    rintro _ s2 ⟨v, rfl, v0, v1⟩
    walk_at "dn"
    walk_at "d"
    walk_at "dn"
    walk_at "d"
    walk_at "dn"
    walk_at "d"
    refine opd_ixL (at_di (sizes_get o.dn) rfl) ?_
    refine opd_mod (by omega) ?_
    walk_at "d"
    refine opd_ixL (at_di (sizes_get o.dn) rfl) ?_
    refine opd_mulW (cmul (a := 800) (b := 700) (by omega) (by omega) (by omega) q1) ?_
    walk_at "d"
    refine ⟨_, _, rfl, rfl, by rw [List.length_map, List.length_map, pll]; omega, ?_⟩
    walk_at "dn"
    refine at_btw [.adr a, .dat (.list (di ns)), .dat (.list (rs.map rowD)), .dat (.list (di (sizes ns))), .adr p, .dat (.int ((prs ++ [(r, r.c / pd ns r.d + 1 + v)]).map (·.2)).sum), .no, .no, .no, .no, .no, .no, .no] ?_ ⟨prs ++ [(r, r.c / pd ns r.d + 1 + v)], s2, _, _, _, _, ?_, fun x hx => ?_, ?_, rfl⟩
    · rw [List.map_append, List.sum_append]
      simp only [List.map_cons, List.map_nil, List.sum_cons, List.sum_nil, Int.add_zero]
      walk_at "dw"
    · rw [List.map_append, hp1, List.take_add_one, hr1]
      rfl
    · rcases List.mem_append.mp hx with u | u
      · exact hp2 x u
      · rw [List.mem_singleton.mp u]
        exact ⟨by show r.c / pd ns r.d + 1 ≤ r.c / pd ns r.d + 1 + v; omega, by show r.c / pd ns r.d + 1 + v ≤ r.c / pd ns r.d + 3; omega⟩
    · rw [show oths ns (prs ++ [(r, r.c / pd ns r.d + 1 + v)]) = oths ns prs ++ [other ns r (r.c / pd ns r.d + 1 + v)] by rw [oths, List.map_append]; rfl, List.map_append]
      rfl
  · rintro _ _ ⟨prs, sr, z1, z2, z3, z4, hp1, hp2, rfl, rfl⟩
    rw [List.length_map, List.take_length] at hp1
    have ho2 : ∀ r ∈ prs.map (·.1), RowOk ns r := fun r hr => ho.2 r (by rw [← hp1]; exact hr)
    have pll : prs.length = rs.length := by
      rw [← hp1, List.length_map]
    have oo : ∀ r ∈ oths ns prs, RowOk ns r := fun r hr => by
      obtain ⟨x, hx, rfl⟩ := List.mem_map.mp hr
      exact other_ok hs (ho2 x.1 (List.mem_map.mpr ⟨x, hx, rfl⟩)) (hp2 x hx).1 (hp2 x hx).2
    have po : Plan ns (oths ns prs) := ⟨by rw [List.length_map, pll]; omega, oo⟩
    have pb : Plan ns (rs ++ oths ns prs) := ⟨by rw [List.length_append, List.length_map, pll]; omega, fun r hr => (List.mem_append.mp hr).elim (ho.2 r) (oo r)⟩
    have eb := ext_both hs ho2
    rw [hp1] at eb
    refine at_freeze 0 4 rfl rfl ?_
    walk_at "dn"
    walk_at "d"
    refine ⟨(ns, rs), rfl, ⟨hs, ho⟩, ?_⟩
    rintro _ ⟨lo, plo, hi, phi, he, rfl⟩
    dsimp only at he
    walk_at "d"
    refine ⟨(ns, oths ns prs), rfl, ⟨hs, po⟩, ?_⟩
    rintro _ ⟨lo2, plo2, hi2, phi2, he2, rfl⟩
    dsimp only at he2
    have ee : Ext ns (oths ns prs) ((prs.map (·.2)).sum - hi) phi ((prs.map (·.2)).sum - lo) plo := ext_oths hs ho2 (by rw [hp1]; exact he)
    obtain ⟨u1, u2, u3, u4⟩ := he2.uniq ee
    subst u1 u2 u3 u4
    walk_at "d"
    walk_at "dn"
    walk_at "d"
    refine opd_ixT (d := .int lo) rfl ?_
    walk_at "d"
    refine opd_ixT (d := .int ((prs.map (·.2)).sum - lo)) rfl ?_
    walk_at "d"
    refine opd_ixT (d := .int hi) rfl ?_
    walk_at "d"
    refine opd_ixT (d := .int ((prs.map (·.2)).sum - hi)) rfl ?_
    walk_at "d"
    rw [show lo + ((prs.map (·.2)).sum - lo) = (prs.map (·.2)).sum by omega, show hi + ((prs.map (·.2)).sum - hi) = (prs.map (·.2)).sum by omega]
    refine opd_neR rfl (shp_tup (lay_cons (lay_int _) (lay_cons (lay_int _) lay_nil))) ?_
    walk_at "d"
    refine opd_ixT (d := .tuple (di (word ns ns.length _))) rfl ?_
    walk_at "d"
    refine opd_ixT (d := .tuple (di (word ns ns.length _))) rfl ?_
    walk_at "d"
    refine opd_ixT (d := .tuple (di (word ns ns.length _))) rfl ?_
    walk_at "d"
    refine opd_ixT (d := .tuple (di (word ns ns.length _))) rfl ?_
    walk_at "d"
    refine opd_neR rfl (shp_tup (lay_cons (lay_tupI _) (lay_cons (lay_tupI _) lay_nil))) ?_
    walk_at "d"
    refine opd_catL (by rw [List.length_map, List.length_map, List.length_map]; omega) ?_
    walk_at "d"
    refine ⟨(ns, rs ++ oths ns prs), by rw [← List.map_append]; rfl, ⟨hs, pb⟩, ?_⟩
    rintro _ ⟨lo3, plo3, hi3, phi3, he3, rfl⟩
    dsimp only at he3
    obtain ⟨u1, u2, u3, u4⟩ := he3.uniq eb
    subst u1 u2 u3 u4
    walk_at "d"
    walk_at "dn"
    walk_at "d"
    refine eva_op ?_
    walk_at "d"
    rw [di_len]
    refine opd_repT (by omega) ?_
    walk_at "d"
    refine eva_op ?_
    walk_at "d"
    rw [di_len]
    refine opd_repT (by omega) ?_
    walk_at "d"
    refine opd_eqR ?_ (shp_ex ns _ _ _ _) ?_
    · rw [show exD ns (prs.map (·.2)).sum 0 (prs.map (·.2)).sum 0 = .tuple [.int (prs.map (·.2)).sum, .tuple (di (word ns ns.length 0)), .int (prs.map (·.2)).sum, .tuple (di (word ns ns.length 0))] from rfl, word_zero, di, List.map_replicate]
    · exact hq _ sr rfl _ _ _ rfl rfl
end
end D
namespace D
open M
section
variable {Pg : Program} {w : World} {K : PySem.W.Frag} {mg : Str → Option Value} {base : Heap}
abbrev st__law_is_right : Stmt := topS 51
theorem sc__law_is_right : FnScope ["_law_source_here", "_law_rounds", "_law_rows", "_law_levels_here", "_law_place", "_law_total", "_law_word_here"] ["_law_source_here", "_law_rounds"] (defScope st__law_is_right) := ⟨rfl, rfl, rfl, by decide +kernel, rfl, by decide +kernel, by decide +kernel⟩
theorem ok__law_is_right {f : Addr} {fd : FuncData} (F : Fun K "_law_is_right" "_law_is_right" st__law_is_right f fd) (B : Bt mg)
    (C__law_amounts : Cal Pg w K mg base 1 "_law_amounts" ["_law_rounds", "_law_rows"] (sp__law_amounts K))
    (C__law_complement_right : Cal Pg w K mg base 5 "_law_complement_right" ["_law_source_here", "_law_rounds", "_law_rows"] (sp__law_complement_right K))
    (C__law_draw : Cal Pg w K mg base 2 "_law_draw" ["_law_source_here", "_law_limit"] (sp__law_draw K))
    (C__law_extremes_right : Cal Pg w K mg base 5 "_law_extremes_right" ["_law_rounds", "_law_rows", "_law_levels_here"] (sp__law_extremes_right K))
    (C__law_judged_right : Cal Pg w K mg base 7 "_law_judged_right" ["_law_rounds", "_law_rows", "_law_levels_here"] (sp__law_judged_right K))
    (C__law_levels : Cal Pg w K mg base 2 "_law_levels" ["_law_rounds", "_law_rows"] (sp__law_levels K))
    (C__law_mean_right : Cal Pg w K mg base 6 "_law_mean_right" ["_law_rounds", "_law_rows", "_law_levels_here"] (sp__law_mean_right K))
    (C__law_plan : Cal Pg w K mg base 3 "_law_plan" ["_law_source_here", "_law_rounds", "_law_rows", "_law_most"] (sp__law_plan K))
    (C__law_rest_right : Cal Pg w K mg base 5 "_law_rest_right" ["_law_source_here", "_law_rounds", "_law_rows", "_law_word_here"] (sp__law_rest_right K))
    (C__law_word : Cal Pg w K mg base 1 "_law_word" ["_law_rounds", "_law_span", "_law_code"] (sp__law_word K))
    (C_check_plan : Cal Pg w K mg base 5 "check_plan" ["schedule", "counts", "plan"] (sp_check_plan K))
    (C_covered : Cal Pg w K mg base 4 "covered" ["schedule", "plan", "choices"] (sp_covered K)) : FnOk Pg w K mg base CX0 8 f fd ["_law_source_here", "_law_rounds"] (sp__law_is_right K) := by
  refine okS F sc__law_is_right (fun _ => rfl) fun cdv A outer s H Q E hr => ?_
  refine ⟨_, (pss_cons (ps_set (i := 2) sc__law_is_right.nd rfl (Or.inl rfl) (pe_cal C__law_plan (hr.mono (by decide)) (by rfl) (pa_cons (pv 0) (pa_cons (pv 1) (pa_cons (pe_cal C__law_draw (hr.mono (by decide)) (by rfl) (pa_cons (pv 0) (pa_cons pe_int pa_nil))) (pa_cons (pe_op op_pow pe_int pe_int) pa_nil))))))
    (pss_cons (ps_set (i := 3) sc__law_is_right.nd rfl (Or.inl rfl) (pe_cal C__law_levels (hr.mono (by decide)) (by rfl) (pa_cons (pv 1) (pa_cons (pv 2) pa_nil))))
    (pss_cons (ps_for PassesOwn.never rfl (pi_list (pv 3)) (pg_tup (by rfl) (pgs_cons (pg_name (i := 4) sc__law_is_right.nd rfl (by first | exact Or.inl rfl | exact Or.inr rfl)) (pgs_cons (pg_name (i := 5) sc__law_is_right.nd rfl (by first | exact Or.inl rfl | exact Or.inr rfl)) pgs_nil)))
    (pss_cons (ps_set (i := 6) sc__law_is_right.nd rfl (Or.inl rfl) (pe_cal C__law_word (hr.mono (by decide)) (by rfl) (pa_cons (pv 1) (pa_cons (pe_callB dc_len (by rfl) B.len PySem.boot_len (pa_cons (pv 1) pa_nil)) (pa_cons (pv 4) pa_nil)))))
    (pss_one (ps_if (PW.pt (pw_or (pt_cmpR op_ne (pe_cal C_covered (hr.mono (by decide)) (by rfl) (pa_cons (pv 1) (pa_cons (pv 2) (pa_cons (pv 6) pa_nil)))) (pv 5) (nomark _)) (pw_or1 (pt_not (pt_val (pe_cal C__law_rest_right (hr.mono (by decide)) (by rfl) (pa_cons (pv 0) (pa_cons (pv 1) (pa_cons (pv 2) (pa_cons (pv 6) pa_nil)))))))))) (pss_one (ps_ret pe_bl)) pss_nil))))
    (pss_cons (ps_if (PW.pt (pw_or (pt_not (pt_val (pe_cal C__law_mean_right (hr.mono (by decide)) (by rfl) (pa_cons (pv 1) (pa_cons (pv 2) (pa_cons (pv 3) pa_nil)))))) (pw_or1 (pt_not (pt_val (pe_cal C__law_extremes_right (hr.mono (by decide)) (by rfl) (pa_cons (pv 1) (pa_cons (pv 2) (pa_cons (pv 3) pa_nil))))))))) (pss_one (ps_ret pe_bl)) pss_nil)
    (pss_cons (ps_if (pt_cmpR dc_notN (pe_cal C_check_plan (hr.mono (by decide)) (by rfl) (pa_cons (pv 1) (pa_cons (pe_cal C__law_amounts (hr.mono (by decide)) (by rfl) (pa_cons (pv 1) (pa_cons (pv 2) pa_nil))) (pa_cons (pv 2) pa_nil)))) pe_non (nomark _)) (pss_one (ps_ret pe_bl)) pss_nil)
    (pss_one (ps_ret (pe_and (pe_cal C__law_judged_right hr (by rfl) (pa_cons (pv 1) (pa_cons (pv 2) (pa_cons (pv 3) pa_nil)))) (pe_one (pe_cal C__law_complement_right (hr.mono (by decide)) (by rfl) (pa_cons (pv 0) (pa_cons (pv 1) (pa_cons (pv 2) pa_nil))))))))))))), fun S a sr x hp hq => ?_⟩
  try dsimp only [cxOf]
  revert hp hq
  revert x
  intro ns hs hq
  have hlen := hs.len
  have big : (9223372036854775808 : Int) < P2 700 := by decide +kernel
  walk_at "dn"
  walk_at "d"
  refine eva_callS ?_
  walk_at "d"
  refine eva_callS ?_
  walk_at "d"
  refine ⟨0, a, _, _, 9, rfl, rfl, rfl, ⟨by decide, by omega⟩, ?_⟩
  rintro _ s2 ⟨r, rfl, r0, r1⟩
  walk_at "dn"
  walk_at "d"
  refine opd_pow (by unfold CPow; decide) ?_
  walk_at "d"
  refine ⟨0, a, _, _, (ns, r), rfl, rfl, rfl, ⟨hs, r0, by show r ≤ 8; omega⟩, ?_⟩
  rintro _ s3 ⟨rs, rfl, ho, hl8⟩
  dsimp only at ho
  walk_at "dn"
  walk_at "d"
  refine ⟨(ns, rs), rfl, ⟨hs, ho⟩, ?_⟩
  rintro _ ⟨ps, pl, rfl⟩
  dsimp only at pl
  walk_at "dn"
  refine q_for (fun ds i M ρ => ds = lvT ns rs ps ∧ ∃ s z4 z5 z6, M = [(a, .lst (srcD s))] ∧ ρ = [.adr a, .dat (.list (di ns)), .dat (.list (rs.map rowD)), .dat (lvD ns rs ps), z4, z5, z6]) ?_
  refine evi_list ?_
  walk_at "d"
  refine ⟨⟨rfl, _, _, _, _, rfl, rfl⟩, ?_, ?_⟩
  · rintro i d _ _ hd ⟨hds, s4, z4, z5, z6, rfl, rfl⟩
    rw [hds] at hd
    obtain ⟨y, hy, rfl⟩ := lv_get hd
    have qb := place_in hs ho.2 pl (List.mem_of_getElem? hy)
    have hwc := word_choices hs.two ns.length y (Nat.le_refl _)
    walk_at "t2"
    walk_at "dn"
    walk_at "d"
    refine ⟨(ns, y), by rw [di_len]; rfl, hs, ?_⟩
    rintro _ rfl
    walk_at "dn"
    walk_at "d"
    refine ⟨(ns, rs, word ns ns.length y), rfl, ⟨hs, ho, hwc⟩, ?_⟩
    rintro _ rfl
    walk_at "d"
    rw [show cov ns rs (word ns ns.length y) = lvl ns rs y from cov_word hs ho.2 qb.1 qb.2, decide_eq_true rfl]
    walk_at "d"
    refine eva_callS ?_
    walk_at "d"
    refine ⟨0, a, _, _, (ns, rs, word ns ns.length y), rfl, rfl, rfl, ⟨hs, ho, hwc, word_len _ _ _⟩, ?_⟩
    rintro _ s5 rfl
    walk_at "dn"
    walk_at "d"
    refine at_btw [.adr a, .dat (.list (di ns)), .dat (.list (rs.map rowD)), .dat (lvD ns rs ps), .no, .no, .no] (by walk_at "dw") ⟨(by first | exact hds | trivial), s5, _, _, _, rfl, rfl⟩
  · rintro _ _ ⟨hds, s4, z4, z5, z6, rfl, rfl⟩
    walk_at "d"
    refine ⟨(ns, rs, ps), rfl, ⟨hs, ho, pl⟩, ?_⟩
    rintro _ rfl
    walk_at "d"
    refine ⟨(ns, rs, ps), rfl, ⟨hs, ho, pl⟩, ?_⟩
    rintro _ rfl
    walk_at "d"
    refine ⟨(ns, rs), rfl, ⟨hs, ho⟩, ?_⟩
    rintro _ rfl
    walk_at "d"
    refine ⟨(ns, rs), rfl, ⟨hs, ho⟩, ?_⟩
    rintro _ rfl
    walk_at "d"
    refine ⟨(ns, rs, ps), rfl, ⟨hs, ho, pl⟩, ?_⟩
    rintro _ rfl
    walk_at "d"
    refine eva_callS ?_
    walk_at "d"
    refine ⟨0, a, _, _, (ns, rs), rfl, rfl, rfl, ⟨hs, ho, hl8⟩, ?_⟩
    rintro _ s6 rfl
    walk_at "dn"
    exact hq _ s6 rfl _ _ _ rfl rfl
abbrev st_law : Stmt := topS 52
theorem sc_law : FnScope ["_law_script", "_law_cell", "_law_source_here"] ["_law_script"] (defScope st_law) := ⟨rfl, rfl, rfl, by decide +kernel, rfl, by decide +kernel, by decide +kernel⟩
theorem ok_law {f : Addr} {fd : FuncData} (F : Fun K "law" "law" st_law f fd) (B : Bt mg)
    (C__law_is_right : Cal Pg w K mg base 8 "_law_is_right" ["_law_source_here", "_law_rounds"] (sp__law_is_right K))
    (C__law_source : Cal Pg w K mg base 1 "_law_source" ["_law_cell"] (sp__law_source K))
    (C__law_wide : Cal Pg w K mg base 3 "_law_wide" ["_law_source_here"] (sp__law_wide K)) : FnOk Pg w K mg base CX0 9 f fd ["_law_script"] (sp_law K) := by
  refine okP F sc_law (fun _ => rfl) fun cdv A outer s H Q E hr => ?_
  refine ⟨_, (pss_cons (ps_for PassesOwn.never rfl (pi_list (pe_op op_catL (pe_lst (pa_cons pe_int pa_nil)) (pe_slice sl_list (pv 0) po_none (po_some pe_int)))) (pg_name (i := 1) sc_law.nd rfl (by first | exact Or.inl rfl | exact Or.inr rfl))
    (pss_cons (ps_set (i := 2) sc_law.nd rfl (Or.inl rfl) (pe_cal C__law_source (hr.mono (by decide)) (by rfl) (pa_cons (pv 1) pa_nil)))
    (pss_one (ps_if (pt_not (pt_val (pe_cal C__law_is_right hr (by rfl) (pa_cons (pv 2) (pa_cons (pe_cal C__law_wide (hr.mono (by decide)) (by rfl) (pa_cons (pv 2) pa_nil)) pa_nil))))) (pss_one (ps_ret pe_bl)) pss_nil))))
    (pss_one (ps_ret (pe_cal C__law_is_right hr (by rfl) (pa_cons (pe_cal C__law_source (hr.mono (by decide)) (by rfl) (pa_cons (pe_ix ix_list (pe_op op_catL (pe_lst (pa_cons pe_int pa_nil)) (pv 0)) (pe_un un_neg pe_int) (fun _ _ => rfl)) pa_nil)) (pa_cons (pe_op op_rep (pe_lst (pa_cons pe_int pa_nil)) pe_int) pa_nil)))))), fun S x hp hq => ?_⟩
  try dsimp only [cxOf]
  revert hp hq
  revert x
  intro ns hl hq
  walk_at "dn"
  refine q_for (fun ds i M ρ => M = [] ∧ (∃ zs, ds = di zs) ∧ ∃ z1 z2, ρ = [.dat (.list (di ns)), z1, z2]) ?_
  refine evi_list ?_
  walk_at "d"
  refine eva_lst ?_
  walk_at "d"
  rw [show cutD (di ns) none (some 4) = (di ns).take 4 from cutD_takeG (di ns) 4 rfl, di_take]
  refine opd_catL (by rw [di_len, List.length_take]; show 1 + _ ≤ _; omega) ?_
  walk_at "d"
  refine ⟨⟨rfl, ⟨0 :: ns.take 4, rfl⟩, _, _, rfl⟩, ?_, ?_⟩
  · rintro i d _ _ hd ⟨rfl, ⟨zs, hds⟩, z1, z2, rfl⟩
    rw [hds] at hd
    obtain ⟨c, hc, rfl⟩ := di_get hd
    walk_at "t1"
    walk_at "dn"
    walk_at "d"
    refine eva_callN ?_
    walk_at "d"
    refine ⟨trivial, fun sr a _ => ?_⟩
    walk_at "dn"
    walk_at "d"
    refine eva_callS ?_
    walk_at "d"
    refine eva_callS ?_
    walk_at "d"
    refine ⟨0, a, _, _, (), rfl, rfl, rfl, trivial, ?_⟩
    rintro _ s2 ⟨ms, rfl, hs⟩
    walk_at "dn"
    walk_at "d"
    refine ⟨0, a, _, _, ms, rfl, rfl, rfl, hs, ?_⟩
    rintro _ s3 rfl
    walk_at "dn"
    walk_at "d"
    refine at_drop 0 ?_
    refine at_btw [.dat (.list (di ns)), .no, .no] (by walk_at "dw") ⟨rfl, ⟨zs, (by first | exact hds | trivial)⟩, _, _, rfl⟩
  · rintro _ _ ⟨rfl, ⟨zs, hds⟩, z1, z2, rfl⟩
    walk_at "d"
    refine eva_callS ?_
    walk_at "d"
    refine eva_callN ?_
    walk_at "d"
    refine eva_lst ?_
    walk_at "d"
    refine opd_catL (by rw [di_len]; show 1 + _ ≤ _; omega) ?_
    walk_at "d"
    obtain ⟨z, hz⟩ := last_int ns
    refine opd_ixL (d := .int z) hz ?_
    walk_at "d"
    refine ⟨trivial, fun sr a _ => ?_⟩
    walk_at "d"
    refine eva_rep ?_
    walk_at "d"
    refine ⟨_, 200, rfl, rfl, by decide, ?_⟩
    walk_at "d"
    refine ⟨0, a, _, _, List.replicate 200 2, rfl, by rw [encL, di, List.map_replicate]; rfl, rfl, twos_sched, ?_⟩
    rintro _ s3 rfl
    exact ret_dat (hq _ rfl)
end
end D
namespace D
open PySem PySem.Spec PyProof.Rows L2 M
theorem all_mk {l : PySem.W.OpenLaw} {w : World} {K : PySem.W.Frag} {h : Heap} {mg : Str → Option Value} {fa f_is_integer f_greatest_common_divisor f_rounded_up f_products f_word_numbers f_digits f_climbers_between f__law_mix f__law_source f__law_sizes f__law_word f__law_amounts f_is_at_least f_is_between f_lowest_terms f_scaled_weight f_is_row f_arrivals_by_start f__law_draw f__law_levels f_require_schedule f_is_group f_require_plan f_require_choices f__law_wide f__law_plan f_require_counts f_number_of f_covered f_extreme_choices f_rest_of f_weight f_check_plan f_is_prefix_free f__law_extremes_right f__law_complement_right f__law_rest_right f_plan_fault f__law_mean_right f__law_judged_right f__law_is_right f_law : Addr} (X : K.In h) (G : h.Ns mainGlobals mg) (hfa : mg "law" = some (.ref fa))
    {od_is_integer an_is_integer od_greatest_common_divisor an_greatest_common_divisor od_rounded_up an_rounded_up od_products an_products od_word_numbers an_word_numbers od_digits an_digits od_climbers_between an_climbers_between od__law_mix an__law_mix od__law_source an__law_source od__law_sizes an__law_sizes od__law_word an__law_word od__law_amounts an__law_amounts od_is_at_least an_is_at_least od_is_between an_is_between od_lowest_terms an_lowest_terms od_scaled_weight an_scaled_weight od_is_row an_is_row od_arrivals_by_start an_arrivals_by_start od__law_draw an__law_draw od__law_levels an__law_levels od_require_schedule an_require_schedule od_is_group an_is_group od_require_plan an_require_plan od_require_choices an_require_choices od__law_wide an__law_wide od__law_plan an__law_plan od_require_counts an_require_counts od_number_of an_number_of od_covered an_covered od_extreme_choices an_extreme_choices od_rest_of an_rest_of od_weight an_weight od_check_plan an_check_plan od_is_prefix_free an_is_prefix_free od__law_extremes_right an__law_extremes_right od__law_complement_right an__law_complement_right od__law_rest_right an__law_rest_right od_plan_fault an_plan_fault od__law_mean_right an__law_mean_right od__law_judged_right an__law_judged_right od__law_is_right an__law_is_right od_law an_law : Option Addr} {sl_is_integer sl_greatest_common_divisor sl_rounded_up sl_products sl_word_numbers sl_digits sl_climbers_between sl__law_mix sl__law_source sl__law_sizes sl__law_word sl__law_amounts sl_is_at_least sl_is_between sl_lowest_terms sl_scaled_weight sl_is_row sl_arrivals_by_start sl__law_draw sl__law_levels sl_require_schedule sl_is_group sl_require_plan sl_require_choices sl__law_wide sl__law_plan sl_require_counts sl_number_of sl_covered sl_extreme_choices sl_rest_of sl_weight sl_check_plan sl_is_prefix_free sl__law_extremes_right sl__law_complement_right sl__law_rest_right sl_plan_fault sl__law_mean_right sl__law_judged_right sl__law_is_right sl_law : Array (Option Value)} {oc_is_integer kV_is_integer dc_is_integer pm_is_integer cd_is_integer ct_is_integer oc_greatest_common_divisor kV_greatest_common_divisor dc_greatest_common_divisor pm_greatest_common_divisor cd_greatest_common_divisor ct_greatest_common_divisor oc_rounded_up kV_rounded_up dc_rounded_up pm_rounded_up cd_rounded_up ct_rounded_up oc_products kV_products dc_products pm_products cd_products ct_products oc_word_numbers kV_word_numbers dc_word_numbers pm_word_numbers cd_word_numbers ct_word_numbers oc_digits kV_digits dc_digits pm_digits cd_digits ct_digits oc_climbers_between kV_climbers_between dc_climbers_between pm_climbers_between cd_climbers_between ct_climbers_between oc__law_mix kV__law_mix dc__law_mix pm__law_mix cd__law_mix ct__law_mix oc__law_source kV__law_source dc__law_source pm__law_source cd__law_source ct__law_source oc__law_sizes kV__law_sizes dc__law_sizes pm__law_sizes cd__law_sizes ct__law_sizes oc__law_word kV__law_word dc__law_word pm__law_word cd__law_word ct__law_word oc__law_amounts kV__law_amounts dc__law_amounts pm__law_amounts cd__law_amounts ct__law_amounts oc_is_at_least kV_is_at_least dc_is_at_least pm_is_at_least cd_is_at_least ct_is_at_least oc_is_between kV_is_between dc_is_between pm_is_between cd_is_between ct_is_between oc_lowest_terms kV_lowest_terms dc_lowest_terms pm_lowest_terms cd_lowest_terms ct_lowest_terms oc_scaled_weight kV_scaled_weight dc_scaled_weight pm_scaled_weight cd_scaled_weight ct_scaled_weight oc_is_row kV_is_row dc_is_row pm_is_row cd_is_row ct_is_row oc_arrivals_by_start kV_arrivals_by_start dc_arrivals_by_start pm_arrivals_by_start cd_arrivals_by_start ct_arrivals_by_start oc__law_draw kV__law_draw dc__law_draw pm__law_draw cd__law_draw ct__law_draw oc__law_levels kV__law_levels dc__law_levels pm__law_levels cd__law_levels ct__law_levels oc_require_schedule kV_require_schedule dc_require_schedule pm_require_schedule cd_require_schedule ct_require_schedule oc_is_group kV_is_group dc_is_group pm_is_group cd_is_group ct_is_group oc_require_plan kV_require_plan dc_require_plan pm_require_plan cd_require_plan ct_require_plan oc_require_choices kV_require_choices dc_require_choices pm_require_choices cd_require_choices ct_require_choices oc__law_wide kV__law_wide dc__law_wide pm__law_wide cd__law_wide ct__law_wide oc__law_plan kV__law_plan dc__law_plan pm__law_plan cd__law_plan ct__law_plan oc_require_counts kV_require_counts dc_require_counts pm_require_counts cd_require_counts ct_require_counts oc_number_of kV_number_of dc_number_of pm_number_of cd_number_of ct_number_of oc_covered kV_covered dc_covered pm_covered cd_covered ct_covered oc_extreme_choices kV_extreme_choices dc_extreme_choices pm_extreme_choices cd_extreme_choices ct_extreme_choices oc_rest_of kV_rest_of dc_rest_of pm_rest_of cd_rest_of ct_rest_of oc_weight kV_weight dc_weight pm_weight cd_weight ct_weight oc_check_plan kV_check_plan dc_check_plan pm_check_plan cd_check_plan ct_check_plan oc_is_prefix_free kV_is_prefix_free dc_is_prefix_free pm_is_prefix_free cd_is_prefix_free ct_is_prefix_free oc__law_extremes_right kV__law_extremes_right dc__law_extremes_right pm__law_extremes_right cd__law_extremes_right ct__law_extremes_right oc__law_complement_right kV__law_complement_right dc__law_complement_right pm__law_complement_right cd__law_complement_right ct__law_complement_right oc__law_rest_right kV__law_rest_right dc__law_rest_right pm__law_rest_right cd__law_rest_right ct__law_rest_right oc_plan_fault kV_plan_fault dc_plan_fault pm_plan_fault cd_plan_fault ct_plan_fault oc__law_mean_right kV__law_mean_right dc__law_mean_right pm__law_mean_right cd__law_mean_right ct__law_mean_right oc__law_judged_right kV__law_judged_right dc__law_judged_right pm__law_judged_right cd__law_judged_right ct__law_judged_right oc__law_is_right kV__law_is_right dc__law_is_right pm__law_is_right cd__law_is_right ct__law_is_right oc_law kV_law dc_law pm_law cd_law ct_law : Value} {tk : Tok}
    (a_is_integer : PySem.W.nsIn K mainGlobals "is_integer" = some (some (.ref f_is_integer))) (l_is_integer : K.lookup f_is_integer = some ⟨oc_is_integer, od_is_integer, .func (PySem.W.fnOf "is_integer" "is_integer" (defArgs st_is_integer) (defBody st_is_integer) (defScope st_is_integer) .none kV_is_integer dc_is_integer pm_is_integer an_is_integer cd_is_integer ct_is_integer), sl_is_integer⟩) (c_is_integer : PySem.W.codeIn K cd_is_integer "is_integer" = true) (k_is_integer : PySem.W.keepIn K (.ref f_is_integer) = true)
    (a_greatest_common_divisor : PySem.W.nsIn K mainGlobals "greatest_common_divisor" = some (some (.ref f_greatest_common_divisor))) (l_greatest_common_divisor : K.lookup f_greatest_common_divisor = some ⟨oc_greatest_common_divisor, od_greatest_common_divisor, .func (PySem.W.fnOf "greatest_common_divisor" "greatest_common_divisor" (defArgs st_greatest_common_divisor) (defBody st_greatest_common_divisor) (defScope st_greatest_common_divisor) .none kV_greatest_common_divisor dc_greatest_common_divisor pm_greatest_common_divisor an_greatest_common_divisor cd_greatest_common_divisor ct_greatest_common_divisor), sl_greatest_common_divisor⟩) (c_greatest_common_divisor : PySem.W.codeIn K cd_greatest_common_divisor "greatest_common_divisor" = true) (k_greatest_common_divisor : PySem.W.keepIn K (.ref f_greatest_common_divisor) = true)
    (a_rounded_up : PySem.W.nsIn K mainGlobals "rounded_up" = some (some (.ref f_rounded_up))) (l_rounded_up : K.lookup f_rounded_up = some ⟨oc_rounded_up, od_rounded_up, .func (PySem.W.fnOf "rounded_up" "rounded_up" (defArgs st_rounded_up) (defBody st_rounded_up) (defScope st_rounded_up) .none kV_rounded_up dc_rounded_up pm_rounded_up an_rounded_up cd_rounded_up ct_rounded_up), sl_rounded_up⟩) (c_rounded_up : PySem.W.codeIn K cd_rounded_up "rounded_up" = true) (k_rounded_up : PySem.W.keepIn K (.ref f_rounded_up) = true)
    (a_products : PySem.W.nsIn K mainGlobals "products" = some (some (.ref f_products))) (l_products : K.lookup f_products = some ⟨oc_products, od_products, .func (PySem.W.fnOf "products" "products" (defArgs st_products) (defBody st_products) (defScope st_products) .none kV_products dc_products pm_products an_products cd_products ct_products), sl_products⟩) (c_products : PySem.W.codeIn K cd_products "products" = true) (k_products : PySem.W.keepIn K (.ref f_products) = true)
    (a_word_numbers : PySem.W.nsIn K mainGlobals "word_numbers" = some (some (.ref f_word_numbers))) (l_word_numbers : K.lookup f_word_numbers = some ⟨oc_word_numbers, od_word_numbers, .func (PySem.W.fnOf "word_numbers" "word_numbers" (defArgs st_word_numbers) (defBody st_word_numbers) (defScope st_word_numbers) .none kV_word_numbers dc_word_numbers pm_word_numbers an_word_numbers cd_word_numbers ct_word_numbers), sl_word_numbers⟩) (c_word_numbers : PySem.W.codeIn K cd_word_numbers "word_numbers" = true) (k_word_numbers : PySem.W.keepIn K (.ref f_word_numbers) = true)
    (a_digits : PySem.W.nsIn K mainGlobals "digits" = some (some (.ref f_digits))) (l_digits : K.lookup f_digits = some ⟨oc_digits, od_digits, .func (PySem.W.fnOf "digits" "digits" (defArgs st_digits) (defBody st_digits) (defScope st_digits) .none kV_digits dc_digits pm_digits an_digits cd_digits ct_digits), sl_digits⟩) (c_digits : PySem.W.codeIn K cd_digits "digits" = true) (k_digits : PySem.W.keepIn K (.ref f_digits) = true)
    (a_climbers_between : PySem.W.nsIn K mainGlobals "climbers_between" = some (some (.ref f_climbers_between))) (l_climbers_between : K.lookup f_climbers_between = some ⟨oc_climbers_between, od_climbers_between, .func (PySem.W.fnOf "climbers_between" "climbers_between" (defArgs st_climbers_between) (defBody st_climbers_between) (defScope st_climbers_between) .none kV_climbers_between dc_climbers_between pm_climbers_between an_climbers_between cd_climbers_between ct_climbers_between), sl_climbers_between⟩) (c_climbers_between : PySem.W.codeIn K cd_climbers_between "climbers_between" = true) (k_climbers_between : PySem.W.keepIn K (.ref f_climbers_between) = true)
    (a__law_mix : PySem.W.nsIn K mainGlobals "_law_mix" = some (some (.ref f__law_mix))) (l__law_mix : K.lookup f__law_mix = some ⟨oc__law_mix, od__law_mix, .func (PySem.W.fnOf "_law_mix" "_law_mix" (defArgs st__law_mix) (defBody st__law_mix) (defScope st__law_mix) .none kV__law_mix dc__law_mix pm__law_mix an__law_mix cd__law_mix ct__law_mix), sl__law_mix⟩) (c__law_mix : PySem.W.codeIn K cd__law_mix "_law_mix" = true) (k__law_mix : PySem.W.keepIn K (.ref f__law_mix) = true)
    (a__law_source : PySem.W.nsIn K mainGlobals "_law_source" = some (some (.ref f__law_source))) (l__law_source : K.lookup f__law_source = some ⟨oc__law_source, od__law_source, .func (PySem.W.fnOf "_law_source" "_law_source" (defArgs st__law_source) (defBody st__law_source) (defScope st__law_source) .none kV__law_source dc__law_source pm__law_source an__law_source cd__law_source ct__law_source), sl__law_source⟩) (c__law_source : PySem.W.codeIn K cd__law_source "_law_source" = true) (k__law_source : PySem.W.keepIn K (.ref f__law_source) = true)
    (a__law_sizes : PySem.W.nsIn K mainGlobals "_law_sizes" = some (some (.ref f__law_sizes))) (l__law_sizes : K.lookup f__law_sizes = some ⟨oc__law_sizes, od__law_sizes, .func (PySem.W.fnOf "_law_sizes" "_law_sizes" (defArgs st__law_sizes) (defBody st__law_sizes) (defScope st__law_sizes) .none kV__law_sizes dc__law_sizes pm__law_sizes an__law_sizes cd__law_sizes ct__law_sizes), sl__law_sizes⟩) (c__law_sizes : PySem.W.codeIn K cd__law_sizes "_law_sizes" = true) (k__law_sizes : PySem.W.keepIn K (.ref f__law_sizes) = true)
    (a__law_word : PySem.W.nsIn K mainGlobals "_law_word" = some (some (.ref f__law_word))) (l__law_word : K.lookup f__law_word = some ⟨oc__law_word, od__law_word, .func (PySem.W.fnOf "_law_word" "_law_word" (defArgs st__law_word) (defBody st__law_word) (defScope st__law_word) .none kV__law_word dc__law_word pm__law_word an__law_word cd__law_word ct__law_word), sl__law_word⟩) (c__law_word : PySem.W.codeIn K cd__law_word "_law_word" = true) (k__law_word : PySem.W.keepIn K (.ref f__law_word) = true)
    (a__law_amounts : PySem.W.nsIn K mainGlobals "_law_amounts" = some (some (.ref f__law_amounts))) (l__law_amounts : K.lookup f__law_amounts = some ⟨oc__law_amounts, od__law_amounts, .func (PySem.W.fnOf "_law_amounts" "_law_amounts" (defArgs st__law_amounts) (defBody st__law_amounts) (defScope st__law_amounts) .none kV__law_amounts dc__law_amounts pm__law_amounts an__law_amounts cd__law_amounts ct__law_amounts), sl__law_amounts⟩) (c__law_amounts : PySem.W.codeIn K cd__law_amounts "_law_amounts" = true) (k__law_amounts : PySem.W.keepIn K (.ref f__law_amounts) = true)
    (a_is_at_least : PySem.W.nsIn K mainGlobals "is_at_least" = some (some (.ref f_is_at_least))) (l_is_at_least : K.lookup f_is_at_least = some ⟨oc_is_at_least, od_is_at_least, .func (PySem.W.fnOf "is_at_least" "is_at_least" (defArgs st_is_at_least) (defBody st_is_at_least) (defScope st_is_at_least) .none kV_is_at_least dc_is_at_least pm_is_at_least an_is_at_least cd_is_at_least ct_is_at_least), sl_is_at_least⟩) (c_is_at_least : PySem.W.codeIn K cd_is_at_least "is_at_least" = true) (k_is_at_least : PySem.W.keepIn K (.ref f_is_at_least) = true)
    (a_is_between : PySem.W.nsIn K mainGlobals "is_between" = some (some (.ref f_is_between))) (l_is_between : K.lookup f_is_between = some ⟨oc_is_between, od_is_between, .func (PySem.W.fnOf "is_between" "is_between" (defArgs st_is_between) (defBody st_is_between) (defScope st_is_between) .none kV_is_between dc_is_between pm_is_between an_is_between cd_is_between ct_is_between), sl_is_between⟩) (c_is_between : PySem.W.codeIn K cd_is_between "is_between" = true) (k_is_between : PySem.W.keepIn K (.ref f_is_between) = true)
    (a_lowest_terms : PySem.W.nsIn K mainGlobals "lowest_terms" = some (some (.ref f_lowest_terms))) (l_lowest_terms : K.lookup f_lowest_terms = some ⟨oc_lowest_terms, od_lowest_terms, .func (PySem.W.fnOf "lowest_terms" "lowest_terms" (defArgs st_lowest_terms) (defBody st_lowest_terms) (defScope st_lowest_terms) .none kV_lowest_terms dc_lowest_terms pm_lowest_terms an_lowest_terms cd_lowest_terms ct_lowest_terms), sl_lowest_terms⟩) (c_lowest_terms : PySem.W.codeIn K cd_lowest_terms "lowest_terms" = true) (k_lowest_terms : PySem.W.keepIn K (.ref f_lowest_terms) = true)
    (a_scaled_weight : PySem.W.nsIn K mainGlobals "scaled_weight" = some (some (.ref f_scaled_weight))) (l_scaled_weight : K.lookup f_scaled_weight = some ⟨oc_scaled_weight, od_scaled_weight, .func (PySem.W.fnOf "scaled_weight" "scaled_weight" (defArgs st_scaled_weight) (defBody st_scaled_weight) (defScope st_scaled_weight) .none kV_scaled_weight dc_scaled_weight pm_scaled_weight an_scaled_weight cd_scaled_weight ct_scaled_weight), sl_scaled_weight⟩) (c_scaled_weight : PySem.W.codeIn K cd_scaled_weight "scaled_weight" = true) (k_scaled_weight : PySem.W.keepIn K (.ref f_scaled_weight) = true)
    (a_is_row : PySem.W.nsIn K mainGlobals "is_row" = some (some (.ref f_is_row))) (l_is_row : K.lookup f_is_row = some ⟨oc_is_row, od_is_row, .func (PySem.W.fnOf "is_row" "is_row" (defArgs st_is_row) (defBody st_is_row) (defScope st_is_row) .none kV_is_row dc_is_row pm_is_row an_is_row cd_is_row ct_is_row), sl_is_row⟩) (c_is_row : PySem.W.codeIn K cd_is_row "is_row" = true) (k_is_row : PySem.W.keepIn K (.ref f_is_row) = true)
    (a_arrivals_by_start : PySem.W.nsIn K mainGlobals "arrivals_by_start" = some (some (.ref f_arrivals_by_start))) (l_arrivals_by_start : K.lookup f_arrivals_by_start = some ⟨oc_arrivals_by_start, od_arrivals_by_start, .func (PySem.W.fnOf "arrivals_by_start" "arrivals_by_start" (defArgs st_arrivals_by_start) (defBody st_arrivals_by_start) (defScope st_arrivals_by_start) .none kV_arrivals_by_start dc_arrivals_by_start pm_arrivals_by_start an_arrivals_by_start cd_arrivals_by_start ct_arrivals_by_start), sl_arrivals_by_start⟩) (c_arrivals_by_start : PySem.W.codeIn K cd_arrivals_by_start "arrivals_by_start" = true) (k_arrivals_by_start : PySem.W.keepIn K (.ref f_arrivals_by_start) = true)
    (a__law_draw : PySem.W.nsIn K mainGlobals "_law_draw" = some (some (.ref f__law_draw))) (l__law_draw : K.lookup f__law_draw = some ⟨oc__law_draw, od__law_draw, .func (PySem.W.fnOf "_law_draw" "_law_draw" (defArgs st__law_draw) (defBody st__law_draw) (defScope st__law_draw) .none kV__law_draw dc__law_draw pm__law_draw an__law_draw cd__law_draw ct__law_draw), sl__law_draw⟩) (c__law_draw : PySem.W.codeIn K cd__law_draw "_law_draw" = true) (k__law_draw : PySem.W.keepIn K (.ref f__law_draw) = true)
    (a__law_levels : PySem.W.nsIn K mainGlobals "_law_levels" = some (some (.ref f__law_levels))) (l__law_levels : K.lookup f__law_levels = some ⟨oc__law_levels, od__law_levels, .func (PySem.W.fnOf "_law_levels" "_law_levels" (defArgs st__law_levels) (defBody st__law_levels) (defScope st__law_levels) .none kV__law_levels dc__law_levels pm__law_levels an__law_levels cd__law_levels ct__law_levels), sl__law_levels⟩) (c__law_levels : PySem.W.codeIn K cd__law_levels "_law_levels" = true) (k__law_levels : PySem.W.keepIn K (.ref f__law_levels) = true)
    (a_require_schedule : PySem.W.nsIn K mainGlobals "require_schedule" = some (some (.ref f_require_schedule))) (l_require_schedule : K.lookup f_require_schedule = some ⟨oc_require_schedule, od_require_schedule, .func (PySem.W.fnOf "require_schedule" "require_schedule" (defArgs st_require_schedule) (defBody st_require_schedule) (defScope st_require_schedule) .none kV_require_schedule dc_require_schedule pm_require_schedule an_require_schedule cd_require_schedule ct_require_schedule), sl_require_schedule⟩) (c_require_schedule : PySem.W.codeIn K cd_require_schedule "require_schedule" = true) (k_require_schedule : PySem.W.keepIn K (.ref f_require_schedule) = true)
    (a_is_group : PySem.W.nsIn K mainGlobals "is_group" = some (some (.ref f_is_group))) (l_is_group : K.lookup f_is_group = some ⟨oc_is_group, od_is_group, .func (PySem.W.fnOf "is_group" "is_group" (defArgs st_is_group) (defBody st_is_group) (defScope st_is_group) .none kV_is_group dc_is_group pm_is_group an_is_group cd_is_group ct_is_group), sl_is_group⟩) (c_is_group : PySem.W.codeIn K cd_is_group "is_group" = true) (k_is_group : PySem.W.keepIn K (.ref f_is_group) = true)
    (a_require_plan : PySem.W.nsIn K mainGlobals "require_plan" = some (some (.ref f_require_plan))) (l_require_plan : K.lookup f_require_plan = some ⟨oc_require_plan, od_require_plan, .func (PySem.W.fnOf "require_plan" "require_plan" (defArgs st_require_plan) (defBody st_require_plan) (defScope st_require_plan) .none kV_require_plan dc_require_plan pm_require_plan an_require_plan cd_require_plan ct_require_plan), sl_require_plan⟩) (c_require_plan : PySem.W.codeIn K cd_require_plan "require_plan" = true) (k_require_plan : PySem.W.keepIn K (.ref f_require_plan) = true)
    (a_require_choices : PySem.W.nsIn K mainGlobals "require_choices" = some (some (.ref f_require_choices))) (l_require_choices : K.lookup f_require_choices = some ⟨oc_require_choices, od_require_choices, .func (PySem.W.fnOf "require_choices" "require_choices" (defArgs st_require_choices) (defBody st_require_choices) (defScope st_require_choices) .none kV_require_choices dc_require_choices pm_require_choices an_require_choices cd_require_choices ct_require_choices), sl_require_choices⟩) (c_require_choices : PySem.W.codeIn K cd_require_choices "require_choices" = true) (k_require_choices : PySem.W.keepIn K (.ref f_require_choices) = true)
    (a__law_wide : PySem.W.nsIn K mainGlobals "_law_wide" = some (some (.ref f__law_wide))) (l__law_wide : K.lookup f__law_wide = some ⟨oc__law_wide, od__law_wide, .func (PySem.W.fnOf "_law_wide" "_law_wide" (defArgs st__law_wide) (defBody st__law_wide) (defScope st__law_wide) .none kV__law_wide dc__law_wide pm__law_wide an__law_wide cd__law_wide ct__law_wide), sl__law_wide⟩) (c__law_wide : PySem.W.codeIn K cd__law_wide "_law_wide" = true) (k__law_wide : PySem.W.keepIn K (.ref f__law_wide) = true)
    (a__law_plan : PySem.W.nsIn K mainGlobals "_law_plan" = some (some (.ref f__law_plan))) (l__law_plan : K.lookup f__law_plan = some ⟨oc__law_plan, od__law_plan, .func (PySem.W.fnOf "_law_plan" "_law_plan" (defArgs st__law_plan) (defBody st__law_plan) (defScope st__law_plan) .none kV__law_plan dc__law_plan pm__law_plan an__law_plan cd__law_plan ct__law_plan), sl__law_plan⟩) (c__law_plan : PySem.W.codeIn K cd__law_plan "_law_plan" = true) (k__law_plan : PySem.W.keepIn K (.ref f__law_plan) = true)
    (a_require_counts : PySem.W.nsIn K mainGlobals "require_counts" = some (some (.ref f_require_counts))) (l_require_counts : K.lookup f_require_counts = some ⟨oc_require_counts, od_require_counts, .func (PySem.W.fnOf "require_counts" "require_counts" (defArgs st_require_counts) (defBody st_require_counts) (defScope st_require_counts) .none kV_require_counts dc_require_counts pm_require_counts an_require_counts cd_require_counts ct_require_counts), sl_require_counts⟩) (c_require_counts : PySem.W.codeIn K cd_require_counts "require_counts" = true) (k_require_counts : PySem.W.keepIn K (.ref f_require_counts) = true)
    (a_number_of : PySem.W.nsIn K mainGlobals "number_of" = some (some (.ref f_number_of))) (l_number_of : K.lookup f_number_of = some ⟨oc_number_of, od_number_of, .func (PySem.W.fnOf "number_of" "number_of" (defArgs st_number_of) (defBody st_number_of) (defScope st_number_of) .none kV_number_of dc_number_of pm_number_of an_number_of cd_number_of ct_number_of), sl_number_of⟩) (c_number_of : PySem.W.codeIn K cd_number_of "number_of" = true) (k_number_of : PySem.W.keepIn K (.ref f_number_of) = true)
    (a_covered : PySem.W.nsIn K mainGlobals "covered" = some (some (.ref f_covered))) (l_covered : K.lookup f_covered = some ⟨oc_covered, od_covered, .func (PySem.W.fnOf "covered" "covered" (defArgs st_covered) (defBody st_covered) (defScope st_covered) .none kV_covered dc_covered pm_covered an_covered cd_covered ct_covered), sl_covered⟩) (c_covered : PySem.W.codeIn K cd_covered "covered" = true) (k_covered : PySem.W.keepIn K (.ref f_covered) = true)
    (a_extreme_choices : PySem.W.nsIn K mainGlobals "extreme_choices" = some (some (.ref f_extreme_choices))) (l_extreme_choices : K.lookup f_extreme_choices = some ⟨oc_extreme_choices, od_extreme_choices, .func (PySem.W.fnOf "extreme_choices" "extreme_choices" (defArgs st_extreme_choices) (defBody st_extreme_choices) (defScope st_extreme_choices) .none kV_extreme_choices dc_extreme_choices pm_extreme_choices an_extreme_choices cd_extreme_choices ct_extreme_choices), sl_extreme_choices⟩) (c_extreme_choices : PySem.W.codeIn K cd_extreme_choices "extreme_choices" = true) (k_extreme_choices : PySem.W.keepIn K (.ref f_extreme_choices) = true)
    (a_rest_of : PySem.W.nsIn K mainGlobals "rest_of" = some (some (.ref f_rest_of))) (l_rest_of : K.lookup f_rest_of = some ⟨oc_rest_of, od_rest_of, .func (PySem.W.fnOf "rest_of" "rest_of" (defArgs st_rest_of) (defBody st_rest_of) (defScope st_rest_of) .none kV_rest_of dc_rest_of pm_rest_of an_rest_of cd_rest_of ct_rest_of), sl_rest_of⟩) (c_rest_of : PySem.W.codeIn K cd_rest_of "rest_of" = true) (k_rest_of : PySem.W.keepIn K (.ref f_rest_of) = true)
    (a_weight : PySem.W.nsIn K mainGlobals "weight" = some (some (.ref f_weight))) (l_weight : K.lookup f_weight = some ⟨oc_weight, od_weight, .func (PySem.W.fnOf "weight" "weight" (defArgs st_weight) (defBody st_weight) (defScope st_weight) .none kV_weight dc_weight pm_weight an_weight cd_weight ct_weight), sl_weight⟩) (c_weight : PySem.W.codeIn K cd_weight "weight" = true) (k_weight : PySem.W.keepIn K (.ref f_weight) = true)
    (a_check_plan : PySem.W.nsIn K mainGlobals "check_plan" = some (some (.ref f_check_plan))) (l_check_plan : K.lookup f_check_plan = some ⟨oc_check_plan, od_check_plan, .func (PySem.W.fnOf "check_plan" "check_plan" (defArgs st_check_plan) (defBody st_check_plan) (defScope st_check_plan) .none kV_check_plan dc_check_plan pm_check_plan an_check_plan cd_check_plan ct_check_plan), sl_check_plan⟩) (c_check_plan : PySem.W.codeIn K cd_check_plan "check_plan" = true) (k_check_plan : PySem.W.keepIn K (.ref f_check_plan) = true)
    (a_is_prefix_free : PySem.W.nsIn K mainGlobals "is_prefix_free" = some (some (.ref f_is_prefix_free))) (l_is_prefix_free : K.lookup f_is_prefix_free = some ⟨oc_is_prefix_free, od_is_prefix_free, .func (PySem.W.fnOf "is_prefix_free" "is_prefix_free" (defArgs st_is_prefix_free) (defBody st_is_prefix_free) (defScope st_is_prefix_free) .none kV_is_prefix_free dc_is_prefix_free pm_is_prefix_free an_is_prefix_free cd_is_prefix_free ct_is_prefix_free), sl_is_prefix_free⟩) (c_is_prefix_free : PySem.W.codeIn K cd_is_prefix_free "is_prefix_free" = true) (k_is_prefix_free : PySem.W.keepIn K (.ref f_is_prefix_free) = true)
    (a__law_extremes_right : PySem.W.nsIn K mainGlobals "_law_extremes_right" = some (some (.ref f__law_extremes_right))) (l__law_extremes_right : K.lookup f__law_extremes_right = some ⟨oc__law_extremes_right, od__law_extremes_right, .func (PySem.W.fnOf "_law_extremes_right" "_law_extremes_right" (defArgs st__law_extremes_right) (defBody st__law_extremes_right) (defScope st__law_extremes_right) .none kV__law_extremes_right dc__law_extremes_right pm__law_extremes_right an__law_extremes_right cd__law_extremes_right ct__law_extremes_right), sl__law_extremes_right⟩) (c__law_extremes_right : PySem.W.codeIn K cd__law_extremes_right "_law_extremes_right" = true) (k__law_extremes_right : PySem.W.keepIn K (.ref f__law_extremes_right) = true)
    (a__law_complement_right : PySem.W.nsIn K mainGlobals "_law_complement_right" = some (some (.ref f__law_complement_right))) (l__law_complement_right : K.lookup f__law_complement_right = some ⟨oc__law_complement_right, od__law_complement_right, .func (PySem.W.fnOf "_law_complement_right" "_law_complement_right" (defArgs st__law_complement_right) (defBody st__law_complement_right) (defScope st__law_complement_right) .none kV__law_complement_right dc__law_complement_right pm__law_complement_right an__law_complement_right cd__law_complement_right ct__law_complement_right), sl__law_complement_right⟩) (c__law_complement_right : PySem.W.codeIn K cd__law_complement_right "_law_complement_right" = true) (k__law_complement_right : PySem.W.keepIn K (.ref f__law_complement_right) = true)
    (a__law_rest_right : PySem.W.nsIn K mainGlobals "_law_rest_right" = some (some (.ref f__law_rest_right))) (l__law_rest_right : K.lookup f__law_rest_right = some ⟨oc__law_rest_right, od__law_rest_right, .func (PySem.W.fnOf "_law_rest_right" "_law_rest_right" (defArgs st__law_rest_right) (defBody st__law_rest_right) (defScope st__law_rest_right) .none kV__law_rest_right dc__law_rest_right pm__law_rest_right an__law_rest_right cd__law_rest_right ct__law_rest_right), sl__law_rest_right⟩) (c__law_rest_right : PySem.W.codeIn K cd__law_rest_right "_law_rest_right" = true) (k__law_rest_right : PySem.W.keepIn K (.ref f__law_rest_right) = true)
    (a_plan_fault : PySem.W.nsIn K mainGlobals "plan_fault" = some (some (.ref f_plan_fault))) (l_plan_fault : K.lookup f_plan_fault = some ⟨oc_plan_fault, od_plan_fault, .func (PySem.W.fnOf "plan_fault" "plan_fault" (defArgs st_plan_fault) (defBody st_plan_fault) (defScope st_plan_fault) .none kV_plan_fault dc_plan_fault pm_plan_fault an_plan_fault cd_plan_fault ct_plan_fault), sl_plan_fault⟩) (c_plan_fault : PySem.W.codeIn K cd_plan_fault "plan_fault" = true) (k_plan_fault : PySem.W.keepIn K (.ref f_plan_fault) = true)
    (a__law_mean_right : PySem.W.nsIn K mainGlobals "_law_mean_right" = some (some (.ref f__law_mean_right))) (l__law_mean_right : K.lookup f__law_mean_right = some ⟨oc__law_mean_right, od__law_mean_right, .func (PySem.W.fnOf "_law_mean_right" "_law_mean_right" (defArgs st__law_mean_right) (defBody st__law_mean_right) (defScope st__law_mean_right) .none kV__law_mean_right dc__law_mean_right pm__law_mean_right an__law_mean_right cd__law_mean_right ct__law_mean_right), sl__law_mean_right⟩) (c__law_mean_right : PySem.W.codeIn K cd__law_mean_right "_law_mean_right" = true) (k__law_mean_right : PySem.W.keepIn K (.ref f__law_mean_right) = true)
    (a__law_judged_right : PySem.W.nsIn K mainGlobals "_law_judged_right" = some (some (.ref f__law_judged_right))) (l__law_judged_right : K.lookup f__law_judged_right = some ⟨oc__law_judged_right, od__law_judged_right, .func (PySem.W.fnOf "_law_judged_right" "_law_judged_right" (defArgs st__law_judged_right) (defBody st__law_judged_right) (defScope st__law_judged_right) .none kV__law_judged_right dc__law_judged_right pm__law_judged_right an__law_judged_right cd__law_judged_right ct__law_judged_right), sl__law_judged_right⟩) (c__law_judged_right : PySem.W.codeIn K cd__law_judged_right "_law_judged_right" = true) (k__law_judged_right : PySem.W.keepIn K (.ref f__law_judged_right) = true)
    (a__law_is_right : PySem.W.nsIn K mainGlobals "_law_is_right" = some (some (.ref f__law_is_right))) (l__law_is_right : K.lookup f__law_is_right = some ⟨oc__law_is_right, od__law_is_right, .func (PySem.W.fnOf "_law_is_right" "_law_is_right" (defArgs st__law_is_right) (defBody st__law_is_right) (defScope st__law_is_right) .none kV__law_is_right dc__law_is_right pm__law_is_right an__law_is_right cd__law_is_right ct__law_is_right), sl__law_is_right⟩) (c__law_is_right : PySem.W.codeIn K cd__law_is_right "_law_is_right" = true) (k__law_is_right : PySem.W.keepIn K (.ref f__law_is_right) = true)
    (a_law : PySem.W.nsIn K mainGlobals "law" = some (some (.ref f_law))) (l_law : K.lookup f_law = some ⟨oc_law, od_law, .func (PySem.W.fnOf "law" "law" (defArgs st_law) (defBody st_law) (defScope st_law) .none kV_law dc_law pm_law an_law cd_law ct_law), sl_law⟩) (c_law : PySem.W.codeIn K cd_law "law" = true) (k_law : PySem.W.keepIn K (.ref f_law) = true)
    (z_len : PySem.W.nsIn K mainGlobals "len" = some none)
    (z_isinstance : PySem.W.nsIn K mainGlobals "isinstance" = some none)
    (z_enumerate : PySem.W.nsIn K mainGlobals "enumerate" = some none)
    (z_all : PySem.W.nsIn K mainGlobals "all" = some none)
    (z_sum : PySem.W.nsIn K mainGlobals "sum" = some none)
    (z_zip : PySem.W.nsIn K mainGlobals "zip" = some none)
    (z_reversed : PySem.W.nsIn K mainGlobals "reversed" = some none)
    (z_tuple : PySem.W.nsIn K mainGlobals "tuple" = some none)
    (z_list : PySem.W.nsIn K mainGlobals "list" = some none)
    (z_int : PySem.W.nsIn K mainGlobals "int" = some none)
    (z_bool : PySem.W.nsIn K mainGlobals "bool" = some none)
    (z_abs : PySem.W.nsIn K mainGlobals "abs" = some none)
    (z_max : PySem.W.nsIn K mainGlobals "max" = some none)
    (z_min : PySem.W.nsIn K mainGlobals "min" = some none)
    (z_sorted : PySem.W.nsIn K mainGlobals "sorted" = some none)
    (z_set : PySem.W.nsIn K mainGlobals "set" = some none)
    (z_range : PySem.W.nsIn K mainGlobals "range" = some none)
    (mx : PySem.W.nsIn K mainGlobals "MAX_ROUNDS" = some (some (.int 200 tk))) :
    ∃ fd : FuncData, (∀ (s : Shared) (v : Value), BindsTo s fd ⟨[v], []⟩ [("_law_script", v)]) ∧ ∀ base : Heap, K.In base → base.Ns mainGlobals mg → FnOk l.prog w K mg base CX0 9 fa fd ["_law_script"] (sp_law K) := by
  have e := hfa.symm.trans (PySem.W.mg_of X G a_law)
  cases e
  refine ⟨PySem.W.fnOf "law" "law" (defArgs st_law) (defBody st_law) (defScope st_law) .none kV_law dc_law pm_law an_law cd_law ct_law, fun s v => .of_eq rfl, fun base _ _ => ?_⟩
  have B : Bt mg := ⟨PySem.W.mg_none_of X G z_len, PySem.W.mg_none_of X G z_isinstance, PySem.W.mg_none_of X G z_enumerate, PySem.W.mg_none_of X G z_all, PySem.W.mg_none_of X G z_sum, PySem.W.mg_none_of X G z_zip, PySem.W.mg_none_of X G z_reversed, PySem.W.mg_none_of X G z_tuple, PySem.W.mg_none_of X G z_list, PySem.W.mg_none_of X G z_int, PySem.W.mg_none_of X G z_bool, PySem.W.mg_none_of X G z_abs, PySem.W.mg_none_of X G z_max, PySem.W.mg_none_of X G z_min, PySem.W.mg_none_of X G z_sorted, PySem.W.mg_none_of X G z_set, PySem.W.mg_none_of X G z_range⟩
  have MX : ∃ t, mg "MAX_ROUNDS" = some (.int 200 t) := ⟨_, PySem.W.mg_of X G mx⟩
  have F_is_integer := fun_mk (st := st_is_integer) l_is_integer c_is_integer k_is_integer
  have b_is_integer := F_is_integer.binds (ps := ["value"]) fun _ _ _ _ _ _ us hl => match us, hl with | [_], _ => rfl
  have C_is_integer : Cal l.prog w K mg base 1 "is_integer" ["value"] (sp_is_integer K) := ⟨⟨_, _, ok_is_integer F_is_integer B, PySem.W.mg_of X G a_is_integer, k_is_integer, b_is_integer⟩⟩
  have F_greatest_common_divisor := fun_mk (st := st_greatest_common_divisor) l_greatest_common_divisor c_greatest_common_divisor k_greatest_common_divisor
  have b_greatest_common_divisor := F_greatest_common_divisor.binds (ps := ["first", "second"]) fun _ _ _ _ _ _ us hl => match us, hl with | [_, _], _ => rfl
  have C_greatest_common_divisor : Cal l.prog w K mg base 1 "greatest_common_divisor" ["first", "second"] (sp_greatest_common_divisor K) := ⟨⟨_, _, ok_greatest_common_divisor F_greatest_common_divisor B, PySem.W.mg_of X G a_greatest_common_divisor, k_greatest_common_divisor, b_greatest_common_divisor⟩⟩
  have F_rounded_up := fun_mk (st := st_rounded_up) l_rounded_up c_rounded_up k_rounded_up
  have b_rounded_up := F_rounded_up.binds (ps := ["numerator", "denominator"]) fun _ _ _ _ _ _ us hl => match us, hl with | [_, _], _ => rfl
  have C_rounded_up : Cal l.prog w K mg base 1 "rounded_up" ["numerator", "denominator"] (sp_rounded_up K) := ⟨⟨_, _, ok_rounded_up F_rounded_up B, PySem.W.mg_of X G a_rounded_up, k_rounded_up, b_rounded_up⟩⟩
  have F_products := fun_mk (st := st_products) l_products c_products k_products
  have b_products := F_products.binds (ps := ["schedule"]) fun _ _ _ _ _ _ us hl => match us, hl with | [_], _ => rfl
  have C_products : Cal l.prog w K mg base 1 "products" ["schedule"] (sp_products K) := ⟨⟨_, _, ok_products F_products B, PySem.W.mg_of X G a_products, k_products, b_products⟩⟩
  have F_word_numbers := fun_mk (st := st_word_numbers) l_word_numbers c_word_numbers k_word_numbers
  have b_word_numbers := F_word_numbers.binds (ps := ["schedule", "choices"]) fun _ _ _ _ _ _ us hl => match us, hl with | [_, _], _ => rfl
  have C_word_numbers : Cal l.prog w K mg base 1 "word_numbers" ["schedule", "choices"] (sp_word_numbers K) := ⟨⟨_, _, ok_word_numbers F_word_numbers B, PySem.W.mg_of X G a_word_numbers, k_word_numbers, b_word_numbers⟩⟩
  have F_digits := fun_mk (st := st_digits) l_digits c_digits k_digits
  have b_digits := F_digits.binds (ps := ["schedule", "length", "number"]) fun _ _ _ _ _ _ us hl => match us, hl with | [_, _, _], _ => rfl
  have C_digits : Cal l.prog w K mg base 1 "digits" ["schedule", "length", "number"] (sp_digits K) := ⟨⟨_, _, ok_digits F_digits B, PySem.W.mg_of X G a_digits, k_digits, b_digits⟩⟩
  have F_climbers_between := fun_mk (st := st_climbers_between) l_climbers_between c_climbers_between k_climbers_between
  have b_climbers_between := F_climbers_between.binds (ps := ["size", "row", "start", "length"]) fun _ _ _ _ _ _ us hl => match us, hl with | [_, _, _, _], _ => rfl
  have C_climbers_between : Cal l.prog w K mg base 1 "climbers_between" ["size", "row", "start", "length"] (sp_climbers_between K) := ⟨⟨_, _, ok_climbers_between F_climbers_between B, PySem.W.mg_of X G a_climbers_between, k_climbers_between, b_climbers_between⟩⟩
  have F__law_mix := fun_mk (st := st__law_mix) l__law_mix c__law_mix k__law_mix
  have b__law_mix := F__law_mix.binds (ps := ["_law_cell", "_law_turn"]) fun _ _ _ _ _ _ us hl => match us, hl with | [_, _], _ => rfl
  have C__law_mix : Cal l.prog w K mg base 1 "_law_mix" ["_law_cell", "_law_turn"] (sp__law_mix K) := ⟨⟨_, _, ok__law_mix F__law_mix B, PySem.W.mg_of X G a__law_mix, k__law_mix, b__law_mix⟩⟩
  have F__law_source := fun_mk (st := st__law_source) l__law_source c__law_source k__law_source
  have b__law_source := F__law_source.binds (ps := ["_law_cell"]) fun _ _ _ _ _ _ us hl => match us, hl with | [_], _ => rfl
  have C__law_source : Cal l.prog w K mg base 1 "_law_source" ["_law_cell"] (sp__law_source K) := ⟨⟨_, _, ok__law_source F__law_source B, PySem.W.mg_of X G a__law_source, k__law_source, b__law_source⟩⟩
  have F__law_sizes := fun_mk (st := st__law_sizes) l__law_sizes c__law_sizes k__law_sizes
  have b__law_sizes := F__law_sizes.binds (ps := ["_law_rounds"]) fun _ _ _ _ _ _ us hl => match us, hl with | [_], _ => rfl
  have C__law_sizes : Cal l.prog w K mg base 1 "_law_sizes" ["_law_rounds"] (sp__law_sizes K) := ⟨⟨_, _, ok__law_sizes F__law_sizes B, PySem.W.mg_of X G a__law_sizes, k__law_sizes, b__law_sizes⟩⟩
  have F__law_word := fun_mk (st := st__law_word) l__law_word c__law_word k__law_word
  have b__law_word := F__law_word.binds (ps := ["_law_rounds", "_law_span", "_law_code"]) fun _ _ _ _ _ _ us hl => match us, hl with | [_, _, _], _ => rfl
  have C__law_word : Cal l.prog w K mg base 1 "_law_word" ["_law_rounds", "_law_span", "_law_code"] (sp__law_word K) := ⟨⟨_, _, ok__law_word F__law_word B, PySem.W.mg_of X G a__law_word, k__law_word, b__law_word⟩⟩
  have F__law_amounts := fun_mk (st := st__law_amounts) l__law_amounts c__law_amounts k__law_amounts
  have b__law_amounts := F__law_amounts.binds (ps := ["_law_rounds", "_law_rows"]) fun _ _ _ _ _ _ us hl => match us, hl with | [_, _], _ => rfl
  have C__law_amounts : Cal l.prog w K mg base 1 "_law_amounts" ["_law_rounds", "_law_rows"] (sp__law_amounts K) := ⟨⟨_, _, ok__law_amounts F__law_amounts B, PySem.W.mg_of X G a__law_amounts, k__law_amounts, b__law_amounts⟩⟩
  have F_is_at_least := fun_mk (st := st_is_at_least) l_is_at_least c_is_at_least k_is_at_least
  have b_is_at_least := F_is_at_least.binds (ps := ["value", "low"]) fun _ _ _ _ _ _ us hl => match us, hl with | [_, _], _ => rfl
  have C_is_at_least : Cal l.prog w K mg base 2 "is_at_least" ["value", "low"] (sp_is_at_least K) := ⟨⟨_, _, ok_is_at_least F_is_at_least B C_is_integer, PySem.W.mg_of X G a_is_at_least, k_is_at_least, b_is_at_least⟩⟩
  have F_is_between := fun_mk (st := st_is_between) l_is_between c_is_between k_is_between
  have b_is_between := F_is_between.binds (ps := ["value", "low", "high"]) fun _ _ _ _ _ _ us hl => match us, hl with | [_, _, _], _ => rfl
  have C_is_between : Cal l.prog w K mg base 2 "is_between" ["value", "low", "high"] (sp_is_between K) := ⟨⟨_, _, ok_is_between F_is_between B C_is_integer, PySem.W.mg_of X G a_is_between, k_is_between, b_is_between⟩⟩
  have F_lowest_terms := fun_mk (st := st_lowest_terms) l_lowest_terms c_lowest_terms k_lowest_terms
  have b_lowest_terms := F_lowest_terms.binds (ps := ["numerator", "denominator"]) fun _ _ _ _ _ _ us hl => match us, hl with | [_, _], _ => rfl
  have C_lowest_terms : Cal l.prog w K mg base 2 "lowest_terms" ["numerator", "denominator"] (sp_lowest_terms K) := ⟨⟨_, _, ok_lowest_terms F_lowest_terms B C_greatest_common_divisor, PySem.W.mg_of X G a_lowest_terms, k_lowest_terms, b_lowest_terms⟩⟩
  have F_scaled_weight := fun_mk (st := st_scaled_weight) l_scaled_weight c_scaled_weight k_scaled_weight
  have b_scaled_weight := F_scaled_weight.binds (ps := ["schedule", "counts"]) fun _ _ _ _ _ _ us hl => match us, hl with | [_, _], _ => rfl
  have C_scaled_weight : Cal l.prog w K mg base 2 "scaled_weight" ["schedule", "counts"] (sp_scaled_weight K) := ⟨⟨_, _, ok_scaled_weight F_scaled_weight B C_products, PySem.W.mg_of X G a_scaled_weight, k_scaled_weight, b_scaled_weight⟩⟩
  have F_is_row := fun_mk (st := st_is_row) l_is_row c_is_row k_is_row
  have b_is_row := F_is_row.binds (ps := ["sizes", "value"]) fun _ _ _ _ _ _ us hl => match us, hl with | [_, _], _ => rfl
  have C_is_row : Cal l.prog w K mg base 2 "is_row" ["sizes", "value"] (sp_is_row K) := ⟨⟨_, _, ok_is_row F_is_row B C_is_integer, PySem.W.mg_of X G a_is_row, k_is_row, b_is_row⟩⟩
  have F_arrivals_by_start := fun_mk (st := st_arrivals_by_start) l_arrivals_by_start c_arrivals_by_start k_arrivals_by_start
  have b_arrivals_by_start := F_arrivals_by_start.binds (ps := ["schedule", "plan"]) fun _ _ _ _ _ _ us hl => match us, hl with | [_, _], _ => rfl
  have C_arrivals_by_start : Cal l.prog w K mg base 2 "arrivals_by_start" ["schedule", "plan"] (sp_arrivals_by_start K) := ⟨⟨_, _, ok_arrivals_by_start F_arrivals_by_start B C_products, PySem.W.mg_of X G a_arrivals_by_start, k_arrivals_by_start, b_arrivals_by_start⟩⟩
  have F__law_draw := fun_mk (st := st__law_draw) l__law_draw c__law_draw k__law_draw
  have b__law_draw := F__law_draw.binds (ps := ["_law_source_here", "_law_limit"]) fun _ _ _ _ _ _ us hl => match us, hl with | [_, _], _ => rfl
  have C__law_draw : Cal l.prog w K mg base 2 "_law_draw" ["_law_source_here", "_law_limit"] (sp__law_draw K) := ⟨⟨_, _, ok__law_draw F__law_draw B C__law_mix, PySem.W.mg_of X G a__law_draw, k__law_draw, b__law_draw⟩⟩
  have F__law_levels := fun_mk (st := st__law_levels) l__law_levels c__law_levels k__law_levels
  have b__law_levels := F__law_levels.binds (ps := ["_law_rounds", "_law_rows"]) fun _ _ _ _ _ _ us hl => match us, hl with | [_, _], _ => rfl
  have C__law_levels : Cal l.prog w K mg base 2 "_law_levels" ["_law_rounds", "_law_rows"] (sp__law_levels K) := ⟨⟨_, _, ok__law_levels F__law_levels B C__law_sizes, PySem.W.mg_of X G a__law_levels, k__law_levels, b__law_levels⟩⟩
  have F_require_schedule := fun_mk (st := st_require_schedule) l_require_schedule c_require_schedule k_require_schedule
  have b_require_schedule := F_require_schedule.binds (ps := ["schedule"]) fun _ _ _ _ _ _ us hl => match us, hl with | [_], _ => rfl
  have C_require_schedule : Cal l.prog w K mg base 3 "require_schedule" ["schedule"] (sp_require_schedule K) := ⟨⟨_, _, ok_require_schedule F_require_schedule B MX C_is_at_least, PySem.W.mg_of X G a_require_schedule, k_require_schedule, b_require_schedule⟩⟩
  have F_is_group := fun_mk (st := st_is_group) l_is_group c_is_group k_is_group
  have b_is_group := F_is_group.binds (ps := ["value", "length"]) fun _ _ _ _ _ _ us hl => match us, hl with | [_, _], _ => rfl
  have C_is_group : Cal l.prog w K mg base 3 "is_group" ["value", "length"] (sp_is_group K) := ⟨⟨_, _, ok_is_group F_is_group B C_is_at_least, PySem.W.mg_of X G a_is_group, k_is_group, b_is_group⟩⟩
  have F_require_plan := fun_mk (st := st_require_plan) l_require_plan c_require_plan k_require_plan
  have b_require_plan := F_require_plan.binds (ps := ["schedule", "plan"]) fun _ _ _ _ _ _ us hl => match us, hl with | [_, _], _ => rfl
  have C_require_plan : Cal l.prog w K mg base 3 "require_plan" ["schedule", "plan"] (sp_require_plan K) := ⟨⟨_, _, ok_require_plan F_require_plan B C_is_row C_products, PySem.W.mg_of X G a_require_plan, k_require_plan, b_require_plan⟩⟩
  have F_require_choices := fun_mk (st := st_require_choices) l_require_choices c_require_choices k_require_choices
  have b_require_choices := F_require_choices.binds (ps := ["schedule", "choices", "limit"]) fun _ _ _ _ _ _ us hl => match us, hl with | [_, _, _], _ => rfl
  have C_require_choices : Cal l.prog w K mg base 3 "require_choices" ["schedule", "choices", "limit"] (sp_require_choices K) := ⟨⟨_, _, ok_require_choices F_require_choices B C_is_between, PySem.W.mg_of X G a_require_choices, k_require_choices, b_require_choices⟩⟩
  have F__law_wide := fun_mk (st := st__law_wide) l__law_wide c__law_wide k__law_wide
  have b__law_wide := F__law_wide.binds (ps := ["_law_source_here"]) fun _ _ _ _ _ _ us hl => match us, hl with | [_], _ => rfl
  have C__law_wide : Cal l.prog w K mg base 3 "_law_wide" ["_law_source_here"] (sp__law_wide K) := ⟨⟨_, _, ok__law_wide F__law_wide B C__law_draw, PySem.W.mg_of X G a__law_wide, k__law_wide, b__law_wide⟩⟩
  have F__law_plan := fun_mk (st := st__law_plan) l__law_plan c__law_plan k__law_plan
  have b__law_plan := F__law_plan.binds (ps := ["_law_source_here", "_law_rounds", "_law_rows", "_law_most"]) fun _ _ _ _ _ _ us hl => match us, hl with | [_, _, _, _], _ => rfl
  have C__law_plan : Cal l.prog w K mg base 3 "_law_plan" ["_law_source_here", "_law_rounds", "_law_rows", "_law_most"] (sp__law_plan K) := ⟨⟨_, _, ok__law_plan F__law_plan B C__law_draw C__law_sizes, PySem.W.mg_of X G a__law_plan, k__law_plan, b__law_plan⟩⟩
  have F_require_counts := fun_mk (st := st_require_counts) l_require_counts c_require_counts k_require_counts
  have b_require_counts := F_require_counts.binds (ps := ["counts"]) fun _ _ _ _ _ _ us hl => match us, hl with | [_], _ => rfl
  have C_require_counts : Cal l.prog w K mg base 4 "require_counts" ["counts"] (sp_require_counts K) := ⟨⟨_, _, ok_require_counts F_require_counts B MX C_is_group, PySem.W.mg_of X G a_require_counts, k_require_counts, b_require_counts⟩⟩
  have F_number_of := fun_mk (st := st_number_of) l_number_of c_number_of k_number_of
  have b_number_of := F_number_of.binds (ps := ["schedule", "choices"]) fun _ _ _ _ _ _ us hl => match us, hl with | [_, _], _ => rfl
  have C_number_of : Cal l.prog w K mg base 4 "number_of" ["schedule", "choices"] (sp_number_of K) := ⟨⟨_, _, ok_number_of F_number_of B C_require_choices C_require_schedule C_word_numbers, PySem.W.mg_of X G a_number_of, k_number_of, b_number_of⟩⟩
  have F_covered := fun_mk (st := st_covered) l_covered c_covered k_covered
  have b_covered := F_covered.binds (ps := ["schedule", "plan", "choices"]) fun _ _ _ _ _ _ us hl => match us, hl with | [_, _, _], _ => rfl
  have C_covered : Cal l.prog w K mg base 4 "covered" ["schedule", "plan", "choices"] (sp_covered K) := ⟨⟨_, _, ok_covered F_covered B C_products C_require_choices C_require_plan C_require_schedule C_word_numbers, PySem.W.mg_of X G a_covered, k_covered, b_covered⟩⟩
  have F_extreme_choices := fun_mk (st := st_extreme_choices) l_extreme_choices c_extreme_choices k_extreme_choices
  have b_extreme_choices := F_extreme_choices.binds (ps := ["schedule", "plan"]) fun _ _ _ _ _ _ us hl => match us, hl with | [_, _], _ => rfl
  have C_extreme_choices : Cal l.prog w K mg base 4 "extreme_choices" ["schedule", "plan"] (sp_extreme_choices K) := ⟨⟨_, _, ok_extreme_choices F_extreme_choices B C_arrivals_by_start C_digits C_require_plan C_require_schedule, PySem.W.mg_of X G a_extreme_choices, k_extreme_choices, b_extreme_choices⟩⟩
  have F_rest_of := fun_mk (st := st_rest_of) l_rest_of c_rest_of k_rest_of
  have b_rest_of := F_rest_of.binds (ps := ["schedule", "plan", "choices"]) fun _ _ _ _ _ _ us hl => match us, hl with | [_, _, _], _ => rfl
  have C_rest_of : Cal l.prog w K mg base 4 "rest_of" ["schedule", "plan", "choices"] (sp_rest_of K) := ⟨⟨_, _, ok_rest_of F_rest_of B C_climbers_between C_products C_require_choices C_require_plan C_require_schedule C_word_numbers, PySem.W.mg_of X G a_rest_of, k_rest_of, b_rest_of⟩⟩
  have F_weight := fun_mk (st := st_weight) l_weight c_weight k_weight
  have b_weight := F_weight.binds (ps := ["schedule", "counts"]) fun _ _ _ _ _ _ us hl => match us, hl with | [_, _], _ => rfl
  have C_weight : Cal l.prog w K mg base 5 "weight" ["schedule", "counts"] (sp_weight K) := ⟨⟨_, _, ok_weight F_weight B C_lowest_terms C_products C_require_counts C_require_schedule C_scaled_weight, PySem.W.mg_of X G a_weight, k_weight, b_weight⟩⟩
  have F_check_plan := fun_mk (st := st_check_plan) l_check_plan c_check_plan k_check_plan
  have b_check_plan := F_check_plan.binds (ps := ["schedule", "counts", "plan"]) fun _ _ _ _ _ _ us hl => match us, hl with | [_, _, _], _ => rfl
  have C_check_plan : Cal l.prog w K mg base 5 "check_plan" ["schedule", "counts", "plan"] (sp_check_plan K) := ⟨⟨_, _, ok_check_plan F_check_plan B C_require_counts C_require_plan C_require_schedule, PySem.W.mg_of X G a_check_plan, k_check_plan, b_check_plan⟩⟩
  have F_is_prefix_free := fun_mk (st := st_is_prefix_free) l_is_prefix_free c_is_prefix_free k_is_prefix_free
  have b_is_prefix_free := F_is_prefix_free.binds (ps := ["schedule", "plan"]) fun _ _ _ _ _ _ us hl => match us, hl with | [_, _], _ => rfl
  have C_is_prefix_free : Cal l.prog w K mg base 5 "is_prefix_free" ["schedule", "plan"] (sp_is_prefix_free K) := ⟨⟨_, _, ok_is_prefix_free F_is_prefix_free B C_extreme_choices, PySem.W.mg_of X G a_is_prefix_free, k_is_prefix_free, b_is_prefix_free⟩⟩
  have F__law_extremes_right := fun_mk (st := st__law_extremes_right) l__law_extremes_right c__law_extremes_right k__law_extremes_right
  have b__law_extremes_right := F__law_extremes_right.binds (ps := ["_law_rounds", "_law_rows", "_law_levels_here"]) fun _ _ _ _ _ _ us hl => match us, hl with | [_, _, _], _ => rfl
  have C__law_extremes_right : Cal l.prog w K mg base 5 "_law_extremes_right" ["_law_rounds", "_law_rows", "_law_levels_here"] (sp__law_extremes_right K) := ⟨⟨_, _, ok__law_extremes_right F__law_extremes_right B C__law_word C_covered C_extreme_choices C_number_of, PySem.W.mg_of X G a__law_extremes_right, k__law_extremes_right, b__law_extremes_right⟩⟩
  have F__law_complement_right := fun_mk (st := st__law_complement_right) l__law_complement_right c__law_complement_right k__law_complement_right
  have b__law_complement_right := F__law_complement_right.binds (ps := ["_law_source_here", "_law_rounds", "_law_rows"]) fun _ _ _ _ _ _ us hl => match us, hl with | [_, _, _], _ => rfl
  have C__law_complement_right : Cal l.prog w K mg base 5 "_law_complement_right" ["_law_source_here", "_law_rounds", "_law_rows"] (sp__law_complement_right K) := ⟨⟨_, _, ok__law_complement_right F__law_complement_right B C__law_draw C__law_sizes C_extreme_choices, PySem.W.mg_of X G a__law_complement_right, k__law_complement_right, b__law_complement_right⟩⟩
  have F__law_rest_right := fun_mk (st := st__law_rest_right) l__law_rest_right c__law_rest_right k__law_rest_right
  have b__law_rest_right := F__law_rest_right.binds (ps := ["_law_source_here", "_law_rounds", "_law_rows", "_law_word_here"]) fun _ _ _ _ _ _ us hl => match us, hl with | [_, _, _, _], _ => rfl
  have C__law_rest_right : Cal l.prog w K mg base 5 "_law_rest_right" ["_law_source_here", "_law_rounds", "_law_rows", "_law_word_here"] (sp__law_rest_right K) := ⟨⟨_, _, ok__law_rest_right F__law_rest_right B C__law_draw C_covered C_rest_of, PySem.W.mg_of X G a__law_rest_right, k__law_rest_right, b__law_rest_right⟩⟩
  have F_plan_fault := fun_mk (st := st_plan_fault) l_plan_fault c_plan_fault k_plan_fault
  have b_plan_fault := F_plan_fault.binds (ps := ["schedule", "counts", "plan"]) fun _ _ _ _ _ _ us hl => match us, hl with | [_, _, _], _ => rfl
  have C_plan_fault : Cal l.prog w K mg base 6 "plan_fault" ["schedule", "counts", "plan"] (sp_plan_fault K) := ⟨⟨_, _, ok_plan_fault F_plan_fault B C_arrivals_by_start C_check_plan C_digits C_products C_rounded_up C_scaled_weight, PySem.W.mg_of X G a_plan_fault, k_plan_fault, b_plan_fault⟩⟩
  have F__law_mean_right := fun_mk (st := st__law_mean_right) l__law_mean_right c__law_mean_right k__law_mean_right
  have b__law_mean_right := F__law_mean_right.binds (ps := ["_law_rounds", "_law_rows", "_law_levels_here"]) fun _ _ _ _ _ _ us hl => match us, hl with | [_, _, _], _ => rfl
  have C__law_mean_right : Cal l.prog w K mg base 6 "_law_mean_right" ["_law_rounds", "_law_rows", "_law_levels_here"] (sp__law_mean_right K) := ⟨⟨_, _, ok__law_mean_right F__law_mean_right B C__law_amounts C__law_sizes C_weight, PySem.W.mg_of X G a__law_mean_right, k__law_mean_right, b__law_mean_right⟩⟩
  have F__law_judged_right := fun_mk (st := st__law_judged_right) l__law_judged_right c__law_judged_right k__law_judged_right
  have b__law_judged_right := F__law_judged_right.binds (ps := ["_law_rounds", "_law_rows", "_law_levels_here"]) fun _ _ _ _ _ _ us hl => match us, hl with | [_, _, _], _ => rfl
  have C__law_judged_right : Cal l.prog w K mg base 7 "_law_judged_right" ["_law_rounds", "_law_rows", "_law_levels_here"] (sp__law_judged_right K) := ⟨⟨_, _, ok__law_judged_right F__law_judged_right B C__law_amounts C__law_word C_is_prefix_free C_plan_fault C_weight, PySem.W.mg_of X G a__law_judged_right, k__law_judged_right, b__law_judged_right⟩⟩
  have F__law_is_right := fun_mk (st := st__law_is_right) l__law_is_right c__law_is_right k__law_is_right
  have b__law_is_right := F__law_is_right.binds (ps := ["_law_source_here", "_law_rounds"]) fun _ _ _ _ _ _ us hl => match us, hl with | [_, _], _ => rfl
  have C__law_is_right : Cal l.prog w K mg base 8 "_law_is_right" ["_law_source_here", "_law_rounds"] (sp__law_is_right K) := ⟨⟨_, _, ok__law_is_right F__law_is_right B C__law_amounts C__law_complement_right C__law_draw C__law_extremes_right C__law_judged_right C__law_levels C__law_mean_right C__law_plan C__law_rest_right C__law_word C_check_plan C_covered, PySem.W.mg_of X G a__law_is_right, k__law_is_right, b__law_is_right⟩⟩
  have F_law := fun_mk (st := st_law) l_law c_law k_law
  exact ok_law F_law B C__law_is_right C__law_source C__law_wide
theorem hsp_law {K : PySem.W.Frag} (H : Hp) (a : Addr) (ns : List Int) (hl : ns.length ≤ 63) (hS : SqL K H a (ns.map V.int)) : sp_law K [.ref a] H (fun v _ => v = .bl true) fun _ _ _ => False := by
  refine ⟨fun _ => False, ns, fun b z => z.elim, ?_, hl, fun d hd v H2 l2 dp => ?_⟩
  · rw [hide_no]
    exact .cons (.lst hS (dpa_ofInts ns)) .nil
  · subst hd
    exact dp_bl dp
theorem walk {l : PySem.W.OpenLaw} {q : Program} {loose : List Str} {XP : (Str → Option Value) → Heap → Prop} {YP : World → Heap → Prop} {d : DefRec} {K : Params → PySem.W.Frag} (hn : l.most = some 63) (hdf : d.params.defaults = [])
    (hY : ∀ (w : World) (h : Heap), YP w h → (K w.params).In h)
    (F : ∀ (w : World) (mg : Str → Option Value) (fa : Addr) (h : Heap), (K w.params).In h → h.Ns mainGlobals mg → mg d.name = some (.ref fa) →
      ∃ fd : FuncData, (∀ (s : Shared) (u : Value), BindsTo s fd ⟨[u], []⟩ [("_law_script", u)]) ∧ ∀ base : Heap, (K w.params).In base → base.Ns mainGlobals mg → FnOk l.prog w (K w.params) mg base CX0 9 fa fd ["_law_script"] (sp_law (K w.params))) :
    PySem.W.WalkO q loose XP YP l.row.toRowW d [] (fun f vs => PySem.call f vs) :=
  L2.walk_of (n := 63) (k := 9) (x := "_law_script") (CX := fun _ => CX0) (sp := fun w => sp_law (K w.params)) hn (by decide) hdf ⟨rfl, by decide, by decide⟩ hY F (fun _ H a ns hl _ hS => hsp_law H a ns hl hS) fun _ _ _ _ _ z => z
end D
open PySem PySem.W PyProof.Rows
set_option maxRecDepth 100000 in
set_option maxHeartbeats 0 in
theorem PySem.Challenge.cw_splitclimb_k27_whole_means_and_complemen_holds : PySem.Challenge.rw_splitclimb_k27_whole_means_and_complemen.Holds := by
  w_on; o_law; k_head; (case hw => w_witness2)
  k_fill
  refine D.walk (l := PySem.Challenge.rw_splitclimb_k27_whole_means_and_complemen) rfl rfl (fun w h Y => PySem.W.kIn_of Y) ?F
  case F =>
    intro w mg fa h KX G hmg
    refine' D.all_mk KX G hmg ?a_is_integer ?l_is_integer ?c_is_integer ?k_is_integer ?a_greatest_common_divisor ?l_greatest_common_divisor ?c_greatest_common_divisor ?k_greatest_common_divisor ?a_rounded_up ?l_rounded_up ?c_rounded_up ?k_rounded_up ?a_products ?l_products ?c_products ?k_products ?a_word_numbers ?l_word_numbers ?c_word_numbers ?k_word_numbers ?a_digits ?l_digits ?c_digits ?k_digits ?a_climbers_between ?l_climbers_between ?c_climbers_between ?k_climbers_between ?a__law_mix ?l__law_mix ?c__law_mix ?k__law_mix ?a__law_source ?l__law_source ?c__law_source ?k__law_source ?a__law_sizes ?l__law_sizes ?c__law_sizes ?k__law_sizes ?a__law_word ?l__law_word ?c__law_word ?k__law_word ?a__law_amounts ?l__law_amounts ?c__law_amounts ?k__law_amounts ?a_is_at_least ?l_is_at_least ?c_is_at_least ?k_is_at_least ?a_is_between ?l_is_between ?c_is_between ?k_is_between ?a_lowest_terms ?l_lowest_terms ?c_lowest_terms ?k_lowest_terms ?a_scaled_weight ?l_scaled_weight ?c_scaled_weight ?k_scaled_weight ?a_is_row ?l_is_row ?c_is_row ?k_is_row ?a_arrivals_by_start ?l_arrivals_by_start ?c_arrivals_by_start ?k_arrivals_by_start ?a__law_draw ?l__law_draw ?c__law_draw ?k__law_draw ?a__law_levels ?l__law_levels ?c__law_levels ?k__law_levels ?a_require_schedule ?l_require_schedule ?c_require_schedule ?k_require_schedule ?a_is_group ?l_is_group ?c_is_group ?k_is_group ?a_require_plan ?l_require_plan ?c_require_plan ?k_require_plan ?a_require_choices ?l_require_choices ?c_require_choices ?k_require_choices ?a__law_wide ?l__law_wide ?c__law_wide ?k__law_wide ?a__law_plan ?l__law_plan ?c__law_plan ?k__law_plan ?a_require_counts ?l_require_counts ?c_require_counts ?k_require_counts ?a_number_of ?l_number_of ?c_number_of ?k_number_of ?a_covered ?l_covered ?c_covered ?k_covered ?a_extreme_choices ?l_extreme_choices ?c_extreme_choices ?k_extreme_choices ?a_rest_of ?l_rest_of ?c_rest_of ?k_rest_of ?a_weight ?l_weight ?c_weight ?k_weight ?a_check_plan ?l_check_plan ?c_check_plan ?k_check_plan ?a_is_prefix_free ?l_is_prefix_free ?c_is_prefix_free ?k_is_prefix_free ?a__law_extremes_right ?l__law_extremes_right ?c__law_extremes_right ?k__law_extremes_right ?a__law_complement_right ?l__law_complement_right ?c__law_complement_right ?k__law_complement_right ?a__law_rest_right ?l__law_rest_right ?c__law_rest_right ?k__law_rest_right ?a_plan_fault ?l_plan_fault ?c_plan_fault ?k_plan_fault ?a__law_mean_right ?l__law_mean_right ?c__law_mean_right ?k__law_mean_right ?a__law_judged_right ?l__law_judged_right ?c__law_judged_right ?k__law_judged_right ?a__law_is_right ?l__law_is_right ?c__law_is_right ?k__law_is_right ?a_law ?l_law ?c_law ?k_law ?z_len ?z_isinstance ?z_enumerate ?z_all ?z_sum ?z_zip ?z_reversed ?z_tuple ?z_list ?z_int ?z_bool ?z_abs ?z_max ?z_min ?z_sorted ?z_set ?z_range ?mx
    (case a_is_integer => k_is)
    (case l_is_integer => k_is)
    (case c_is_integer => k_is)
    (case k_is_integer => k_is)
    (case a_greatest_common_divisor => k_is)
    (case l_greatest_common_divisor => k_is)
    (case c_greatest_common_divisor => k_is)
    (case k_greatest_common_divisor => k_is)
    (case a_rounded_up => k_is)
    (case l_rounded_up => k_is)
    (case c_rounded_up => k_is)
    (case k_rounded_up => k_is)
    (case a_products => k_is)
    (case l_products => k_is)
    (case c_products => k_is)
    (case k_products => k_is)
    (case a_word_numbers => k_is)
    (case l_word_numbers => k_is)
    (case c_word_numbers => k_is)
    (case k_word_numbers => k_is)
    (case a_digits => k_is)
    (case l_digits => k_is)
    (case c_digits => k_is)
    (case k_digits => k_is)
    (case a_climbers_between => k_is)
    (case l_climbers_between => k_is)
    (case c_climbers_between => k_is)
    (case k_climbers_between => k_is)
    (case a__law_mix => k_is)
    (case l__law_mix => k_is)
    (case c__law_mix => k_is)
    (case k__law_mix => k_is)
    (case a__law_source => k_is)
    (case l__law_source => k_is)
    (case c__law_source => k_is)
    (case k__law_source => k_is)
    (case a__law_sizes => k_is)
    (case l__law_sizes => k_is)
    (case c__law_sizes => k_is)
    (case k__law_sizes => k_is)
    (case a__law_word => k_is)
    (case l__law_word => k_is)
    (case c__law_word => k_is)
    (case k__law_word => k_is)
    (case a__law_amounts => k_is)
    (case l__law_amounts => k_is)
    (case c__law_amounts => k_is)
    (case k__law_amounts => k_is)
    (case a_is_at_least => k_is)
    (case l_is_at_least => k_is)
    (case c_is_at_least => k_is)
    (case k_is_at_least => k_is)
    (case a_is_between => k_is)
    (case l_is_between => k_is)
    (case c_is_between => k_is)
    (case k_is_between => k_is)
    (case a_lowest_terms => k_is)
    (case l_lowest_terms => k_is)
    (case c_lowest_terms => k_is)
    (case k_lowest_terms => k_is)
    (case a_scaled_weight => k_is)
    (case l_scaled_weight => k_is)
    (case c_scaled_weight => k_is)
    (case k_scaled_weight => k_is)
    (case a_is_row => k_is)
    (case l_is_row => k_is)
    (case c_is_row => k_is)
    (case k_is_row => k_is)
    (case a_arrivals_by_start => k_is)
    (case l_arrivals_by_start => k_is)
    (case c_arrivals_by_start => k_is)
    (case k_arrivals_by_start => k_is)
    (case a__law_draw => k_is)
    (case l__law_draw => k_is)
    (case c__law_draw => k_is)
    (case k__law_draw => k_is)
    (case a__law_levels => k_is)
    (case l__law_levels => k_is)
    (case c__law_levels => k_is)
    (case k__law_levels => k_is)
    (case a_require_schedule => k_is)
    (case l_require_schedule => k_is)
    (case c_require_schedule => k_is)
    (case k_require_schedule => k_is)
    (case a_is_group => k_is)
    (case l_is_group => k_is)
    (case c_is_group => k_is)
    (case k_is_group => k_is)
    (case a_require_plan => k_is)
    (case l_require_plan => k_is)
    (case c_require_plan => k_is)
    (case k_require_plan => k_is)
    (case a_require_choices => k_is)
    (case l_require_choices => k_is)
    (case c_require_choices => k_is)
    (case k_require_choices => k_is)
    (case a__law_wide => k_is)
    (case l__law_wide => k_is)
    (case c__law_wide => k_is)
    (case k__law_wide => k_is)
    (case a__law_plan => k_is)
    (case l__law_plan => k_is)
    (case c__law_plan => k_is)
    (case k__law_plan => k_is)
    (case a_require_counts => k_is)
    (case l_require_counts => k_is)
    (case c_require_counts => k_is)
    (case k_require_counts => k_is)
    (case a_number_of => k_is)
    (case l_number_of => k_is)
    (case c_number_of => k_is)
    (case k_number_of => k_is)
    (case a_covered => k_is)
    (case l_covered => k_is)
    (case c_covered => k_is)
    (case k_covered => k_is)
    (case a_extreme_choices => k_is)
    (case l_extreme_choices => k_is)
    (case c_extreme_choices => k_is)
    (case k_extreme_choices => k_is)
    (case a_rest_of => k_is)
    (case l_rest_of => k_is)
    (case c_rest_of => k_is)
    (case k_rest_of => k_is)
    (case a_weight => k_is)
    (case l_weight => k_is)
    (case c_weight => k_is)
    (case k_weight => k_is)
    (case a_check_plan => k_is)
    (case l_check_plan => k_is)
    (case c_check_plan => k_is)
    (case k_check_plan => k_is)
    (case a_is_prefix_free => k_is)
    (case l_is_prefix_free => k_is)
    (case c_is_prefix_free => k_is)
    (case k_is_prefix_free => k_is)
    (case a__law_extremes_right => k_is)
    (case l__law_extremes_right => k_is)
    (case c__law_extremes_right => k_is)
    (case k__law_extremes_right => k_is)
    (case a__law_complement_right => k_is)
    (case l__law_complement_right => k_is)
    (case c__law_complement_right => k_is)
    (case k__law_complement_right => k_is)
    (case a__law_rest_right => k_is)
    (case l__law_rest_right => k_is)
    (case c__law_rest_right => k_is)
    (case k__law_rest_right => k_is)
    (case a_plan_fault => k_is)
    (case l_plan_fault => k_is)
    (case c_plan_fault => k_is)
    (case k_plan_fault => k_is)
    (case a__law_mean_right => k_is)
    (case l__law_mean_right => k_is)
    (case c__law_mean_right => k_is)
    (case k__law_mean_right => k_is)
    (case a__law_judged_right => k_is)
    (case l__law_judged_right => k_is)
    (case c__law_judged_right => k_is)
    (case k__law_judged_right => k_is)
    (case a__law_is_right => k_is)
    (case l__law_is_right => k_is)
    (case c__law_is_right => k_is)
    (case k__law_is_right => k_is)
    (case a_law => k_is)
    (case l_law => k_is)
    (case c_law => k_is)
    (case k_law => k_is)
    (case z_len => k_is)
    (case z_isinstance => k_is)
    (case z_enumerate => k_is)
    (case z_all => k_is)
    (case z_sum => k_is)
    (case z_zip => k_is)
    (case z_reversed => k_is)
    (case z_tuple => k_is)
    (case z_list => k_is)
    (case z_int => k_is)
    (case z_bool => k_is)
    (case z_abs => k_is)
    (case z_max => k_is)
    (case z_min => k_is)
    (case z_sorted => k_is)
    (case z_set => k_is)
    (case z_range => k_is)
    (case mx => k_is)
