import PyProof.Rows.All
import Wide.All
import OpenK.AllK
import Wide.FinOn
import HandS.ForMost
import HandS.Exc
import HandS.ExcOwn
import HandS.TryOnly
import HandS.WordsExc
import HandS.IsInst
import HandS.Defaults
import HandS.SortInts
import HandS.Conv
import HandS.Walk
import HandS.Codes
import PyProof.LongRange
import KE.GoesMore
import PySem.Challenge.RW_outrhymes_k06_whole_safe_places
set_option Elab.async false
set_option linter.all false
/-! The plain law: what the counting of outrhymes computes. Nothing of Python here. -/
namespace K06

/-- which child of s + k stands at place p when s are in -/
def lf (f : Int → Int) : Nat → Int → Int → Int
  | 0, p, _ => p
  | k + 1, p, s => lf f k ((p + f (s + 1)) % (s + 1)) (s + 1)

theorem lf_add (f : Int → Int) : ∀ (a b : Nat) (p s : Int), lf f (a + b) p s = lf f b (lf f a p s) (s + a)
  | 0, b, p, s => by simp [lf]
  | a + 1, b, p, s => by
    have e : a + 1 + b = (a + b) + 1 := by omega
    rw [e]
    show lf f (a + b) _ _ = lf f b (lf f a _ _) _
    rw [lf_add f a b]
    have e2 : s + 1 + (a : Int) = s + ((a + 1 : Nat) : Int) := by omega
    rw [e2]

theorem lf_range (f : Int → Int) : ∀ (k : Nat) (p s : Int), 0 ≤ p → p < s → 0 ≤ lf f k p s ∧ lf f k p s < s + k
  | 0, p, s, h0, h1 => by simp only [lf]; omega
  | k + 1, p, s, h0, h1 => by
    have hs : (0 : Int) < s + 1 := by omega
    have a := lf_range f k ((p + f (s + 1)) % (s + 1)) (s + 1) (Int.emod_nonneg _ (by omega)) (Int.emod_lt_of_pos _ hs)
    simp only [lf]
    omega

theorem lf_congr {f g : Int → Int} : ∀ (k : Nat) (p s : Int), (∀ i : Int, s < i → i ≤ s + k → f i = g i) → lf f k p s = lf g k p s
  | 0, p, s, _ => rfl
  | k + 1, p, s, h => by
    simp only [lf]
    rw [h (s + 1) (by omega) (by omega)]
    exact lf_congr k _ _ fun i h1 h2 => h i (by omega) (by omega)

/-- the sum of the next j rises -/
def Sf (f : Int → Int) (s : Int) : Nat → Int
  | 0 => 0
  | j + 1 => Sf f s j + f (s + 1 + j)

theorem lf_straight (f : Int → Int) (p s : Int) : ∀ (j : Nat), (∀ i : Nat, i < j → 0 ≤ p + Sf f s (i + 1) ∧ p + Sf f s (i + 1) ≤ s + i) → lf f j p s = p + Sf f s j
  | 0, _ => by simp [lf, Sf]
  | j + 1, h => by
    have ih := lf_straight f p s j fun i hi => h i (by omega)
    rw [lf_add f j 1, ih]
    obtain ⟨h1, h2⟩ := h j (by omega)
    simp only [Sf] at h1 h2 ⊢
    simp only [lf]
    have e : s + (j : Int) + 1 = s + 1 + j := by omega
    rw [e]
    have e2 : p + Sf f s j + f (s + 1 + j) = p + (Sf f s j + f (s + 1 + j)) := by omega
    rw [e2]
    exact Int.emod_eq_of_lt h1 (by omega)

theorem Sf_shift (f : Int → Int) (s d : Int) (m : Nat) (hp : ∀ i, f (i + d) = f i) : ∀ j : Nat, Sf f (s + d) j = Sf f s j
  | 0 => rfl
  | j + 1 => by
    simp only [Sf]
    rw [Sf_shift f s d m hp j]
    have e : s + d + 1 + (j : Int) = s + 1 + j + d := by omega
    rw [e, hp]

theorem per_mul (f : Int → Int) (m : Int) (hp : ∀ i, f (i + m) = f i) : ∀ (t : Nat) (i : Int), f (i + t * m) = f i
  | 0, i => by simp
  | t + 1, i => by
    have e : i + ((t + 1 : Nat) : Int) * m = (i + t * m) + m := by
      have : ((t + 1 : Nat) : Int) * m = t * m + m := by
        rw [Int.natCast_succ, Int.add_mul, Int.one_mul]
      omega
    rw [e, hp, per_mul f m hp t]

/-- over t whole rhymes without a wrap -/
theorem lf_leap (f : Int → Int) (m : Nat) (p s : Int) (hp : ∀ i, f (i + m) = f i) : ∀ (t : Nat),
    (∀ (i : Nat) (u : Nat), i < m → u < t → 0 ≤ p + Sf f s (i + 1) + u * Sf f s m ∧ p + Sf f s (i + 1) + u * Sf f s m ≤ s + i + u * m) →
    lf f (t * m) p s = p + t * Sf f s m
  | 0, _ => by simp [lf]
  | t + 1, h => by
    have ih := lf_leap f m p s hp t fun i u hi hu => h i u hi (by omega)
    have e : (t + 1) * m = t * m + m := by rw [Nat.add_mul, Nat.one_mul]
    rw [e, lf_add, ih]
    have ec : ((t * m : Nat) : Int) = (t : Int) * m := by simp
    rw [ec]
    have sh : ∀ j : Nat, Sf f (s + t * m) j = Sf f s j := Sf_shift f s ((t : Int) * m) m (per_mul f m hp t)
    rw [lf_straight f (p + t * Sf f s m) (s + t * m) m fun i hi => by
      rw [sh]
      obtain ⟨h1, h2⟩ := h i t hi (by omega)
      omega]
    rw [sh]
    have e3 : ((t + 1 : Nat) : Int) * Sf f s m = t * Sf f s m + Sf f s m := by rw [Int.natCast_succ, Int.add_mul, Int.one_mul]
    omega

/-! ### a place beside the singer -/
def sgn (now s : Int) : Int := if now < 0 then now + s else now
def stepN (now r : Int) : Int := now + (r - (if now < 0 then 1 else 0))
/-- a place as it is told from the singer -/
def bes (p s : Int) : Int := if p < s - p then p else p - s

theorem sgn_bes {p s : Int} (h0 : 0 ≤ p) (h1 : p < s) : sgn (bes p s) s = p := by
  unfold sgn bes; split <;> split <;> omega
theorem bes_bound {p s : Int} (h0 : 0 ≤ p) (h1 : p < s) : - s ≤ 2 * bes p s ∧ 2 * bes p s ≤ s := by
  unfold bes; split <;> omega
theorem emod_of_add {a b n : Int} (h : a = b + n) (h0 : 0 ≤ b) (h1 : b < n) : a % n = b := by
  rw [h, Int.add_emod_right]; exact Int.emod_eq_of_lt h0 h1
theorem emod_of_sub {a b n : Int} (h : a = b - n) (h0 : 0 ≤ b) (h1 : b < n) : a % n = b := by
  rw [h, Int.sub_emod_right]; exact Int.emod_eq_of_lt h0 h1
theorem sgn_step {now r s : Int} (hs : 0 < s) (h1 : - (s + 1) ≤ stepN now r) (h2 : stepN now r < s + 1) : (sgn now s + r) % (s + 1) = sgn (stepN now r) (s + 1) := by
  obtain ⟨z, hz⟩ : ∃ z, stepN now r = z := ⟨_, rfl⟩
  rw [hz] at h1 h2 ⊢
  unfold stepN at hz
  unfold sgn
  by_cases c : now < 0
  · rw [if_pos c] at hz ⊢
    by_cases d : z < 0
    · rw [if_pos d]
      have e : now + s + r = z + (s + 1) := by omega
      rw [e]
      exact Int.emod_eq_of_lt (by omega) (by omega)
    · rw [if_neg d]
      exact emod_of_add (b := z) (by omega) (by omega) (by omega)
  · rw [if_neg c] at hz ⊢
    by_cases d : z < 0
    · rw [if_pos d]
      exact emod_of_sub (b := z + (s + 1)) (by omega) (by omega) (by omega)
    · rw [if_neg d]
      have e : now + r = z := by omega
      rw [e]
      exact Int.emod_eq_of_lt (by omega) (by omega)

/-- the walk of a signed place over the next j rises -/
def nowF (f : Int → Int) (s now : Int) : Nat → Int
  | 0 => now
  | j + 1 => stepN (nowF f s now j) (f (s + 1 + j))
theorem nowF_bound (f : Int → Int) (s now : Int) (hf : ∀ i, -5 ≤ f i ∧ f i ≤ 6) : ∀ j : Nat, now - 6 * j ≤ nowF f s now j ∧ nowF f s now j ≤ now + 6 * j
  | 0 => by simp [nowF]
  | j + 1 => by
    obtain ⟨h1, h2⟩ := nowF_bound f s now hf j
    obtain ⟨h3, h4⟩ := hf (s + 1 + j)
    simp only [nowF, stepN]
    split <;> omega
theorem lf_now (f : Int → Int) (s now : Int) (hs : 0 < s) : ∀ j : Nat, (∀ i : Nat, i < j → - (s + i + 1) ≤ nowF f s now (i + 1) ∧ nowF f s now (i + 1) < s + i + 1) → lf f j (sgn now s) s = sgn (nowF f s now j) (s + j)
  | 0, _ => by simp [lf, nowF]
  | j + 1, h => by
    have ih := lf_now f s now hs j fun i hi => h i (by omega)
    rw [lf_add, ih]
    obtain ⟨h1, h2⟩ := h j (by omega)
    simp only [nowF] at h1 h2 ⊢
    simp only [lf]
    have e : s + (j : Int) + 1 = s + ((j + 1 : Nat) : Int) := by omega
    have e' : s + 1 + (j : Int) = s + (j : Int) + 1 := by omega
    rw [e'] at h1 h2 ⊢
    rw [sgn_step (by omega) h1 h2, e]
theorem nowF_shift (f : Int → Int) (s d now : Int) (hp : ∀ i, f (i + d) = f i) : ∀ j : Nat, nowF f (s + d) now j = nowF f s now j
  | 0 => rfl
  | j + 1 => by
    simp only [nowF]
    rw [nowF_shift f s d now hp j]
    have e : s + d + 1 + (j : Int) = s + 1 + j + d := by omega
    rw [e, hp]
/-- over t whole rhymes beside the singer -/
theorem lf_stay (f : Int → Int) (m : Nat) (s now : Int) (hm : m ≤ 4) (hs : 64 < s) (hf : ∀ i, -5 ≤ f i ∧ f i ≤ 6) (hp : ∀ i, f (i + m) = f i) (hb : - s ≤ 2 * now ∧ 2 * now ≤ s) (hn : nowF f s now m = now) :
    ∀ t : Nat, lf f (t * m) (sgn now s) s = sgn now (s + t * m)
  | 0 => by simp [lf]
  | t + 1 => by
    have ih := lf_stay f m s now hm hs hf hp hb hn t
    have e : (t + 1) * m = t * m + m := by rw [Nat.add_mul, Nat.one_mul]
    rw [e, lf_add, ih]
    have ec : ((t * m : Nat) : Int) = (t : Int) * m := by simp
    rw [ec]
    have nn : (0 : Int) ≤ (t : Int) * m := by rw [← ec]; exact Int.natCast_nonneg _
    have sh : ∀ j : Nat, nowF f (s + t * m) now j = nowF f s now j := nowF_shift f s ((t : Int) * m) now (per_mul f m hp t)
    rw [lf_now f (s + t * m) now (by omega) m fun i hi => by
      rw [sh]
      obtain ⟨h1, h2⟩ := nowF_bound f s now hf (i + 1)
      omega]
    rw [sh, hn]
    have e3 : s + ((t + 1 : Nat) : Int) * m = s + t * m + m := by rw [Int.natCast_succ, Int.add_mul, Int.one_mul]; omega
    rw [e3]

/-! ### the rises of a rhyme -/
def fr (rs : List Int) (n s : Int) : Int := rs.getD ((n - s) % (rs.length : Int)).toNat 0
theorem fr_per (rs : List Int) (n i : Int) : fr rs n (i + rs.length) = fr rs n i := by
  unfold fr
  have e : n - (i + (rs.length : Int)) = (n - i) - rs.length := by omega
  rw [e, Int.sub_emod_right]
def Rises (rs : List Int) : Prop := 1 ≤ rs.length ∧ rs.length ≤ 4 ∧ ∀ r ∈ rs, -5 ≤ r ∧ r ≤ 6
theorem Rises.ix {rs : List Int} (h : Rises rs) (i : Int) : 0 ≤ i % (rs.length : Int) ∧ i % (rs.length : Int) < rs.length :=
  ⟨Int.emod_nonneg _ (by have := h.1; omega), Int.emod_lt_of_pos _ (by have := h.1; omega)⟩
theorem Rises.at {rs : List Int} (h : Rises rs) (n s : Int) : rs[((n - s) % (rs.length : Int)).toNat]? = some (fr rs n s) := by
  obtain ⟨h1, h2⟩ := h.ix (n - s)
  unfold fr
  rw [List.getD_eq_getElem?_getD, List.getElem?_eq_getElem (by omega)]
  rfl
theorem Rises.fr {rs : List Int} (h : Rises rs) (n s : Int) : -5 ≤ fr rs n s ∧ fr rs n s ≤ 6 := h.2.2 _ (List.mem_of_getElem? (h.at n s))
/-- the rises by which a place comes up from s to n -/
def rowA (rs : List Int) (n s : Int) : List Int := (List.range rs.length).map fun at_ : Nat => K06.fr rs n (s + 1 + at_)
theorem rowA_len (rs : List Int) (n s : Int) : (rowA rs n s).length = rs.length := by simp [rowA]
theorem rowA_get {rs : List Int} {n s : Int} {j : Nat} (h : j < rs.length) : (rowA rs n s)[j]? = some (K06.fr rs n (s + 1 + j)) := by
  simp [rowA, h]
theorem sum_snoc (l : List Int) (x : Int) : (l ++ [x]).sum = l.sum + x := by
  induction l with
  | nil => simp
  | cons a r ih => simp only [List.cons_append, List.sum_cons, ih]; omega
theorem take_snoc {α : Type} {l : List α} {i : Nat} {x : α} (h : l[i]? = some x) : l.take (i + 1) = l.take i ++ [x] := by
  rw [List.take_add_one, h]; rfl
theorem sum_take_succ {l : List Int} {i : Nat} {x : Int} (h : l[i]? = some x) : (l.take (i + 1)).sum = (l.take i).sum + x := by
  rw [take_snoc h, sum_snoc]
theorem rowA_sum {rs : List Int} {n s : Int} : ∀ {j : Nat}, j ≤ rs.length → ((rowA rs n s).take j).sum = Sf (K06.fr rs n) s j
  | 0, _ => by simp [Sf]
  | j + 1, h => by
    rw [sum_take_succ (rowA_get (by omega)), rowA_sum (by omega)]
    rfl
/-- the sums of the first ones, of one, two and so on -/
def psum (xs : List Int) : List Int := (List.range xs.length).map fun j => (xs.take (j + 1)).sum
theorem psum_len (xs : List Int) : (psum xs).length = xs.length := by simp [psum]
theorem psum_get {xs : List Int} {j : Nat} (h : j < xs.length) : (psum xs)[j]? = some (xs.take (j + 1)).sum := by simp [psum, h]
theorem nowF_row {rs : List Int} {n s now : Int} : ∀ {j : Nat}, j ≤ rs.length → ((rowA rs n s).take j).foldl stepN now = nowF (K06.fr rs n) s now j
  | 0, _ => by simp [nowF]
  | j + 1, h => by
    rw [take_snoc (rowA_get (by omega)), List.foldl_append, nowF_row (by omega)]
    rfl

/-! ### how often a room is 0 or more -/
def ta (room more : Int) : Option Int := if room < 0 then some 0 else if 0 ≤ more then none else some (room / (-more) + 1)
/-- so many whole rhymes are safe: fewer than o says -/
def Und (t : Int) (o : Option Int) : Prop := 0 ≤ t ∧ ∀ c, o = some c → t < c
theorem ta_ok {room more t : Int} (h : Und t (ta room more)) : 0 ≤ room + t * more := by
  obtain ⟨h0, h⟩ := h
  unfold ta at h
  split at h
  · have := h 0 rfl; omega
  · split at h
    · rename_i c1 c2
      have := Int.mul_nonneg h0 c2
      omega
    · rename_i c1 c2
      have q := h _ rfl
      have q2 : t ≤ room / (-more) := by omega
      have q3 : t * (-more) ≤ room := (Int.le_ediv_iff_mul_le (by omega)).mp q2
      rw [Int.mul_neg] at q3
      omega
/-- the least one of numbers -/
def Least (o : Option Int) (os : List (Option Int)) : Prop := (o = none ∧ ∀ x ∈ os, x = none) ∨ ∃ m, o = some m ∧ some m ∈ os ∧ ∀ y, some y ∈ os → m ≤ y
theorem Least.und {o x : Option Int} {os : List (Option Int)} {t : Int} (h : Least o os) (hx : x ∈ os) (u : Und t o) : Und t x := by
  refine ⟨u.1, fun c e => ?_⟩
  subst e
  rcases h with ⟨_, h⟩ | ⟨m, e, _, h⟩
  · exact absurd (h _ hx) (by simp)
  · have := u.2 m e
    have := h c hx
    omega
/-- what climbs gives is sound -/
def Climb (rs : List Int) (n p s : Int) (o : Option Int) : Prop := ∀ (j : Nat) (t : Int), j < rs.length → Und t o →
  0 ≤ p + Sf (fr rs n) s (j + 1) + t * Sf (fr rs n) s rs.length ∧ p + Sf (fr rs n) s (j + 1) + t * Sf (fr rs n) s rs.length ≤ s + j + t * rs.length

/-! ### the three ways of a turn of lifted -/
theorem leap_way {rs : List Int} (h : Rises rs) {n p s l : Int} {o : Option Int} (c : Climb rs n p s o) (hl : 0 ≤ l) (ho : ∀ x, o = some x → l ≤ x) :
    lf (fr rs n) (l * rs.length).toNat p s = p + l * Sf (fr rs n) s rs.length := by
  obtain ⟨t, rfl⟩ : ∃ t : Nat, l = t := ⟨l.toNat, by omega⟩
  have e : ((t : Int) * (rs.length : Int)).toNat = t * rs.length := by
    have : (t : Int) * (rs.length : Int) = ((t * rs.length : Nat) : Int) := by simp
    rw [this]; rfl
  rw [e]
  exact lf_leap _ _ _ _ (fr_per rs n) t fun i u hi hu => c i u hi ⟨by omega, fun x e => by have := ho x e; omega⟩
theorem stay_way {rs : List Int} (h : Rises rs) {n p s q : Int} (h0 : 0 ≤ p) (h1 : p < s) (hs : 64 < s) (hq : 0 ≤ q) (hn : (rowA rs n s).foldl stepN (bes p s) = bes p s) :
    lf (fr rs n) (q * rs.length).toNat p s = p + q * rs.length * (if bes p s < 0 then 1 else 0) := by
  obtain ⟨t, rfl⟩ : ∃ t : Nat, q = t := ⟨q.toNat, by omega⟩
  have e : ((t : Int) * (rs.length : Int)).toNat = t * rs.length := by
    have : (t : Int) * (rs.length : Int) = ((t * rs.length : Nat) : Int) := by simp
    rw [this]; rfl
  rw [e]
  have hn' : nowF (fr rs n) s (bes p s) rs.length = bes p s := by
    rw [← nowF_row (Nat.le_refl _), ← rowA_len rs n s, List.take_length]
    exact hn
  have k := lf_stay (fr rs n) rs.length s (bes p s) h.2.1 hs (fun i => h.fr n i) (fr_per rs n) (bes_bound h0 h1) hn' t
  rw [sgn_bes h0 h1] at k
  rw [k]
  have k2 := sgn_bes h0 h1
  unfold sgn at k2 ⊢
  split
  · rename_i c
    rw [if_pos c] at k2
    rw [Int.mul_one]
    omega
  · rename_i c
    rw [if_neg c] at k2
    rw [Int.mul_zero]
    omega
theorem step_way (f : Int → Int) (p s : Int) : lf f 1 p s = (p + f (s + 1)) % (s + 1) := rfl
/-- what is left of the way is the same -/
theorem lf_on {f : Int → Int} {n p s d p' s' : Int} (hd : 0 ≤ d) (hn : s + d ≤ n) (hp : lf f d.toNat p s = p') (hs : s' = s + d) : lf f (n - s).toNat p s = lf f (n - s').toNat p' s' := by
  subst hs
  have e : (n - s).toNat = d.toNat + (n - (s + d)).toNat := by omega
  rw [e, lf_add, hp]
  have e2 : s + (d.toNat : Int) = s + d := by omega
  rw [e2]

/-! ### a round, child after child -/
/-- the row of s children, on from the singer, when so many have gone -/
def rw_ (s : Nat) (g : Int → Int) : List Int := (List.range s).map fun i : Nat => g i
theorem rw_len (s : Nat) (g : Int → Int) : (rw_ s g).length = s := by simp [rw_]
theorem rw_get {s i : Nat} {g : Int → Int} (h : i < s) : (rw_ s g)[i]? = some (g i) := by simp [rw_, h]
theorem rw_ext {s : Nat} {g g' : Int → Int} (h : ∀ i : Nat, i < s → g i = g' i) : rw_ s g = rw_ s g' := by
  unfold rw_
  refine List.map_congr_left fun i hi => h i (by simpa using hi)
theorem eq_rw {s : Nat} {g : Int → Int} {l : List Int} (hl : l.length = s) (h : ∀ i : Nat, i < s → l[i]? = some (g i)) : l = rw_ s g := by
  refine List.ext_getElem? fun i => ?_
  by_cases hi : i < s
  · rw [h i hi, rw_get hi]
  · rw [List.getElem?_eq_none (by omega), List.getElem?_eq_none (by rw [rw_len]; omega)]
/-- on by one -/
theorem rot_on {s : Nat} (hs : 0 < s) (g : Int → Int) (d : Int) : (rw_ s fun i => g ((i + d) % s)).drop 1 ++ (rw_ s fun i => g ((i + d) % s)).take 1 = rw_ s fun i => g ((i + (d + 1)) % s) := by
  refine eq_rw (by simp [rw_len]; omega) fun i hi => ?_
  by_cases h : i + 1 < s
  · rw [List.getElem?_append_left (by simp [rw_len]; omega), List.getElem?_drop, rw_get (by omega)]
    congr 3
    omega
  · have e : i = s - 1 := by omega
    rw [List.getElem?_append_right (by simp [rw_len]; omega), List.getElem?_take_of_lt (by simp [rw_len]; omega)]
    have e2 : i - (List.drop 1 (rw_ s fun i => g ((i + d) % s))).length = 0 := by simp [rw_len]; omega
    rw [e2, rw_get hs]
    congr 2
    have e3 : (i : Int) + (d + 1) = (((0 : Nat) : Int) + d) + s := by omega
    rw [e3, Int.add_emod_right]
/-- back by one -/
theorem rot_back {s : Nat} (hs : 0 < s) (g : Int → Int) (d : Int) : (rw_ s fun i => g ((i + d) % s)).drop (s - 1) ++ (rw_ s fun i => g ((i + d) % s)).take (s - 1) = rw_ s fun i => g ((i + (d - 1)) % s) := by
  refine eq_rw (by simp [rw_len]) fun i hi => ?_
  by_cases h : 0 < i
  · rw [List.getElem?_append_right (by simp [rw_len]; omega), List.getElem?_take_of_lt (by simp [rw_len]; omega)]
    have e2 : i - (List.drop (s - 1) (rw_ s fun i => g ((i + d) % s))).length = i - 1 := by simp [rw_len]; omega
    rw [e2, rw_get (by omega)]
    congr 3
    omega
  · have e : i = 0 := by omega
    subst e
    rw [List.getElem?_append_left (by simp [rw_len]; omega), List.getElem?_drop, rw_get (by omega)]
    congr 2
    have e3 : ((s - 1 + 0 : Nat) : Int) + d = (((0 : Nat) : Int) + (d - 1)) + s := by omega
    rw [e3, Int.add_emod_right]
/-- the first one goes, counted on -/
theorem go_on {s : Nat} (g : Int → Int) (c : Int) : (rw_ (s + 1) fun i => g ((i + (c - 1)) % ((s + 1 : Nat) : Int))).drop 1 = rw_ s fun i => g ((i + c) % ((s + 1 : Nat) : Int)) := by
  refine eq_rw (by simp [rw_len]) fun i hi => ?_
  rw [List.getElem?_drop, rw_get (by omega)]
  congr 3
  omega
/-- the last one goes, counted back -/
theorem go_back {s : Nat} (g : Int → Int) (d : Int) : (rw_ (s + 1) fun i => g ((i + d) % ((s + 1 : Nat) : Int))).dropLast = rw_ s fun i => g ((i + d) % ((s + 1 : Nat) : Int)) := by
  refine eq_rw (by simp [rw_len]) fun i hi => ?_
  rw [List.getElem?_dropLast, if_pos (by rw [rw_len]; omega), rw_get (by omega)]
/-- the row when s are in -/
def row (rs : List Int) (n : Int) (s : Nat) : List Int := rw_ s fun i => lf (fr rs n) (n - s).toNat i s
theorem row_all (rs : List Int) (n : Nat) : row rs n n = (List.range n).map fun i : Nat => (i : Int) := by
  unfold row rw_
  refine List.map_congr_left fun i _ => ?_
  have e : ((n : Int) - (n : Int)).toNat = 0 := by omega
  rw [e]
  rfl
theorem row_start (rs : List Int) (n : Int) (s : Nat) : row rs n s = rw_ s fun i => (fun j => lf (fr rs n) (n - s).toNat j s) ((i + 0) % s) := by
  refine rw_ext fun i hi => ?_
  have e : ((i : Int) + 0) % (s : Int) = i := by rw [Int.add_zero]; exact Int.emod_eq_of_lt (by omega) (by omega)
  simp only [e]
theorem row_next (rs : List Int) (n : Int) (s : Nat) (h : (s : Int) + 1 ≤ n) : (rw_ s fun i => (fun j => lf (fr rs n) (n - (s + 1 : Nat)).toNat j (s + 1 : Nat)) ((i + fr rs n (s + 1 : Nat)) % ((s + 1 : Nat) : Int))) = row rs n s := by
  refine rw_ext fun i hi => ?_
  have e : (n - (s : Int)).toNat = (n - ((s + 1 : Nat) : Int)).toNat + 1 := by omega
  rw [e]
  simp only [lf]
  have e2 : (s : Int) + 1 = ((s + 1 : Nat) : Int) := by omega
  rw [e2]

/-! ### who is kept -/
/-- the children left of n, as they are counted on from the singer -/
def raw (rs : List Int) (left : Nat) (n : Int) : List Int := row rs n left
def srt (xs : List Int) : List Int := xs.mergeSort fun a b => decide (a ≤ b)
theorem srt_perm (xs : List Int) : (srt xs).Perm xs := List.mergeSort_perm _ _
theorem srt_sorted (xs : List Int) : (srt xs).Pairwise (· ≤ ·) := by
  have h := List.pairwise_mergeSort (le := fun a b : Int => decide (a ≤ b)) (fun a b c h1 h2 => by simp only [decide_eq_true_eq] at *; omega) (fun a b => by simp only [Bool.or_eq_true, decide_eq_true_eq]; omega) xs
  exact h.imp fun h => by simpa using h
theorem srt_one {xs ys : List Int} (h : ys.Perm xs) (s : ys.Pairwise (· ≤ ·)) : ys = srt xs :=
  List.Perm.eq_of_pairwise (le := fun a b : Int => a ≤ b) (fun a b _ _ h1 h2 => by omega) s (srt_sorted xs) (h.trans (srt_perm xs).symm)
theorem mem_srt {xs : List Int} {x : Int} : x ∈ srt xs ↔ x ∈ xs := (srt_perm xs).mem_iff
/-- the children kept at every number from lo to lo + k -/
def saf (rs : List Int) (left : Nat) (lo : Int) : Nat → List Int
  | 0 => srt (raw rs left lo)
  | k + 1 => (saf rs left lo k).filter fun c => decide (c ∈ raw rs left (lo + (k + 1 : Nat)))
theorem saf_first (rs : List Int) (left : Nat) (lo : Int) : (saf rs left lo 0).filter (fun c => decide (c ∈ raw rs left lo)) = saf rs left lo 0 := by
  refine List.filter_eq_self.mpr fun c hc => ?_
  have := mem_srt.mp hc
  simpa using this
theorem saf_last (rs : List Int) (left : Nat) (lo : Int) (k : Nat) : (saf rs left lo k).filter (fun c => decide (c ∈ raw rs left (lo + k))) = saf rs left lo k := by
  cases k with
  | zero => simpa using saf_first rs left lo
  | succ k =>
    refine List.filter_eq_self.mpr fun c hc => ?_
    have := (List.mem_filter.mp hc).2
    exact this
theorem saf_len (rs : List Int) (left : Nat) (lo : Int) : ∀ k, (saf rs left lo k).length ≤ left
  | 0 => by
    show (srt (raw rs left lo)).length ≤ left
    rw [(srt_perm _).length_eq]
    simp [raw, row, rw_len]
  | k + 1 => Nat.le_trans (List.length_filter_le _ _) (saf_len rs left lo k)
end K06

set_option Elab.async false
set_option linter.all false
set_option maxRecDepth 100000
set_option maxHeartbeats 2000000
/-! The defs of the text by places, the facts of the top, the package of a def's promise. -/
namespace K06
open PySem PySem.Spec PyProof.Rows L2

def top (i : Nat) : Stmt := PySem.Challenge.pw_outrhymes_k06_whole_safe_places.main.body.getD i (.Pass ⟨0, 0, 0, 0⟩)
abbrev sBetween : Stmt := top 13
abbrev sVerse : Stmt := top 14
abbrev sInit : Stmt := inClass (top 15) 0
abbrev sNeed : Stmt := top 16
abbrev sSums : Stmt := top 19
abbrev sTimes : Stmt := top 20
abbrev sLeast : Stmt := top 21
abbrev sClimbs : Stmt := top 22
abbrev sBeside : Stmt := top 23
abbrev sStay : Stmt := top 24
abbrev sAhead : Stmt := top 25
abbrev sLifted : Stmt := top 26
abbrev sKeptOf : Stmt := top 27
abbrev sKept : Stmt := top 28
abbrev sSafe : Stmt := top 31
abbrev sRandom : Stmt := top 33
abbrev sBelow : Stmt := top 34
abbrev sPick : Stmt := top 35
abbrev sEqual : Stmt := top 36
abbrev sDrawn : Stmt := top 37
abbrev sMade : Stmt := top 38
abbrev sRound : Stmt := top 39
abbrev sNumber : Stmt := top 40
abbrev sGreat : Stmt := top 41
abbrev sRefused : Stmt := top 42
abbrev sLaw : Stmt := top 43

/-- a def that stands behind the top -/
structure DefF (K : PySem.W.Frag) (mg : Str → Option Value) (x : Str) (st : Stmt) (ps : List Str) : Prop where
  ex : ∃ f fd, Fun K x x st f fd ∧ mg x = some (.ref f) ∧ Binds K fd ps []

/-- what the walk asks of the top -/
structure Txt (K : PySem.W.Frag) (mg : Str → Option Value) (C CB : Addr) : Prop where
  len : mg "len" = none
  range : mg "range" = none
  int : mg "int" = none
  bool : mg "bool" = none
  str : mg "str" = none
  tuple : mg "tuple" = none
  list : mg "list" = none
  dict : mg "dict" = none
  sorted : mg "sorted" = none
  min : mg "min" = none
  abs : mg "abs" = none
  all : mg "all" = none
  enumerate : mg "enumerate" = none
  isinstance : mg "isinstance" = none
  gON : ∃ t, mg "ON" = some (.str "on" t)
  gBACK : ∃ t, mg "BACK" = some (.str "back" t)
  gCount : ∃ t, mg "MOST_COUNT" = some (.int 6 t)
  gVerses : ∃ t, mg "MOST_VERSES" = some (.int 4 t)
  gLeft : ∃ t, mg "MOST_LEFT" = some (.int 3 t)
  gGreatest : ∃ t, mg "GREATEST" = some (.int (10 ^ 30) t)
  gFew : ∃ t, mg "FEW" = some (.int 64 t)
  gRange : ∃ t, mg "MOST_RANGE" = some (.int 200 t)
  cl : Cls K C
  nV : NoAttr K C "own_verses"
  nL : NoAttr K C "own_left"
  nR : NoAttr K C "rises"
  gC : mg "Rhyme" = some (.ref C)
  gB : mg "BadNumber" = some (.ref CB)
  xB : PySem.W.excIn K CB [.type "ValueError", .type "Exception", .type "BaseException", .type "object"] "ValueError.__new__" = true
  kB : PySem.W.keepIn K (.ref CB) = true
  bB : PySem.W.subIn K (.ref CB) (.type "BaseException") = some true
  tB : PySem.W.typeIn K (.ref CB) = some (.type "type")
  eB : PySem.W.exmOne K (.ref CB) (.ref CB) = some true

/-- a def's promise, for its callers -/
structure Cal (CX : CXT) (P : Program) (w : World) (K : PySem.W.Frag) (mg : Str → Option Value) (base : Heap) (k : Nat) (x : Str) (sp : Sp) (dvs : List V) : Prop where
  ex : ∃ (f : Addr) (fd : FuncData) (ps : List Str) (ds : List Value), FnOk P w K mg base CX k f fd ps sp ∧ mg x = some (.ref f) ∧ PySem.W.keepIn K (.ref f) = true ∧ Binds K fd ps ds ∧ Vals dvs ds
section
variable {X : Cx} {CX : CXT} {k j : Nat} {x : Str} {sp : Sp} {dvs : List V} {E : XK} {e : Expr} {es : List Expr} {t : TA} {p pos : Pos}
theorem pe_c (c : Cal CX X.prog X.w X.K X.mg X.base k x sp dvs) (hr : Room j X.A) (hk : k ≤ j) (hx : Passes CX X E) (hg : Gl X x) (ha : PA X (e :: es) t)
    (hdb : (x == ("__debug__" : Str)) = false := by decide) (he : starEach (e :: es) X.env = (false, eval e X.env) :: starEach es X.env := by rfl) (hpl : (backTo pos (starEach es X.env)).any (·.1) = false := by rfl) :
    PE X (.Call (.Name x p) (e :: es) [] pos) (tCall sp dvs E t) := by
  obtain ⟨f, fd, ps, ds, F, hm, kp, b, d⟩ := c.ex
  exact pe_call F (hr.mono hk) hg hm kp b d hx ha hdb he hpl
end
section
variable {P : Program} {w : World} {K : PySem.W.Frag} {mg : Str → Option Value} {base : Heap}
theorem cal0 {x : Str} {st : Stmt} {N ps : List Str} {k : Nat} {sp : Sp} (F : DefF K mg x st ps) (S : FnScope N ps (defScope st)) (len : ∀ vs H Q E, sp vs H Q E → vs.length = ps.length)
    (hbody : ∀ (f : Addr) (cdv : Value) (A : Around) (outer : List Env) (s : Shared) (H : Hp) (vs : List V) (Q : VK) (E : XK), Room k (A.deeper (envOfC x (defScope st) s.heap.objs.size f cdv)) → sp vs H Q E →
      ∃ t, PSs (cxOf CX0 P w K mg base N x (defScope st) f cdv A outer s H E).nox (defBody st) t ∧ t { nx := fun _ H' => Q .non H', rt := Q } (start N vs) H) : Cal CX0 P w K mg base (k + 1) x sp [] := by
  obtain ⟨f, fd, F, hm, b⟩ := F.ex
  exact ⟨f, fd, ps, [], F.ok S len (hbody f), hm, F.kp, b, .nil⟩
theorem calX {x : Str} {st : Stmt} {N ps : List Str} {k : Nat} {sp : Sp} (F : DefF K mg x st ps) (S : FnScope N ps (defScope st)) (len : ∀ vs H Q E, sp vs H Q E → vs.length = ps.length)
    (hbody : ∀ (f : Addr) (cdv : Value) (A : Around) (outer : List Env) (s : Shared) (H : Hp) (vs : List V) (Q : VK) (E : XK), Room k (A.deeper (envOfC x (defScope st) s.heap.objs.size f cdv)) → sp vs H Q E →
      ∃ t, PSs (cxOf (L2.CX P w) P w K mg base N x (defScope st) f cdv A outer s H E) (defBody st) t ∧ t { nx := fun _ H' => Q .non H', rt := Q } (start N vs) H) : Cal (L2.CX P w) P w K mg base (k + 1) x sp [] := by
  obtain ⟨f, fd, F, hm, b⟩ := F.ex
  exact ⟨f, fd, ps, [], F.okX S len (hbody f), hm, F.kp, b, .nil⟩
end

/-! ### plain values -/
/-- None, a bool, an int, a text -/
def PV : V → Prop
  | .non | .bl _ | .int _ | .str _ => True
  | _ => False
def isIntV : V → Bool
  | .bl _ | .int _ => true
  | _ => false
def isBoolV : V → Bool
  | .bl _ => true
  | _ => false
theorem isi_int {K : PySem.W.Frag} {x : V} {H : Hp} {Q : VK} (p : PV x) (q : Q (.bl (isIntV x)) H) : rIsi K [x, .ty "int"] H Q := by
  cases x with
  | non => exact ⟨_, _, _, _, false, rfl, .ty _, .base .non, kit_ty (by decide +kernel), q⟩
  | bl b => exact ⟨_, _, _, _, true, rfl, .ty _, .base (.bl b), kit_ty (by decide +kernel), q⟩
  | int i => exact ⟨_, _, _, _, true, rfl, .ty _, .base (.int i), kit_ty (by decide +kernel), q⟩
  | str z => exact ⟨_, _, _, _, false, rfl, .ty _, .base (.str z), kit_ty (by decide +kernel), q⟩
  | byt _ => exact p.elim
  | flt _ => exact p.elim
  | ref _ => exact p.elim
  | ty _ => exact p.elim
theorem isi_bool {K : PySem.W.Frag} {x : V} {H : Hp} {Q : VK} (p : PV x) (q : Q (.bl (isBoolV x)) H) : rIsi K [x, .ty "bool"] H Q := by
  cases x with
  | non => exact ⟨_, _, _, _, false, rfl, .ty _, .base .non, kit_ty (by decide +kernel), q⟩
  | bl b => exact ⟨_, _, _, _, true, rfl, .ty _, .base (.bl b), kit_ty (by decide +kernel), q⟩
  | int i => exact ⟨_, _, _, _, false, rfl, .ty _, .base (.int i), kit_ty (by decide +kernel), q⟩
  | str z => exact ⟨_, _, _, _, false, rfl, .ty _, .base (.str z), kit_ty (by decide +kernel), q⟩
  | byt _ => exact p.elim
  | flt _ => exact p.elim
  | ref _ => exact p.elim
  | ty _ => exact p.elim
/-- what is_between tells -/
def betw : V → Int → Int → Bool
  | .int i, lo, hi => decide (lo ≤ i ∧ i ≤ hi)
  | _, _, _ => false
/-- an int, or None -/
def vO : Option Int → V
  | none => .non
  | some i => .int i
section
variable {X : Cx} {a b : Expr} {es : List Expr} {t : TA} {p pos : Pos}
/-- isinstance(x, T) of a plain value -/
def rIsP (n : String) (f : V → Bool) : List V → Hp → VK → Prop := fun xs H Q => ∃ x, xs = [x, .ty n] ∧ PV x ∧ Q (.bl (f x)) H
theorem call_isInt : CallR X (.builtin "isinstance") (rIsP "int" isIntV) := by
  intro pins s σ H xs us Q I r h
  obtain ⟨x, rfl, p, q⟩ := h
  exact call_isi pins s σ H _ us Q I r (isi_int p q)
theorem call_isBool : CallR X (.builtin "isinstance") (rIsP "bool" isBoolV) := by
  intro pins s σ H xs us Q I r h
  obtain ⟨x, rfl, p, q⟩ := h
  exact call_isi pins s σ H _ us Q I r (isi_bool p q)
/-- a built-in class as an argument -/
theorem pe_ty {x : Str} {n : String} (hg : Gl X x) (hm : X.mg x = none) (hv : bootBuiltins x = some (.type n)) (hn : x ≠ "__name__" := by decide) (hd : (x == ("__debug__" : Str)) = false := by decide) : PE X (.Name x p) (tC (.ty n)) :=
  pe_bltn (v := .ty n) hg hm hv rfl hn hd
end

section
variable {P : Program} {w : World} {K : PySem.W.Frag} {mg : Str → Option Value} {base : Heap} {C CB : Addr}
/-! ### is_between -/
def spBetween : Sp := fun vs H Q _ => ∃ (x : V) (lo hi : Int), vs = [x, .int lo, .int hi] ∧ PV x ∧ Q (.bl (betw x lo hi)) H
theorem scBetween : FnScope ["value", "least", "most"] ["value", "least", "most"] (defScope sBetween) := ⟨rfl, rfl, rfl, by decide +kernel, rfl, by decide +kernel, by decide +kernel⟩
theorem ok_between (F : DefF K mg "is_between" sBetween ["value", "least", "most"]) (T : Txt K mg C CB) : Cal CX0 P w K mg base 1 "is_between" spBetween [] := by
  refine cal0 F scBetween (fun vs H Q E h => ?_) (fun f cdv A outer s H vs Q E hr h => ?_)
  · obtain ⟨x, lo, hi, rfl, _⟩ := h
    rfl
  · obtain ⟨x, lo, hi, rfl, pv_, k⟩ := h
    refine ⟨_, pss_one (ps_ret (pe_and (pe_callB call_isInt rfl T.isinstance boot_isinstance (pa_cons (pv 0) (pa_cons (pe_ty rfl T.int boot_int) pa_nil)))
      (pe_and (pe_not (pe_callB call_isBool rfl T.isinstance boot_isinstance (pa_cons (pv 0) (pa_cons (pe_ty rfl T.bool boot_bool) pa_nil))))
      (pe_one (pe_chain op_le op_le (pv 1) (pv 0) (pv 2)))))), ?_⟩
    refine ⟨_, rfl, _, rfl, pv_, _, rfl, ?_⟩
    cases x with
    | int i =>
      refine iteT ⟨_, rfl, _, rfl, trivial, _, rfl, _, rfl, ?_⟩
      refine iteT ⟨_, rfl, _, rfl, _, _, rfl, rfl, _, rfl, ?_⟩
      refine ite2 (fun h1 => ⟨_, rfl, _, _, rfl, rfl, ?_⟩) (fun h1 => ?_)
      · have e : decide (i ≤ hi) = betw (.int i) lo hi := by
          have := of_decide_eq_true h1
          unfold betw
          by_cases c : i ≤ hi <;> simp [c, this]
        show Q (V.bl (decide (i ≤ hi))) H
        rw [e]; exact k
      · have e : false = betw (.int i) lo hi := by
          have h2 : ¬ lo ≤ i := fun z => h1 (decide_eq_true z)
          unfold betw; simp [h2]
        show Q (V.bl false) H
        rw [e]; exact k
    | non => exact iteF k
    | str z => exact iteF k
    | bl z =>
      refine iteT ⟨_, rfl, _, rfl, trivial, _, rfl, _, rfl, ?_⟩
      exact iteF k
    | byt _ => exact pv_.elim
    | flt _ => exact pv_.elim
    | ref _ => exact pv_.elim
    | ty _ => exact pv_.elim
/-! ### times_above -/
def spTimes : Sp := fun vs H Q _ => ∃ room more : Int, vs = [.int room, .int more] ∧ more.natAbs < 1000 ∧ Q (vO (ta room more)) H
theorem scTimes : FnScope ["room", "more"] ["room", "more"] (defScope sTimes) := ⟨rfl, rfl, rfl, by decide +kernel, rfl, by decide +kernel, by decide +kernel⟩
theorem ok_times (F : DefF K mg "times_above" sTimes ["room", "more"]) : Cal CX0 P w K mg base 1 "times_above" spTimes [] := by
  refine cal0 F scTimes (fun vs H Q E h => ?_) (fun f cdv A outer s H vs Q E hr h => ?_)
  · obtain ⟨x, lo, rfl, _⟩ := h
    rfl
  · obtain ⟨room, more, rfl, hm, k⟩ := h
    refine ⟨_, pss_cons (ps_if (pt_cmpR op_lt (pv 0) pe_int (nomark _)) (pss_one (ps_ret pe_int)) pss_nil)
      (pss_one (ps_ret (pe_ifExp (pt_cmpR op_ge (pv 1) pe_int (nomark _)) pe_non (pe_op op_add (pe_op op_fdivN (pv 0) (pe_un un_neg (pv 1))) pe_int)))), ?_⟩
    refine ⟨_, rfl, _, _, rfl, rfl, _, rfl, ite2 (fun h1 => ?_) fun h1 => ?_⟩
    · have h1 := of_decide_eq_true h1
      unfold ta at k
      rw [if_pos h1] at k
      exact k
    · have h1 : ¬ room < 0 := fun z => h1 (decide_eq_true z)
      unfold ta at k
      rw [if_neg h1] at k
      refine ⟨_, rfl, _, _, rfl, rfl, _, rfl, ite2 (fun h2 => ?_) fun h2 => ?_⟩
      · rw [if_pos (of_decide_eq_true h2)] at k
        exact k
      · have h2 : ¬ (0 ≤ more) := fun z => h2 (decide_eq_true z)
        rw [if_neg h2] at k
        refine ⟨_, rfl, _, rfl, _, rfl, _, _, rfl, rfl, ⟨by omega, by omega⟩, _, _, rfl, rfl, ?_⟩
        rw [Int.fdiv_eq_ediv_of_nonneg _ (by omega)]
        exact k
/-! ### beside -/
def spBeside : Sp := fun vs H Q _ => ∃ place size : Int, vs = [.int place, .int size] ∧ Q (.int (bes place size)) H
theorem scBeside : FnScope ["place", "size"] ["place", "size"] (defScope sBeside) := ⟨rfl, rfl, rfl, by decide +kernel, rfl, by decide +kernel, by decide +kernel⟩
theorem ok_beside (F : DefF K mg "beside" sBeside ["place", "size"]) : Cal CX0 P w K mg base 1 "beside" spBeside [] := by
  refine cal0 F scBeside (fun vs H Q E h => ?_) (fun f cdv A outer s H vs Q E hr h => ?_)
  · obtain ⟨x, lo, rfl, _⟩ := h
    rfl
  · obtain ⟨place, size, rfl, k⟩ := h
    refine ⟨_, pss_one (ps_ret (pe_ifExp (pt_cmpR op_lt (pv 0) (pe_op op_sub (pv 1) (pv 0)) (nomark _)) (pv 0) (pe_op op_sub (pv 0) (pv 1)))), ?_⟩
    refine ⟨_, rfl, _, rfl, _, rfl, _, _, rfl, rfl, _, _, rfl, rfl, _, rfl, ite2 (fun h1 => ⟨_, rfl, ?_⟩) fun h1 => ⟨_, rfl, _, rfl, _, _, rfl, rfl, ?_⟩⟩
    · unfold bes at k
      rw [if_pos (of_decide_eq_true h1)] at k
      exact k
    · unfold bes at k
      rw [if_neg fun z => h1 (decide_eq_true z)] at k
      exact k
end
end K06

set_option Elab.async false
set_option linter.all false
set_option maxRecDepth 100000
set_option maxHeartbeats 2000000
/-! sums_of, does_stay, least_of, climbs. -/
namespace K06
open PySem PySem.Spec PyProof.Rows L2

theorem same_new {H : Hp} {p : Addr} {o : HO} (hn : H p = none) : Same H (upd H p o) := fun b u e => by
  rw [upd_ne (ne_of_none e hn)]; exact e
theorem same_put {H H' : Hp} {p : Addr} {o : HO} (s : Same H H') (hn : H p = none) : Same H (upd H' p o) := fun b u e => by
  rw [upd_ne (ne_of_none e hn)]; exact s b u e
theorem item_of {ns : List Int} {i : Nat} {y : V} (hi : (ns.map V.int)[i]? = some y) : ∃ z, ns[i]? = some z ∧ y = V.int z := by
  rw [List.getElem?_map] at hi
  cases e : ns[i]? with
  | none => rw [e] at hi; cases hi
  | some z => rw [e] at hi; exact ⟨z, rfl, (Option.some.inj hi).symm⟩
theorem line1000 : 1000 ≤ sizeLine := Nat.le_of_lt (small1000 (Nat.le_refl _))

section
variable {P : Program} {w : World} {K : PySem.W.Frag} {mg : Str → Option Value} {base : Heap} {C CB : Addr}
/-! ### sums_of -/
def spSums (K : PySem.W.Frag) : Sp := fun vs H Q _ => ∃ (a : Addr) (xs : List Int), vs = [.ref a] ∧ SqL K H a (xs.map V.int) ∧ xs.length ≤ 900 ∧
  ∀ H' p, Same H H' → H p = none → H' p = some (.lst ((psum xs).map V.int)) → Q (.ref p) H'
theorem scSums : FnScope ["row", "found", "total", "number"] ["row"] (defScope sSums) := ⟨rfl, rfl, rfl, by decide +kernel, rfl, by decide +kernel, by decide +kernel⟩
theorem ok_sums (F : DefF K mg "sums_of" sSums ["row"]) : Cal CX0 P w K mg base 1 "sums_of" (spSums K) [] := by
  refine cal0 F scSums (fun vs H Q E h => ?_) (fun f cdv A outer s H vs Q E hr h => ?_)
  · obtain ⟨a, xs, rfl, _⟩ := h
    rfl
  · obtain ⟨a, xs, rfl, hS, hl, k⟩ := h
    refine ⟨_, pss_cons (ps_set (i := 1) scSums.nd rfl (.inl rfl) (pe_lst pa_nil))
      (pss_cons (ps_set (i := 2) scSums.nd rfl (.inl rfl) pe_int)
      (pss_cons (ps_for PassesOwn.never rfl (pi_list (pv 0)) (pg_name (i := 3) scSums.nd rfl (.inl rfl))
        (pss_cons (ps_aug (i := 2) scSums.nd rfl (.inl rfl) (pv 3) ip_add)
        (pss_one (ps_expr (pe_bm PySem.F.plainAttrs_list PySem.F.slot_list_append PySem.F.type_list_append mt_append (pv 1) (pa_cons (pv 2) pa_nil))))))
      (pss_one (ps_ret (pv 1))))), ?_⟩
    refine ⟨by decide, fun p np => ?_⟩
    refine ⟨_, rfl, a, rfl, ⟨_, (same_new np).seq hS⟩, for_list (K := K) (a := a) (xs := xs.map V.int)
      (fun i σ H' => ∃ v : Option V, σ = [some (.ref a), some (.ref p), some (.int (xs.take i).sum), v] ∧ Same H H' ∧ H' p = some (.lst (((psum xs).take i).map V.int)))
      ⟨none, rfl, same_new np, upd_same⟩ (fun i σ H' _ ⟨_, _, s, _⟩ => s.seq hS) ?_ ?_⟩
    · rintro i y σ H' hi ⟨v, rfl, s, hp⟩
      obtain ⟨z, hz, rfl⟩ := item_of hi
      have hlt : i < xs.length := (List.getElem?_eq_some_iff.mp hz).1
      refine ⟨_, rfl, _, rfl, _, _, rfl, rfl, ?_⟩
      refine ⟨_, rfl, .inl ⟨rfl, _, SqL.of hp⟩, _, rfl, p, _, _, rfl, rfl, hp, ?_, ?_⟩
      · have : (((psum xs).take i).map V.int).length ≤ 900 := by rw [List.length_map, List.length_take, psum_len]; omega
        exact small1000 (by omega)
      · refine ⟨some (.int z), ?_, same_put s np, ?_⟩
        · rw [sum_take_succ hz]
          rfl
        · rw [take_snoc (psum_get hlt), List.map_append, sum_take_succ hz]
          exact upd_same
    · rintro σ H' ⟨v, rfl, s, hp⟩
      rw [List.length_map] at hp
      refine ⟨_, rfl, k H' p s np ?_⟩
      rw [hp, ← psum_len xs, List.take_length]

/-! ### does_stay -/
def spStay (K : PySem.W.Frag) : Sp := fun vs H Q _ => ∃ (a : Addr) (xs : List Int) (here : Int), vs = [.ref a, .int here] ∧ SqL K H a (xs.map V.int) ∧
  Q (.bl (decide (xs.foldl stepN here = here))) H
theorem scStay : FnScope ["row", "here", "now", "rise"] ["row", "here"] (defScope sStay) := ⟨rfl, rfl, rfl, by decide +kernel, rfl, by decide +kernel, by decide +kernel⟩
theorem ok_stay (F : DefF K mg "does_stay" sStay ["row", "here"]) (T : Txt K mg C CB) : Cal CX0 P w K mg base 1 "does_stay" (spStay K) [] := by
  refine cal0 F scStay (fun vs H Q E h => ?_) (fun f cdv A outer s H vs Q E hr h => ?_)
  · obtain ⟨a, xs, here, rfl, _⟩ := h
    rfl
  · obtain ⟨a, xs, here, rfl, hS, k⟩ := h
    refine ⟨_, pss_cons (ps_set (i := 2) scStay.nd rfl (.inl rfl) (pv 1))
      (pss_cons (ps_for PassesOwn.never rfl (pi_list (pv 0)) (pg_name (i := 3) scStay.nd rfl (.inl rfl))
        (pss_one (ps_aug (i := 2) scStay.nd rfl (.inl rfl) (pe_op op_sub (pv 3) (pe_callTy call_int1 (by rfl) T.int boot_int (pa_cons (pe_cmpR op_lt (pv 2) pe_int (nomark _)) pa_nil))) ip_add)))
      (pss_one (ps_ret (pe_cmpR op_eq (pv 2) (pv 1) (nomark _))))), ?_⟩
    refine ⟨_, rfl, _, rfl, a, rfl, ⟨_, hS⟩, for_list (K := K) (a := a) (xs := xs.map V.int)
      (fun i σ H' => H' = H ∧ ∃ v : Option V, σ = [some (.ref a), some (.int here), some (.int ((xs.take i).foldl stepN here)), v])
      ⟨rfl, none, rfl⟩ (fun i σ H' _ ⟨e, _⟩ => by rw [e]; exact hS) ?_ ?_⟩
    · rintro i y σ H' hi ⟨rfl, v, rfl⟩
      obtain ⟨z, hz, rfl⟩ := item_of hi
      refine ⟨_, rfl, _, rfl, _, rfl, _, _, rfl, rfl, .inr ⟨_, rfl, _, _, rfl, rfl, _, _, rfl, rfl, rfl, some (.int z), ?_⟩⟩
      rw [take_snoc hz, List.foldl_append]
      simp only [List.foldl_cons, List.foldl_nil, stepN]
      by_cases c : (xs.take i).foldl stepN here < 0 <;> simp [c] <;> rfl
    · rintro σ H' ⟨rfl, v, rfl⟩
      refine ⟨_, rfl, _, rfl, rfl, ?_⟩
      rw [List.length_map, List.take_length]
      have e : decide (V.int (xs.foldl stepN here) = V.int here) = decide (xs.foldl stepN here = here) := by
        by_cases c : xs.foldl stepN here = here
        · rw [decide_eq_true c, decide_eq_true (congrArg V.int c)]
        · rw [decide_eq_false c, decide_eq_false fun z => c (V.int.inj z)]
      show Q (.bl (decide (V.int (xs.foldl stepN here) = V.int here))) H'
      rw [e]
      exact k

/-! ### least_of -/
def somes (os : List (Option Int)) : List Int := os.filterMap id
theorem somes_len (os : List (Option Int)) : (somes os).length ≤ os.length := List.length_filterMap_le _ _
theorem mem_somes {os : List (Option Int)} {x : Int} : x ∈ somes os ↔ some x ∈ os := by
  unfold somes
  rw [List.mem_filterMap]
  constructor
  · rintro ⟨a, h, e⟩
    have : a = some x := e
    rw [← this]; exact h
  · exact fun h => ⟨_, h, rfl⟩
theorem dp_ints {K : PySem.W.Frag} {H : Hp} : ∀ ns : List Int, DpAll K H (ns.map V.int) (ns.map PyData.int)
  | [] => .nil
  | n :: r => .cons (.int n) (dp_ints r)
def spLeast (K : PySem.W.Frag) : Sp := fun vs H Q _ => ∃ (a : Addr) (os : List (Option Int)), vs = [.ref a] ∧ SqL K H a (os.map vO) ∧ os.length ≤ 900 ∧
  ∀ o H', Least o os → Same H H' → Q (vO o) H'
theorem scLeast : FnScope ["some", "found", "number"] ["some"] (defScope sLeast) := ⟨rfl, rfl, rfl, by decide +kernel, rfl, by decide +kernel, by decide +kernel⟩
theorem itemO_of {os : List (Option Int)} {i : Nat} {y : V} (hi : (os.map vO)[i]? = some y) : ∃ o, os[i]? = some o ∧ y = vO o := by
  rw [List.getElem?_map] at hi
  cases e : os[i]? with
  | none => rw [e] at hi; cases hi
  | some z => rw [e] at hi; exact ⟨z, rfl, (Option.some.inj hi).symm⟩
theorem somes_snoc {os : List (Option Int)} {i : Nat} {o : Option Int} (h : os[i]? = some o) : somes (os.take (i + 1)) = somes (os.take i) ++ o.toList := by
  unfold somes
  rw [take_snoc h, List.filterMap_append]
  cases o <;> rfl
theorem ok_least (F : DefF K mg "least_of" sLeast ["some"]) (T : Txt K mg C CB) : Cal CX0 P w K mg base 1 "least_of" (spLeast K) [] := by
  refine cal0 F scLeast (fun vs H Q E h => ?_) (fun f cdv A outer s H vs Q E hr h => ?_)
  · obtain ⟨a, xs, rfl, _⟩ := h
    rfl
  · obtain ⟨a, os, rfl, hS, hl, k⟩ := h
    refine ⟨_, pss_cons (ps_setLc (i := 1) (own := [("number", 2)]) (g := gName 2) rfl scLeast.nd rfl rfl (sw_true rfl rfl rfl (by decide +kernel)) (pi_list (pv 0))
        (blkOk_by (own := [("number", 2)]) (N := ["some", "found", "number"]) (sc := defScope sLeast) (by decide +kernel)) (fun _ _ _ _ _ => pg_name (i := 2) scLeast.nd rfl (Or.inl rfl))
        (fun _ _ _ _ _ => pts_one (pt_cmpR op_notN (pv 2) pe_non (nomark _))) (fun _ _ _ _ _ => pv 2))
      (pss_one (ps_ret (pe_ifExp (pt_cmpR (op_neD hr.units) (pv 1) (pe_lst pa_nil) (nomark _)) (pe_callB (cr_min rfl) (by rfl) T.min boot_min (pa_cons (pv 1) pa_nil)) pe_non))), ?_⟩
    refine ⟨_, rfl, a, rfl, ⟨_, hS⟩, fun D nD => lc_list (K := K) (a := a) (xs := os.map vO)
      (fun i H' => Same H H' ∧ H' D = some (.lst ((somes (os.take i)).map V.int)))
      ⟨same_new nD, upd_same⟩ (fun i H' _ ⟨s, _⟩ => s.seq hS) ?_ ?_⟩
    · rintro i y H' hi ⟨s, hD⟩
      obtain ⟨o, ho, rfl⟩ := itemO_of hi
      refine ⟨rfl, _, rfl, rfl, _, rfl, ?_⟩
      have hn := somes_snoc ho
      cases o with
      | none =>
        refine iteF ⟨s, ?_⟩
        rw [hn]
        simpa using hD
      | some z =>
        refine iteT ⟨_, rfl, _, hD, ?_, same_put s nD, ?_⟩
        · have h1 := somes_len (os.take i)
          have h2 : (os.take i).length ≤ os.length := by rw [List.length_take]; omega
          exact small1000 (by rw [List.length_map]; omega)
        · rw [hn, List.map_append]
          exact upd_same
    · rintro H' ⟨s, hD⟩
      rw [List.length_map, List.take_length] at hD
      refine ⟨_, rfl, ?_⟩
      refine ⟨by decide, fun p np => ?_⟩
      have hD' : (upd H' p (.lst [])) D = some (.lst ((somes os).map V.int)) := by rw [upd_ne (ne_of_none hD np)]; exact hD
      have s' : Same H (upd H' p (.lst [])) := s.trans (same_new np)
      refine ⟨.list ((somes os).map PyData.int), .list [], .lst (SqL.of hD') ?_, .lst (SqL.of upd_same) .nil, ?_, rfl, _, rfl, ?_⟩
      · exact dp_ints _
      · exact PySem.W.ke_shaped_ints _
      · cases e : somes os with
        | nil =>
          have e1 : PyData.eqv (.list ((([] : List Int)).map PyData.int)) (.list []) = true := rfl
          rw [e1]
          refine iteF ?_
          refine k none _ (.inl ⟨rfl, fun x hx => ?_⟩) s'
          cases x with
          | none => rfl
          | some z =>
            have := mem_somes.mpr hx
            rw [e] at this
            cases this
        | cons z r =>
          have e1 : PyData.eqv (.list ((z :: r).map PyData.int)) (.list []) = false := rfl
          rw [e1]
          refine iteT ?_
          refine ⟨_, rfl, D, somes os, rfl, SqL.of hD', ?_, fun m hm hle => ?_⟩
          · rw [e]; exact Nat.succ_pos _
          · exact k (some m) _ (.inr ⟨m, rfl, mem_somes.mp hm, fun y hy => hle y (mem_somes.mpr hy)⟩) s'

/-! ### climbs -/
def spClimbs (K : PySem.W.Frag) : Sp := fun vs H Q _ => ∃ (a : Addr) (p s n : Int) (rs : List Int), vs = [.int p, .int s, .ref a] ∧ SqL K H a ((psum (rowA rs n s)).map V.int) ∧ Rises rs ∧
  ∀ o H', Climb rs n p s o → Same H H' → Q (vO o) H'
theorem scClimbs : FnScope ["place", "size", "sums", "many", "rise", "found", "at", "total"] ["place", "size", "sums"] (defScope sClimbs) := ⟨rfl, rfl, rfl, by decide +kernel, rfl, by decide +kernel, by decide +kernel⟩
theorem Sf_bound (f : Int → Int) (s : Int) (hf : ∀ i, -5 ≤ f i ∧ f i ≤ 6) : ∀ j : Nat, - (6 * j) ≤ Sf f s j ∧ Sf f s j ≤ 6 * j
  | 0 => by simp [Sf]
  | j + 1 => by
    have h1 := Sf_bound f s hf j
    have h2 := hf (s + 1 + j)
    simp only [Sf]
    omega
theorem psumA_get {rs : List Int} {n s : Int} {j : Nat} (h : j < rs.length) : (psum (rowA rs n s))[j]? = some (Sf (fr rs n) s (j + 1)) := by
  rw [psum_get (by rw [rowA_len]; exact h), rowA_sum (by omega)]
theorem psumA_last {rs : List Int} {n s : Int} (h : Rises rs) : atI ((psum (rowA rs n s)).map V.int) (-1) = some (.int (Sf (fr rs n) s rs.length)) := by
  have hl : ((psum (rowA rs n s)).map V.int).length = rs.length := by rw [List.length_map, psum_len, rowA_len]
  have h1 := h.1
  have e : ixN ((psum (rowA rs n s)).map V.int).length (-1) = some (rs.length - 1) := by
    unfold ixN
    rw [hl, if_neg (by decide), if_pos (by omega)]
    congr 1
    omega
  unfold atI
  rw [e]
  show ((psum (rowA rs n s)).map V.int)[rs.length - 1]? = _
  rw [List.getElem?_map, psumA_get (by omega)]
  have e2 : rs.length - 1 + 1 = rs.length := by omega
  rw [e2]
  rfl
/-- the rooms that climbs looks at, two a verse -/
def rooms (rs : List Int) (n p s : Int) : Nat → List (Option Int)
  | 0 => []
  | j + 1 => rooms rs n p s j ++ [ta (p + Sf (fr rs n) s (j + 1)) (Sf (fr rs n) s rs.length), ta (s + j - p - Sf (fr rs n) s (j + 1)) (rs.length - Sf (fr rs n) s rs.length)]
theorem rooms_len (rs : List Int) (n p s : Int) : ∀ j, (rooms rs n p s j).length = 2 * j
  | 0 => rfl
  | j + 1 => by simp only [rooms, List.length_append, rooms_len rs n p s j, List.length_cons, List.length_nil]; omega
theorem rooms_mem (rs : List Int) (n p s : Int) {j : Nat} : ∀ {m : Nat}, j < m → ta (p + Sf (fr rs n) s (j + 1)) (Sf (fr rs n) s rs.length) ∈ rooms rs n p s m ∧ ta (s + j - p - Sf (fr rs n) s (j + 1)) (rs.length - Sf (fr rs n) s rs.length) ∈ rooms rs n p s m
  | 0, h => by omega
  | m + 1, h => by
    simp only [rooms, List.mem_append]
    by_cases e : j = m
    · subst e
      exact ⟨.inr (by simp), .inr (by simp)⟩
    · have := rooms_mem rs n p s (j := j) (m := m) (by omega)
      exact ⟨.inl this.1, .inl this.2⟩
theorem climb_of {rs : List Int} {n p s : Int} {o : Option Int} (h : Least o (rooms rs n p s rs.length)) : Climb rs n p s o := fun j t hj u => by
  obtain ⟨h1, h2⟩ := rooms_mem rs n p s hj
  have a := ta_ok (h.und h1 u)
  have b := ta_ok (h.und h2 u)
  have e : t * ((rs.length : Int) - Sf (fr rs n) s rs.length) = t * rs.length - t * Sf (fr rs n) s rs.length := Int.mul_sub ..
  rw [e] at b
  omega
theorem ok_climbs (F : DefF K mg "climbs" sClimbs ["place", "size", "sums"]) (T : Txt K mg C CB) (cT : Cal CX0 P w K mg base 1 "times_above" spTimes []) (cL : Cal CX0 P w K mg base 1 "least_of" (spLeast K) []) :
    Cal CX0 P w K mg base 2 "climbs" (spClimbs K) [] := by
  refine cal0 F scClimbs (fun vs H Q E h => ?_) (fun f cdv A outer s H vs Q E hr h => ?_)
  · obtain ⟨a, p, s, n, rs, rfl, _⟩ := h
    rfl
  · obtain ⟨a, p, z, n, rs, rfl, hS, hR, k⟩ := h
    refine ⟨_, pss_cons (ps_par (i := 3) (j := 4) rfl scClimbs.nd rfl rfl (by decide) rfl rfl
        (pa_cons (pe_callB call_len_seq (by rfl) T.len boot_len (pa_cons (pv 2) pa_nil)) (pa_cons (pe_ix ix_list (pv 2) (pe_un un_neg pe_int) (fun _ _ => rfl)) pa_nil)) (by rfl))
      (pss_cons (ps_set (i := 5) scClimbs.nd rfl (.inl rfl) (pe_lst pa_nil))
      (pss_cons (ps_for PassesOwn.never rfl (pi_enum (by rfl) T.enumerate (pa_cons (pv 2) pa_nil))
          (pg_tup rfl (pgs_cons (pg_name (i := 6) scClimbs.nd rfl (.inl rfl)) (pgs_cons (pg_name (i := 7) scClimbs.nd rfl (.inl rfl)) pgs_nil)))
        (pss_cons (ps_expr (pe_bm PySem.F.plainAttrs_list PySem.F.slot_list_append PySem.F.type_list_append mt_append (pv 5)
            (pa_cons (pe_c cT hr (Nat.le_refl _) pass0 (by rfl) (pa_cons (pe_op op_add (pv 0) (pv 7)) (pa_cons (pv 4) pa_nil))) pa_nil)))
        (pss_one (ps_expr (pe_bm PySem.F.plainAttrs_list PySem.F.slot_list_append PySem.F.type_list_append mt_append (pv 5)
            (pa_cons (pe_c cT hr (Nat.le_refl _) pass0 (by rfl) (pa_cons (pe_op op_sub (pe_op op_sub (pe_op op_add (pv 1) (pv 6)) (pv 0)) (pv 7)) (pa_cons (pe_op op_sub (pv 3) (pv 4)) pa_nil))) pa_nil))))))
      (pss_one (ps_ret (pe_c cL hr (Nat.le_refl _) pass0 (by rfl) (pa_cons (pv 5) pa_nil)))))), ?_⟩
    have hm := hR.1
    have hm4 := hR.2.1
    have bnd := Sf_bound (fr rs n) z (fun i => hR.fr n i) rs.length
    have hl : ((psum (rowA rs n z)).map V.int).length = rs.length := by rw [List.length_map, psum_len, rowA_len]
    refine ⟨_, rfl, _, _, rfl, .inl hS, ?_⟩
    refine ⟨_, rfl, _, rfl, a, _, _, _, rfl, rfl, hS, psumA_last hR, _, _, rfl, ?_⟩
    rw [hl]
    refine ⟨by decide, fun d nd => ?_⟩
    refine ⟨_, rfl, a, _, rfl, (same_new nd).seq hS, for_it (walk_enum (K := K) (a := a) (xs := (psum (rowA rs n z)).map V.int))
      (fun i σ H' => ∃ u v : Option V, σ = [some (.int p), some (.int z), some (.ref a), some (.int rs.length), some (.int (Sf (fr rs n) z rs.length)), some (.ref d), u, v] ∧ Same H H' ∧ H' d = some (.lst ((rooms rs n p z i).map vO)))
      ⟨none, none, rfl, same_new nd, upd_same⟩ (fun i σ H' _ ⟨_, _, _, s, _⟩ => s.seq hS) ?_ ?_⟩
    · rintro i y σ H' H'' hi ⟨u, v, rfl, s, hd⟩ ⟨t, x1, x2, rfl, nt, rfl, e1, e2⟩
      cases e1
      obtain ⟨q, hq, rfl⟩ := item_of e2
      rw [hl] at hi
      rw [psumA_get hi] at hq
      cases hq
      have td : d ≠ t := ne_of_none hd nt
      have hd' : upd H' t (.tup [.int (i : Nat), .int (Sf (fr rs n) z (i + 1))]) d = some (.lst ((rooms rs n p z i).map vO)) := by rw [upd_ne td]; exact hd
      have s' : Same H (upd H' t (.tup [.int (i : Nat), .int (Sf (fr rs n) z (i + 1))])) := s.trans (same_new nt)
      have len1 : ((rooms rs n p z i).map vO).length < sizeLine := by rw [List.length_map, rooms_len]; exact small1000 (by omega)
      refine ⟨t, _, rfl, SqT.of upd_same, rfl, _, _, rfl, _, _, rfl, rfl, ?_⟩
      refine ⟨_, rfl, .inl ⟨rfl, _, SqL.of hd'⟩, _, rfl, _, rfl, _, _, rfl, rfl, _, rfl, _, _, rfl, ?_, ?_⟩
      · omega
      refine ⟨d, _, _, rfl, rfl, hd', len1, ?_⟩
      refine ⟨_, rfl, .inl ⟨rfl, _, SqL.of upd_same⟩, _, rfl, _, rfl, _, _, rfl, rfl, _, rfl, _, _, rfl, rfl, _, rfl, _, _, rfl, rfl, _, rfl, _, rfl, _, _, rfl, rfl, _, _, rfl, ?_, ?_⟩
      · omega
      refine ⟨d, _, _, rfl, rfl, upd_same, ?_, ?_⟩
      · rw [List.length_append, List.length_map, rooms_len]
        exact small1000 (by show 2 * i + 1 ≤ 1000; omega)
      · refine ⟨some (.int (i : Nat)), some (.int (Sf (fr rs n) z (i + 1))), rfl, same_put (same_put s' nd) nd, ?_⟩
        rw [upd_upd, upd_same]
        simp only [rooms, List.map_append, List.map_cons, List.map_nil, List.append_assoc]
        rfl
    · rintro σ H' ⟨u, v, rfl, s, hd⟩
      rw [hl] at hd
      refine ⟨_, rfl, d, _, rfl, SqL.of hd, ?_, fun o H2 ho s2 => k o H2 (climb_of ho) (s.trans s2)⟩
      rw [rooms_len]; omega
end
end K06

set_option Elab.async false
set_option linter.all false
set_option maxRecDepth 100000
set_option maxHeartbeats 4000000
/-! row_ahead, lifted, kept_of. -/
namespace K06
open PySem PySem.Spec PyProof.Rows L2

theorem lk_here {k : Str} {v : V} {r : List (Str × V)} : List.lookup k ((k, v) :: r) = some v := by
  have e : (k == k) = true := beq_self_eq_true k
  simp only [List.lookup, e]
theorem lk_past {k g : Str} {v : V} {r : List (Str × V)} (h : (k == g) = false) : List.lookup k ((g, v) :: r) = List.lookup k r := by
  simp only [List.lookup, h]
theorem put_here {f : Str} {v x : V} {r : List (Str × V)} : putF f v ((f, x) :: r) = (f, v) :: r := if_pos rfl
theorem put_past {f g : Str} {v x : V} {r : List (Str × V)} (h : ¬ g = f) : putF f v ((g, x) :: r) = (g, x) :: putF f v r := if_neg h
/-- a rhyme's attributes, in the order in which __init__ sets them -/
def flds (vt rt : Addr) (left : Int) : List (Str × V) := [("own_verses", .ref vt), ("own_left", .int left), ("rises", .ref rt)]
theorem flds_left (vt rt : Addr) (left : Int) : (flds vt rt left).lookup ("own_left" : Str) = some (.int left) := (lk_past (by decide +kernel)).trans lk_here
theorem flds_rises (vt rt : Addr) (left : Int) : (flds vt rt left).lookup ("rises" : Str) = some (.ref rt) := (lk_past (by decide +kernel)).trans ((lk_past (by decide +kernel)).trans lk_here)
/-- a rhyme stands at rh -/
structure RhAt (C : Addr) (H : Hp) (rh : Addr) (left : Nat) (rs : List Int) : Prop where
  ob : ∃ dx vt rt, H rh = some (.ins C dx (flds vt rt (left : Int))) ∧ H rt = some (.tup (rs.map V.int))
  ri : Rises rs
  l1 : 1 ≤ left
  l3 : left ≤ 3
theorem RhAt.same {C : Addr} {H H' : Hp} {rh : Addr} {left : Nat} {rs : List Int} (h : RhAt C H rh left rs) (s : Same H H') : RhAt C H' rh left rs := by
  obtain ⟨dx, vt, rt, h1, h2⟩ := h.ob
  exact ⟨⟨dx, vt, rt, s _ _ h1, s _ _ h2⟩, h.ri, h.l1, h.l3⟩

section
variable {P : Program} {w : World} {K : PySem.W.Frag} {mg : Str → Option Value} {base : Heap} {C CB : Addr}
theorem yes_of {σ : L2.St} {H : Hp} {Q : Bool → Hp → Prop} (h : Q true H) : tYes σ H Q := h
/-! ### row_ahead -/
abbrev rSub : R2 := rI0 fun i j => .int (i - j)
abbrev rMod : R2 := rI (fun _ j => 0 < j) fun i j => .int (i % j)
def spAhead (C : Addr) : Sp := fun vs H Q _ => ∃ (rh : Addr) (left : Nat) (n s : Int) (rs : List Int), vs = [.ref rh, .int n, .int s] ∧ RhAt C H rh left rs ∧
  ∀ H' p, Same H H' → H p = none → H' p = some (.lst ((rowA rs n s).map V.int)) → Q (.ref p) H'
theorem scAhead : FnScope ["rhyme", "n", "size", "many", "at"] ["rhyme", "n", "size"] (defScope sAhead) := ⟨rfl, rfl, rfl, by decide +kernel, rfl, by decide +kernel, by decide +kernel⟩
theorem ok_ahead (F : DefF K mg "row_ahead" sAhead ["rhyme", "n", "size"]) (T : Txt K mg C CB) : Cal CX0 P w K mg base 1 "row_ahead" (spAhead C) [] := by
  refine cal0 F scAhead (fun vs H Q E h => ?_) (fun f cdv A outer s H vs Q E hr h => ?_)
  · obtain ⟨rh, left, n, z, rs, rfl, _⟩ := h
    rfl
  · obtain ⟨rh, left, n, z, rs, rfl, hR, k⟩ := h
    refine ⟨_, pss_cons (ps_set (i := 3) scAhead.nd rfl (.inr rfl) (pe_callB call_len_seq (by rfl) T.len boot_len (pa_cons (pe_fld (pv 0) rfl) pa_nil)))
      (pss_one (ps_ret (pe_lc (te := tOp (rIxT K) (tFld K (tVar 0) "rises") (tOp rMod (tOp rSub (tOp rSub (tOp rSub (tVar 1) (tVar 2)) (tC (.int 1))) (tVar 4)) (tVar 3))) (own := [("at", 4)]) (g := gName 4) (tt := tYes) rfl scAhead.nd (pi_range1 rfl T.range (pa_cons (pv 3) pa_nil))
        (blkOk_by (own := [("at", 4)]) (N := ["rhyme", "n", "size", "many", "at"]) (sc := defScope sAhead) (by decide +kernel)) (fun _ _ _ _ _ => pg_name (i := 4) scAhead.nd rfl (Or.inl rfl))
        (fun _ _ _ _ _ => pts_nil)
        (fun _ _ _ _ _ => by exact (pe_ix ix_tup (pe_fld (pv 0) (by rfl)) (pe_op op_mod (pe_op op_sub (pe_op op_sub (pe_op op_sub (pv 1) (pv 2)) pe_int) (pv 4)) (pv 3)) (fun _ _ => rfl)))))), ?_⟩
    obtain ⟨dx, vt, rt, h1, h2⟩ := hR.ob
    have hm := hR.ri.1
    have hm4 := hR.ri.2.1
    refine ⟨_, rfl, rh, C, dx, _, _, rfl, h1, T.cl, T.nR, flds_rises _ _ _, rt, _, rfl, .inr (SqT.of h2), ?_⟩
    rw [List.length_map]
    refine ⟨_, rfl, _, rfl, by omega, by omega, fun D nD => lc_range (lo := 0) (n := rs.length)
      (fun i H' => Same H H' ∧ H' D = some (.lst (((rowA rs n z).take i).map V.int))) ⟨same_new nD, upd_same⟩ ?_ ?_⟩
    · rintro i H' hi ⟨s, hD⟩
      refine ⟨rfl, yes_of (iteT ?_)⟩
      refine ⟨_, rfl, rh, C, dx, _, _, rfl, s _ _ h1, T.cl, T.nR, flds_rises _ _ _, _, rfl, _, rfl, _, _, rfl, rfl, _, _, rfl, rfl, _, rfl, _, _, rfl, rfl, _, rfl, _, _, rfl, rfl, ?_, ?_⟩
      · omega
      obtain ⟨g1, g2⟩ := hR.ri.ix (n - z - 1 - (0 + (i : Int)))
      have ez : n - z - 1 - (0 + (i : Int)) = n - (z + 1 + i) := by omega
      refine ⟨rt, _, _, .int (fr rs n (z + 1 + i)), rfl, rfl, SqT.of (s _ _ h2), at_of (j := ((n - z - 1 - (0 + (i : Int))) % (rs.length : Int)).toNat) (by omega) ?_, ?_⟩
      · rw [List.getElem?_map, ez, hR.ri.at n (z + 1 + i)]
        rfl
      · refine ⟨_, hD, ?_, same_put s nD, ?_⟩
        · rw [List.length_map, List.length_take, rowA_len]
          exact small1000 (by omega)
        · rw [take_snoc (rowA_get hi), List.map_append]
          exact upd_same
    · rintro H' ⟨s, hD⟩
      refine k H' D s nD ?_
      rw [hD, ← rowA_len rs n z, List.take_length]

/-! ### lifted -/
def spLifted (C : Addr) : Sp := fun vs H Q _ => ∃ (rh : Addr) (left : Nat) (p s n : Int) (rs : List Int), vs = [.ref rh, .int p, .int s, .int n] ∧ RhAt C H rh left rs ∧ 0 ≤ p ∧ p < s ∧ s ≤ n ∧
  ∀ H', Same H H' → Q (.int (lf (fr rs n) (n - s).toNat p s)) H'
theorem scLifted : FnScope ["rhyme", "place", "size", "n", "many", "row", "sums", "most", "found", "leap"] ["rhyme", "place", "size", "n"] (defScope sLifted) := ⟨rfl, rfl, rfl, by decide +kernel, rfl, by decide +kernel, by decide +kernel⟩
theorem ok_lifted (F : DefF K mg "lifted" sLifted ["rhyme", "place", "size", "n"]) (T : Txt K mg C CB) (cA : Cal CX0 P w K mg base 1 "row_ahead" (spAhead C) []) (cS : Cal CX0 P w K mg base 1 "sums_of" (spSums K) [])
    (cC : Cal CX0 P w K mg base 2 "climbs" (spClimbs K) []) (cD : Cal CX0 P w K mg base 1 "does_stay" (spStay K) []) (cB : Cal CX0 P w K mg base 1 "beside" spBeside []) : Cal CX0 P w K mg base 3 "lifted" (spLifted C) [] := by
  refine cal0 F scLifted (fun vs H Q E h => ?_) (fun f cdv A outer s H vs Q E hr h => ?_)
  · obtain ⟨rh, left, p, z, n, rs, rfl, _⟩ := h
    rfl
  · obtain ⟨rh, left, p, z, n, rs, rfl, hR, hp0, hp1, hzn, k⟩ := h
    obtain ⟨tF, gF⟩ := T.gFew
    refine ⟨_, pss_cons (ps_set (i := 4) scLifted.nd rfl (.inl rfl) (pe_callB call_len_seq (by rfl) T.len boot_len (pa_cons (pe_fld (pv 0) rfl) pa_nil)))
      (pss_cons (ps_while PassesOwn.never (pt_cmpR op_lt (pv 2) (pv 3) (nomark _))
        (pss_cons (ps_set (i := 5) scLifted.nd rfl (.inl rfl) (pe_c cA hr (by decide) pass0 (by rfl) (pa_cons (pv 0) (pa_cons (pv 3) (pa_cons (pv 2) pa_nil)))))
        (pss_cons (ps_set (i := 6) scLifted.nd rfl (.inl rfl) (pe_c cS hr (by decide) pass0 (by rfl) (pa_cons (pv 5) pa_nil)))
        (pss_cons (ps_set (i := 7) scLifted.nd rfl (.inl rfl) (pe_op op_fdiv (pe_op op_sub (pv 3) (pv 2)) (pv 4)))
        (pss_cons (ps_set (i := 8) scLifted.nd rfl (.inl rfl) (pe_c cC hr (by decide) pass0 (by rfl) (pa_cons (pv 1) (pa_cons (pv 2) (pa_cons (pv 6) pa_nil)))))
        (C8.pss_cut (ps_set (i := 9) scLifted.nd rfl (.inl rfl) (pe_ifExp (pt_cmpR op_isN (pv 8) pe_non (nomark _)) (pv 7) (pe_callB (call_min2 rfl) (by rfl) T.min boot_min (pa_cons (pv 8) (pa_cons (pv 7) pa_nil)))))
        (pss_one (ps_if (pt_cmpR op_gt (pv 9) pe_int (nomark _))
          (pss_cons (ps_aug (i := 1) scLifted.nd rfl (.inl rfl) (pe_op op_mul (pv 9) (pe_ix ix_list (pv 6) (pe_un un_neg pe_int) (fun _ _ => rfl))) ip_add)
          (pss_one (ps_aug (i := 2) scLifted.nd rfl (.inl rfl) (pe_op op_mul (pv 9) (pv 4)) ip_add)))
          (pss_one (ps_if (PW.pt (pw_and (pt_cmpR op_gt (pv 7) pe_int (nomark _)) (pw_and (pt_cmpR op_gt (pv 2) (pe_glob (v := .int 64) (by rfl) gF ⟨_, rfl⟩) (nomark _))
              (pw_and1 (pt_val (pe_c cD hr (by decide) pass0 (by rfl) (pa_cons (pv 5) (pa_cons (pe_c cB hr (by decide) pass0 (by rfl) (pa_cons (pv 1) (pa_cons (pv 2) pa_nil))) pa_nil))))))))
            (pss_cons (ps_aug (i := 1) scLifted.nd rfl (.inl rfl) (pe_op op_mul (pe_op op_mul (pv 7) (pv 4)) (pe_callTy call_int1 (by rfl) T.int boot_int (pa_cons
                (pe_cmpR op_lt (pe_c cB hr (by decide) pass0 (by rfl) (pa_cons (pv 1) (pa_cons (pv 2) pa_nil))) pe_int (nomark _)) pa_nil))) ip_add)
            (pss_one (ps_aug (i := 2) scLifted.nd rfl (.inl rfl) (pe_op op_mul (pv 7) (pv 4)) ip_add)))
            (pss_cons (ps_aug (i := 2) scLifted.nd rfl (.inl rfl) pe_int ip_add)
            (pss_one (ps_set (i := 1) scLifted.nd rfl (.inl rfl) (pe_op op_mod (pe_op op_add (pv 1) (pe_ix ix_list (pv 5) pe_int (fun _ _ => rfl))) (pv 2)))))))))))))))
      (pss_one (ps_ret (pv 1)))), ?_⟩
    obtain ⟨dx, vt, rt, h1, h2⟩ := hR.ob
    have hm := hR.ri.1
    have hm4 := hR.ri.2.1
    refine ⟨_, rfl, rh, C, dx, _, _, rfl, h1, T.cl, T.nR, flds_rises _ _ _, rt, _, rfl, .inr (SqT.of h2), ?_⟩
    rw [List.length_map]
    have hw : Same H H ∧ lf (fr rs n) (n - z).toNat p z = lf (fr rs n) (n - z).toNat p z := ⟨Same.refl H, rfl⟩
    refine ⟨fun m σ H' => ∃ (p' z' : Int) (v5 v6 v7 v8 v9 : Option V), σ = [some (.ref rh), some (.int p'), some (.int z'), some (.int n), some (.int rs.length), v5, v6, v7, v8, v9] ∧ m = (n - z').toNat ∧ Same H H' ∧
      0 ≤ p' ∧ p' < z' ∧ z' ≤ n ∧ lf (fr rs n) (n - z).toNat p z = lf (fr rs n) (n - z').toNat p' z', ⟨_, p, z, none, none, none, none, none, rfl, rfl, Same.refl H, hp0, hp1, hzn, rfl⟩, ?_⟩
    rintro m σ H1 ⟨p', z', v5, v6, v7, v8, v9, rfl, rfl, s1, q0, q1, q2, e⟩
    refine ⟨_, rfl, _, rfl, _, _, rfl, rfl, _, rfl, ite2 (fun c => ?_) fun c => ?_⟩
    · have c := of_decide_eq_true c
      refine ⟨fun σ' H' => ∃ (d p2 : Int) (v5 v6 v7 v8 v9 : Option V), σ' = [some (.ref rh), some (.int p2), some (.int (z' + d)), some (.int n), some (.int rs.length), v5, v6, v7, v8, v9] ∧ 0 < d ∧ z' + d ≤ n ∧ lf (fr rs n) d.toNat p' z' = p2 ∧ Same H H',
        fun σ' H' ⟨d, p2, v5, v6, v7, v8, v9, e1, hd, hn, hp2, s2⟩ => ?_, ?_⟩
      · have rg := lf_range (fr rs n) d.toNat p' z' q0 q1
        rw [hp2] at rg
        refine ⟨(n - (z' + d)).toNat, by omega, p2, z' + d, v5, v6, v7, v8, v9, e1, rfl, s2, rg.1, by omega, hn, ?_⟩
        rw [e]
        exact lf_on (by omega) hn hp2 rfl
      -- row = row_ahead(rhyme, n, size)
      refine ⟨_, rfl, _, rfl, _, rfl, rh, left, n, z', rs, rfl, hR.same s1, fun H2 a2 s2 n2 h2' => ?_⟩
      have s02 : Same H H2 := s1.trans s2
      -- sums = sums_of(row)
      refine ⟨_, rfl, a2, _, rfl, SqL.of h2', by rw [rowA_len]; omega, fun H3 a3 s3 n3 h3 => ?_⟩
      have s03 : Same H H3 := s02.trans s3
      have h23 : H3 a2 = some (.lst ((rowA rs n z').map V.int)) := s3 _ _ h2'
      -- most = (n - size) // many
      refine ⟨_, rfl, _, rfl, _, _, rfl, rfl, _, rfl, _, _, rfl, rfl, ⟨by omega, by omega⟩, ?_⟩
      -- found = climbs(place, size, sums)
      refine ⟨_, rfl, _, rfl, _, rfl, a3, p', z', n, rs, rfl, SqL.of h3, hR.ri, fun o H4 ho s4 => ?_⟩
      have s04 : Same H H4 := s03.trans s4
      have h24 : H4 a2 = some (.lst ((rowA rs n z').map V.int)) := s4 _ _ h23
      have h34 : H4 a3 = some (.lst ((psum (rowA rs n z')).map V.int)) := s4 _ _ h3
      have mo0 : 0 ≤ (n - z') / (rs.length : Int) := Int.ediv_nonneg (by omega) (by omega)
      have mo1 : (n - z') / (rs.length : Int) * rs.length ≤ n - z' := Int.ediv_mul_le _ (by omega)
      obtain ⟨mo, hmo⟩ : ∃ x, (n - z') / (rs.length : Int) = x := ⟨_, rfl⟩
      rw [hmo] at mo0 mo1
      -- leap
      refine ⟨fun σ' H' => ∃ l : Int, H' = H4 ∧ l ≤ mo ∧ (∀ x, o = some x → l ≤ x) ∧ σ' = [some (.ref rh), some (.int p'), some (.int z'), some (.int n), some (.int rs.length), some (.ref a2), some (.ref a3), some (.int mo), some (vO o), some (.int l)], ?_, ?_⟩
      · refine ⟨_, rfl, rfl, _, rfl, ?_⟩
        cases o with
        | none =>
          refine iteT ⟨_, rfl, mo, rfl, Int.le_refl _, fun x hx => (nomatch hx), ?_⟩
          subst hmo
          rfl
        | some x =>
          refine iteF ⟨_, rfl, _, rfl, _, _, rfl, (if mo < x then mo else x), rfl, ?_, fun y hy => ?_, ?_⟩
          · split <;> omega
          · cases hy
            split <;> omega
          · subst hmo
            rfl
      · rintro σ' H' ⟨l, rfl, l1, l2, rfl⟩
        refine ⟨_, rfl, _, _, rfl, rfl, _, rfl, ite2 (fun c1 => ?_) fun c1 => ?_⟩
        · have c1 : 0 < l := of_decide_eq_true c1
          have lw := leap_way hR.ri ho (Int.le_of_lt c1) l2
          have pos : l * (rs.length : Int) ≥ l := by
            have := Int.mul_le_mul_of_nonneg_left (show (1 : Int) ≤ rs.length by omega) (Int.le_of_lt c1)
            omega
          have up : l * (rs.length : Int) ≤ mo * rs.length := Int.mul_le_mul_of_nonneg_right l1 (by omega)
          have bnd := Sf_bound (fr rs n) z' (fun i => hR.ri.fr n i) rs.length
          refine ⟨_, rfl, _, rfl, _, rfl, _, rfl, a3, _, _, _, rfl, rfl, SqL.of h34, psumA_last hR.ri, _, _, rfl, rfl, .inr ⟨by omega, by omega⟩, _, _, rfl, rfl, ?_⟩
          refine ⟨_, rfl, _, rfl, _, rfl, _, _, rfl, rfl, .inr ⟨by omega, by omega⟩, _, _, rfl, rfl, ?_⟩
          exact ⟨l * rs.length, _, _, _, _, _, _, rfl, by omega, by omega, lw, s04⟩
        · have row0 : ((rowA rs n z').map V.int)[0]? = some (.int (fr rs n (z' + 1))) := by
            rw [List.getElem?_map, rowA_get (by omega)]
            simp
          refine ⟨_, rfl, _, _, rfl, rfl, _, rfl, ite2 (fun d1 => ?_) fun d1 => iteF ?_⟩
          · have d1 : 0 < mo := of_decide_eq_true d1
            refine ⟨_, rfl, _, _, rfl, rfl, _, rfl, ite2 (fun d2 => ?_) fun d2 => iteF ?_⟩
            · have d2 : 64 < z' := of_decide_eq_true d2
              refine ⟨_, rfl, _, rfl, _, rfl, p', z', rfl, a2, rowA rs n z', bes p' z', rfl, SqL.of h24, _, rfl, ite2 (fun d3 => ?_) fun d3 => ?_⟩
              · have d3 := of_decide_eq_true d3
                have sw := stay_way hR.ri q0 q1 d2 (Int.le_of_lt d1) d3
                have pos : mo * (rs.length : Int) ≥ mo := by
                  have := Int.mul_le_mul_of_nonneg_left (show (1 : Int) ≤ rs.length by omega) (Int.le_of_lt d1)
                  omega
                refine ⟨_, rfl, _, rfl, _, rfl, _, _, rfl, rfl, .inr ⟨by omega, by omega⟩, _, rfl, _, rfl, p', z', rfl, _, _, rfl, rfl, .inr ⟨_, rfl, _, _, rfl, rfl, .inr ?_, _, _, rfl, rfl, ?_⟩⟩
                · split <;> omega
                · refine ⟨_, rfl, _, rfl, _, rfl, _, _, rfl, rfl, .inr ⟨by omega, by omega⟩, _, _, rfl, rfl, ?_⟩
                  refine ⟨mo * rs.length, _, _, _, _, _, _, rfl, by omega, by omega, ?_, s04⟩
                  rw [sw]
                  by_cases d4 : bes p' z' < 0
                  · rw [if_pos d4, if_pos (decide_eq_true d4)]
                  · rw [if_neg d4, if_neg (by simpa using d4)]
              · refine ⟨_, rfl, _, _, rfl, rfl, ?_⟩
                refine ⟨_, rfl, _, rfl, a2, _, _, _, rfl, rfl, SqL.of h24, at_of (j := 0) rfl row0, _, _, rfl, rfl, _, rfl, _, _, rfl, rfl, (by show (0 : Int) < z' + 1; omega), ?_⟩
                exact ⟨1, _, _, _, _, _, _, rfl, by omega, by omega, rfl, s04⟩
            · refine ⟨_, rfl, _, _, rfl, rfl, ?_⟩
              refine ⟨_, rfl, _, rfl, a2, _, _, _, rfl, rfl, SqL.of h24, at_of (j := 0) rfl row0, _, _, rfl, rfl, _, rfl, _, _, rfl, rfl, (by show (0 : Int) < z' + 1; omega), ?_⟩
              exact ⟨1, _, _, _, _, _, _, rfl, by omega, by omega, rfl, s04⟩
          · refine ⟨_, rfl, _, _, rfl, rfl, ?_⟩
            refine ⟨_, rfl, _, rfl, a2, _, _, _, rfl, rfl, SqL.of h24, at_of (j := 0) rfl row0, _, _, rfl, rfl, _, rfl, _, _, rfl, rfl, (by show (0 : Int) < z' + 1; omega), ?_⟩
            exact ⟨1, _, _, _, _, _, _, rfl, by omega, by omega, rfl, s04⟩
    · have c : ¬ z' < n := fun q => c (decide_eq_true q)
      have ez : z' = n := by omega
      subst ez
      refine ⟨_, rfl, ?_⟩
      have e0 : (z' - z').toNat = 0 := by omega
      rw [e0] at e
      have k1 := k H1 s1
      rw [e] at k1
      exact k1

/-! ### kept_of -/
theorem raw_get {rs : List Int} {left : Nat} {n : Int} {i : Nat} (h : i < left) : (raw rs left n)[i]? = some (lf (fr rs n) (n - left).toNat i left) := by
  unfold raw row
  exact rw_get h
theorem raw_len (rs : List Int) (left : Nat) (n : Int) : (raw rs left n).length = left := by simp [raw, row, rw_len]
def spKeptOf (C : Addr) : Sp := fun vs H Q _ => ∃ (rh : Addr) (left : Nat) (n : Int) (rs : List Int), vs = [.ref rh, .int n] ∧ RhAt C H rh left rs ∧ left ≤ n ∧
  ∀ H' p, Same H H' → H p = none → H' p = some (.lst ((srt (raw rs left n)).map V.int)) → Q (.ref p) H'
theorem scKeptOf : FnScope ["rhyme", "n", "place"] ["rhyme", "n"] (defScope sKeptOf) := ⟨rfl, rfl, rfl, by decide +kernel, rfl, by decide +kernel, by decide +kernel⟩
theorem ok_keptOf (F : DefF K mg "kept_of" sKeptOf ["rhyme", "n"]) (T : Txt K mg C CB) (cL : Cal CX0 P w K mg base 3 "lifted" (spLifted C) []) : Cal CX0 P w K mg base 4 "kept_of" (spKeptOf C) [] := by
  refine cal0 F scKeptOf (fun vs H Q E h => ?_) (fun f cdv A outer s H vs Q E hr h => ?_)
  · obtain ⟨rh, left, n, rs, rfl, _⟩ := h
    rfl
  · obtain ⟨rh, left, n, rs, rfl, hR, hn, k⟩ := h
    refine ⟨_, pss_one (ps_ret (pe_callB cr_sortedI (by rfl) T.sorted boot_sorted (pa_cons
      (pe_lc (te := tCall (spLifted C) [] E0 (tCons (tVar 0) (tCons (tVar 2) (tCons (tFld K (tVar 0) "own_left") (tCons (tVar 1) tNil))))) (own := [("place", 2)]) (g := gName 2) (tt := tYes) rfl scKeptOf.nd
        (pi_range1 rfl T.range (pa_cons (pe_fld (pv 0) rfl) pa_nil))
        (blkOk_by (own := [("place", 2)]) (N := ["rhyme", "n", "place"]) (sc := defScope sKeptOf) (by decide +kernel)) (fun _ _ _ _ _ => pg_name (i := 2) scKeptOf.nd rfl (Or.inl rfl))
        (fun _ _ _ _ _ => pts_nil)
        (fun _ _ _ _ _ => by exact (pe_c cL hr (Nat.le_refl _) pass0 (by rfl) (pa_cons (pv 0) (pa_cons (pv 2) (pa_cons (pe_fld (pv 0) (by rfl)) (pa_cons (pv 1) pa_nil)))))))
      pa_nil))), ?_⟩
    obtain ⟨dx, vt, rt, h1, h2⟩ := hR.ob
    have hl1 := hR.l1
    have hl3 := hR.l3
    refine ⟨_, rfl, rh, C, dx, _, _, rfl, h1, T.cl, T.nL, flds_left _ _ _, _, rfl, by omega, by omega, fun D nD => lc_range (lo := 0) (n := left)
      (fun i H' => Same H H' ∧ H' D = some (.lst (((raw rs left n).take i).map V.int))) ⟨same_new nD, upd_same⟩ ?_ ?_⟩
    · rintro i H' hi ⟨s, hD⟩
      refine ⟨rfl, yes_of (iteT ?_)⟩
      refine ⟨_, rfl, _, rfl, _, rfl, rh, C, dx, _, _, rfl, s _ _ h1, T.cl, T.nL, flds_left _ _ _, _, rfl, rh, left, _, _, _, rs, rfl, hR.same s, by omega, by omega, hn, fun H2 s2 => ?_⟩
      refine ⟨_, s2 _ _ hD, ?_, same_put (s.trans s2) nD, ?_⟩
      · rw [List.length_map, List.length_take, raw_len]
        exact small1000 (by omega)
      · rw [take_snoc (raw_get hi), List.map_append, upd_same]
        have e0 : (0 : Int) + (i : Int) = i := by omega
        rw [e0]
        rfl
    · rintro H' ⟨s, hD⟩
      rw [List.take_of_length_le (by rw [raw_len]; omega)] at hD
      refine ⟨D, raw rs left n, rfl, SqL.of hD, fun ns' p pm pw np => ?_⟩
      refine k _ p (s.trans (same_new np)) (s.free np) ?_
      rw [srt_one pm pw]
      exact upd_same
end
end K06

set_option Elab.async false
set_option linter.all false
set_option maxRecDepth 100000
set_option maxHeartbeats 4000000
/-! A range of any ints walked; an own error made without arguments; need_number, kept, safe. -/
namespace K06
open PySem PySem.Spec PyProof.Rows L2

/-! ### range(a, b) of any ints -/
theorem turn_longrange {P : Program} {w : World} {K : PySem.W.Frag} {tg : Expr} (it : Addr) (lo : Int) (n : Nat) : Turn P w K tg (Itr lo n) [it] it (fun i h => IsLongIter h it (lo + (i : Nat) * 1) ((n : Int) - (i : Nat)) 1) where
  mem := by simp
  obj := fun i h st b hb => by
    have e : b = it := by simpa using hb
    subst e
    exact ⟨_, st, fun v z => by
      have z' : Data.fields _ = Data.cell v := z
      cases z'⟩
  keep := fun i h h' st k => k it (by simp) _ st
  item := by
    intro X hP hw hK hc i pins s σ H E I hf st hg
    subst hP hw hK
    obtain ⟨f0, f1, f2, f3, f4, f5⟩ := hf it (by simp)
    have W := Walks.longrange (prog := X.prog) (w := X.w) (I.ok.hd hc) it lo 1 n
    refine W.item i s _ _ hg st fun v h' tk hv st' kk => ?_
    obtain ⟨t, rfl⟩ := hv
    have I1 : Inv X pins σ H { s with heap := h', toks := tk } := I.turned (fun b o hb e => kk b o (by simpa using hb) e) f0 f1 f3 f4 f5
    refine ⟨_, rfl, go_of (s := { s with heap := h', toks := tk }) (n := "longrange_iterator") st' rfl rfl (by decide) ⟨.int (lo + i), H, I1, ⟨t, ?_⟩, ⟨rfl, rfl⟩, st', fun b hb => (hf b hb).1⟩⟩
    rw [Int.mul_one]
  done := by
    intro X hP hw hK hc i pins s σ H E I hf st hg
    subst hP hw hK
    obtain ⟨f0, f1, f2, f3, f4, f5⟩ := hf it (by simp)
    exact wpAny_pyNext_long_end (I.ok.hd hc) st (by have : n ≤ i := hg; omega) fun h' eb => ⟨rfl, I.turned (t' := s.toks) (fun b o hb e => eb b o hb e) f0 f1 f3 f4 f5⟩
  self := fun _ _ _ _ _ st h => wpAny_pyIter_longiter st h
section
variable {X : Cx} {tg : Expr}
theorem range_itA {pins : List (Addr × Obj)} {σ : L2.St} {H : Hp} {s : Shared} {R : It → Hp → Prop} {E : Value → Shared → Prop} {lo hi : Int} {t u v : Tok} {tk : Nat} (I : Inv X pins σ H s)
    (q : R (Itr lo (hi - lo).toNat) H) : wpAny (model X.prog X.w) X.A (pyIter (.ref s.heap.objs.size)) (PIE X pins σ tg R) E { s with heap := s.heap.push { cls := .type "range", data := .fields #[.int lo t, .int hi u, .int 1 v] }, toks := tk } := by
  have I1 : Inv X pins σ H { s with heap := s.heap.push { cls := .type "range", data := .fields #[.int lo t, .int hi u, .int 1 v] }, toks := tk } := I.kept fun b o e => Heap.get?_push_of_some _ e
  have e1 : lo + ((0 : Nat) : Int) * 1 = lo := by simp
  have e2 : (((hi - lo).toNat : Nat) : Int) - ((0 : Nat) : Int) = Builtin.Range.rangeSize lo hi 1 := by rw [rangeSize_one]; split <;> omega
  cases hs : Builtin.Range.small lo hi 1 with
  | true =>
    refine wpAny_pyIter_range (IsRange.new ..) hs ?_
    refine ⟨(s.heap.push { cls := .type "range", data := .fields #[.int lo t, .int hi u, .int 1 v] }).objs.size, [(s.heap.push { cls := .type "range", data := .fields #[.int lo t, .int hi u, .int 1 v] }).objs.size], _, _, H, rfl,
      I1.kept (t' := tk) fun b o e => Heap.get?_push_of_some _ e, turn_range _ lo (hi - lo).toNat, ?_, fun b hb => ?_, q⟩
    · show IsRangeIter _ _ (lo + ((0 : Nat) : Int) * 1) ((((hi - lo).toNat : Nat) : Int) - ((0 : Nat) : Int)) 1
      rw [e1, e2]
      exact Heap.get?_push_size _ rfl
    · have e : b = (s.heap.push { cls := .type "range", data := .fields #[.int lo t, .int hi u, .int 1 v] }).objs.size := by simpa using hb
      subst e
      exact I1.fpOk (Nat.le_refl _) (I1.hok.fresh (Nat.le_refl _))
  | false =>
    refine wpAny_pyIter_longrange (IsRange.new ..) hs ?_
    refine ⟨(s.heap.push { cls := .type "range", data := .fields #[.int lo t, .int hi u, .int 1 v] }).objs.size, [(s.heap.push { cls := .type "range", data := .fields #[.int lo t, .int hi u, .int 1 v] }).objs.size], _, _, H, rfl,
      I1.kept (t' := tk) fun b o e => Heap.get?_push_of_some _ e, turn_longrange _ lo (hi - lo).toNat, ?_, fun b hb => ?_, q⟩
    · show IsLongIter _ _ (lo + ((0 : Nat) : Int) * 1) ((((hi - lo).toNat : Nat) : Int) - ((0 : Nat) : Int)) 1
      rw [e1, e2]
      exact Heap.get?_push_size _ rfl
    · have e : b = (s.heap.push { cls := .type "range", data := .fields #[.int lo t, .int hi u, .int 1 v] }).objs.size := by simpa using hb
      subst e
      exact I1.fpOk (Nat.le_refl _) (I1.hok.fresh (Nat.le_refl _))
def iRngA (ta : TA) : TI := fun σ H R => ta σ H fun vs H1 => ∃ i j : Int, vs = [.int i, .int j] ∧ R (Itr i (j - i).toNat) H1
theorem pi_rangeA {a b : Expr} {ta : TA} {p pos : Pos} (hg : Gl X "range") (hm : X.mg "range" = none) (ha : PA X [a, b] ta) (hs : starEach [a, b] X.env = [(false, eval a X.env), (false, eval b X.env)] := by rfl) (hs2 : starEach [b] X.env = [(false, eval b X.env)] := by rfl) :
    PI X tg (.Call (.Name "range" p) [a, b] [] pos) (iRngA ta) := by
  refine ⟨fun pins s σ H R I h => ?_⟩
  refine Call_ (ld_blt I hg hm boot_range (PyProof.Rows.callWith_type1 (thn (ha.run pos pins s σ H _ I h) fun us s1 ⟨vs, H1, I1, r1, q1⟩ => ?_) (by rw [hs, hs2]) (by rw [hs2]; rfl)))
  obtain ⟨i, j, e, q⟩ := q1
  subst e
  cases r1 with
  | cons r rr =>
    cases rr with
    | cons r' rr =>
      cases rr
      obtain ⟨t, rfl⟩ := r
      obtain ⟨t', rfl⟩ := r'
      exact call_range_2 (range_itA I1 q)
end
/-! ### X(), X an own error class without own __init__ -/
section
variable {X : Cx} {C : Addr} {bmB : List Value} {B newId initId : String}
theorem pmk_own0 {x : Str} {p pos : Pos} (F : ExcBaseFacts B newId initId bmB) (q : PySem.W.excIn X.K C bmB newId = true) (gC : X.mg x = some (.ref C)) (kC : PySem.W.keepIn X.K (.ref C) = true) (r : Raises X (.ref C)) (hg : Gl X x)
    (hdb : (x == ("__debug__" : Str)) = false := by decide) : PMk X (.Call (.Name x p) [] [] pos) (fun _ H Q => Q (.ref C) none H) := by
  intro pins s σ H Q I h
  refine wpAny_Call_Name_kw (ld_glob I hg gC ?_ hdb)
  refine PySem.W.callWith_K0 I.kIn kC ?_
  show wpAny _ _ (call (.ref C) []) _ _ _
  obtain ⟨bm, N, nm, qn, bs, hdct, sn, sub, ab, col, dd, k0, k1, k2, k3, k5, mN, hC, hN, hni, T⟩ := exc_obj I.kIn q
  refine wpAny_call_exc_subT F T hC hN hni (fun h' e hm => ?_) (by show 0 ≤ sizeLine; omega)
  exact mk_of I hm r h (I.hok.gone hm.new)
end

section
variable {P : Program} {w : World} {K : PySem.W.Frag} {mg : Str → Option Value} {base : Heap} {C CB : Addr}
/-! ### need_number -/
/-- need_number with its default -/
structure NeedF (K : PySem.W.Frag) (mg : Str → Option Value) : Prop where
  ex : ∃ f fd ds, FunD K "need_number" "need_number" (defArgs sNeed) (defBody sNeed) (defScope sNeed) [.int (10 ^ 30)] [] f fd ∧ mg "need_number" = some (.ref f) ∧ Vals [.int (10 ^ 30)] ds ∧ Binds K fd ["rhyme", "value", "most"] ds
def spNeed (C CB : Addr) : Sp := fun vs H Q E => ∃ (rh : Addr) (left : Nat) (rs : List Int) (x : V) (most : Int), vs = [.ref rh, x, .int most] ∧ RhAt C H rh left rs ∧ PV x ∧
  (betw x left most = true → Q .non H) ∧ (betw x left most = false → E (.ref CB) none H)
theorem scNeed : FnScope ["rhyme", "value", "most"] ["rhyme", "value", "most"] (defScope sNeed) := ⟨rfl, rfl, rfl, by decide +kernel, rfl, by decide +kernel, by decide +kernel⟩
theorem ok_need (F : NeedF K mg) (T : Txt K mg C CB) (cB : Cal CX0 P w K mg base 1 "is_between" spBetween []) : Cal (L2.CX P w) P w K mg base 2 "need_number" (spNeed C CB) [.int (10 ^ 30)] := by
  obtain ⟨f, fd, ds, F, hm, rd, b⟩ := F.ex
  refine ⟨f, fd, _, ds, F.ok scNeed (fun vs H Q E h => ?_) (fun cdv A outer s H vs Q E hr h => ?_), hm, F.kp, b, rd⟩
  · obtain ⟨rh, left, rs, x, most, rfl, _⟩ := h
    rfl
  · obtain ⟨rh, left, rs, x, most, rfl, hR, pv_, kT, kF⟩ := h
    refine ⟨_, pss_one (ps_if (pt_not (pt_val (pe_c cB hr (by decide) pass0 (by rfl) (pa_cons (pv 1) (pa_cons (pe_fld (pv 0) (by rfl)) (pa_cons (pv 2) pa_nil))))))
      (pss_one (ps_raise rfl (takes_of rfl rfl rfl rfl) (pmk_own0 PySem.F.excBase_ValueError T.xB T.gB T.kB (raises_own T.bB T.tB) (by exact rfl)))) pss_nil), ?_⟩
    obtain ⟨dx, vt, rt, h1, h2⟩ := hR.ob
    refine ⟨_, rfl, _, rfl, rh, C, dx, _, _, rfl, h1, T.cl, T.nL, flds_left _ _ _, _, rfl, x, left, most, rfl, pv_, _, rfl, ?_⟩
    cases e : betw x left most with
    | true => exact iteF (kT e)
    | false => exact iteT (kF e)
/-! ### kept -/
def spKept (C : Addr) : Sp := fun vs H Q _ => ∃ (rh : Addr) (left : Nat) (n : Int) (rs : List Int), vs = [.ref rh, .int n] ∧ RhAt C H rh left rs ∧ left ≤ n ∧ n ≤ 10 ^ 30 ∧
  ∀ H' p, Same H H' → H p = none → H' p = some (.lst ((srt (raw rs left n)).map V.int)) → Q (.ref p) H'
theorem scKept : FnScope ["rhyme", "n"] ["rhyme", "n"] (defScope sKept) := ⟨rfl, rfl, rfl, by decide +kernel, rfl, by decide +kernel, by decide +kernel⟩
theorem ok_kept (F : DefF K mg "kept" sKept ["rhyme", "n"]) (T : Txt K mg C CB) (cN : Cal (L2.CX P w) P w K mg base 2 "need_number" (spNeed C CB) [.int (10 ^ 30)]) (cK : Cal CX0 P w K mg base 4 "kept_of" (spKeptOf C) []) :
    Cal CX0 P w K mg base 5 "kept" (spKept C) [] := by
  refine cal0 F scKept (fun vs H Q E h => ?_) (fun f cdv A outer s H vs Q E hr h => ?_)
  · obtain ⟨rh, left, n, rs, rfl, _⟩ := h
    rfl
  · obtain ⟨rh, left, n, rs, rfl, hR, hn, hg, k⟩ := h
    refine ⟨_, pss_cons (ps_expr (by exact (pe_c cN hr (by decide) passL (by rfl) (pa_cons (pv 0) (pa_cons (pv 1) pa_nil)))))
      (pss_one (ps_ret (pe_c cK hr (by decide) pass0 (by rfl) (pa_cons (pv 0) (pa_cons (pv 1) pa_nil))))), ?_⟩
    have hb : betw (.int n) left (10 ^ 30) = true := decide_eq_true ⟨hn, hg⟩
    refine ⟨_, rfl, _, rfl, rh, left, rs, .int n, _, rfl, hR, trivial, fun _ => ?_, fun z => ?_⟩
    · exact ⟨_, rfl, _, rfl, rh, left, n, rs, rfl, hR, hn, k⟩
    · rw [hb] at z; cases z
end
end K06

set_option Elab.async false
set_option linter.all false
set_option maxRecDepth 100000
set_option maxHeartbeats 4000000
/-! safe. -/
namespace K06
open PySem PySem.Spec PyProof.Rows L2

theorem inV_int (c : Int) (ns : List Int) : inV (.int c) (ns.map V.int) = decide (c ∈ ns) := by
  unfold inV
  rw [List.any_map]
  by_cases h : c ∈ ns
  · rw [decide_eq_true h]
    exact List.any_eq_true.mpr ⟨c, h, by show (c == c) = true; exact beq_self_eq_true c⟩
  · rw [decide_eq_false h]
    refine List.any_eq_false.mpr fun x hx => ?_
    show ¬ (x == c) = true
    intro z
    exact h ((beq_iff_eq.mp z) ▸ hx)
theorem all_flat (ns : List Int) : (ns.map V.int).all flatV = true := by
  rw [List.all_map]
  exact List.all_eq_true.mpr fun _ _ => rfl
/-- [c for c in xs if c in ys] so far -/
theorem filter_snoc {xs : List Int} {f : Int → Bool} {i : Nat} {z : Int} (h : xs[i]? = some z) : (xs.take (i + 1)).filter f = (xs.take i).filter f ++ (if f z = true then [z] else []) := by
  rw [take_snoc h, List.filter_append]
  congr 1
  by_cases c : f z = true
  · rw [if_pos c]; simp [c]
  · rw [if_neg c]; simp [c]
/-- the turn of such a comprehension, whatever tells «in» -/
theorem filt_end {H H' : Hp} {D : Addr} {xs : List Int} {f : Int → Bool} {i : Nat} {z : Int} (hz : xs[i]? = some z) (hl : xs.length ≤ 900) (s : Same H H') (nD : H D = none) (hD : H' D = some (.lst (((xs.take i).filter f).map V.int))) :
    (f z = true → ∃ acc, H' D = some (.lst acc) ∧ acc.length < sizeLine ∧ Same H (upd H' D (.lst (acc ++ [.int z]))) ∧ upd H' D (.lst (acc ++ [.int z])) D = some (.lst (((xs.take (i + 1)).filter f).map V.int))) ∧
    (f z = false → H' D = some (.lst (((xs.take (i + 1)).filter f).map V.int))) := by
  have e := filter_snoc (f := f) hz
  constructor
  · intro c
    rw [if_pos c] at e
    refine ⟨_, hD, ?_, same_put s nD, ?_⟩
    · rw [List.length_map]
      have h1 := List.length_filter_le f (xs.take i)
      have h2 : (xs.take i).length ≤ xs.length := by rw [List.length_take]; omega
      exact small1000 (by omega)
    · rw [e, List.map_append]
      exact upd_same
  · intro c
    rw [if_neg (by rw [c]; exact Bool.false_ne_true), List.append_nil] at e
    rw [e]
    exact hD

section
variable {P : Program} {w : World} {K : PySem.W.Frag} {mg : Str → Option Value} {base : Heap} {C CB : Addr}
def spSafe (C CB : Addr) : Sp := fun vs H Q E => ∃ (rh : Addr) (left : Nat) (rs : List Int) (x y : V), vs = [.ref rh, x, y] ∧ RhAt C H rh left rs ∧ PV x ∧ PV y ∧
  (∀ lo hi : Int, x = .int lo → y = .int hi → left ≤ lo → lo ≤ 10 ^ 30 → lo ≤ hi → hi ≤ lo + 200 → hi ≤ 10 ^ 30 → ∀ H' p, Same H H' → H p = none → H' p = some (.lst ((saf rs left lo (hi - lo).toNat).map V.int)) → Q (.ref p) H') ∧
  ((betw x left (10 ^ 30) = false ∨ ∃ lo, x = .int lo ∧ betw y lo (if (10 : Int) ^ 30 < lo + 200 then 10 ^ 30 else lo + 200) = false) → E (.ref CB) none H)
theorem scSafe : FnScope ["rhyme", "low", "high", "found", "n", "known", "child"] ["rhyme", "low", "high"] (defScope sSafe) := ⟨rfl, rfl, rfl, by decide +kernel, rfl, by decide +kernel, by decide +kernel⟩
theorem betw_true {x : V} {lo hi : Int} (h : betw x lo hi = true) : ∃ i, x = .int i ∧ lo ≤ i ∧ i ≤ hi := by
  cases x with
  | int i => exact ⟨i, rfl, of_decide_eq_true h⟩
  | _ => cases h
theorem ok_safe (F : DefF K mg "safe" sSafe ["rhyme", "low", "high"]) (T : Txt K mg C CB) (cN : Cal (L2.CX P w) P w K mg base 2 "need_number" (spNeed C CB) [.int (10 ^ 30)]) (cB : Cal CX0 P w K mg base 1 "is_between" spBetween [])
    (cK : Cal CX0 P w K mg base 4 "kept_of" (spKeptOf C) []) : Cal (L2.CX P w) P w K mg base 5 "safe" (spSafe C CB) [] := by
  refine calX F scSafe (fun vs H Q E h => ?_) (fun f cdv A outer s H vs Q E hr h => ?_)
  · obtain ⟨rh, left, rs, x, y, rfl, _⟩ := h
    rfl
  · obtain ⟨rh, left, rs, x, y, rfl, hR, px, py, kT, kF⟩ := h
    obtain ⟨tG, gG⟩ := T.gGreatest
    obtain ⟨tR, gR⟩ := T.gRange
    refine ⟨_, pss_cons (ps_expr (by exact (pe_c cN hr (by decide) (passes_call (E := E) (W := fun cls d _ H => E cls d H) (takes_of rfl rfl rfl rfl) fun _ _ _ _ h => h) (by rfl) (pa_cons (pv 0) (pa_cons (pv 1) pa_nil)))))
      (pss_cons (ps_if (pt_not (pt_val (pe_c cB hr (by decide) pass0 (by rfl) (pa_cons (pv 2) (pa_cons (pv 1) (pa_cons
          (pe_callB (call_min2 rfl) (by rfl) T.min boot_min (pa_cons (pe_op op_add (pv 1) (pe_glob (v := .int 200) (by rfl) gR ⟨_, rfl⟩)) (pa_cons (pe_glob (v := .int (10 ^ 30)) (by rfl) gG ⟨_, rfl⟩) pa_nil))) pa_nil))))))
        (pss_one (ps_raise rfl (takes_of rfl rfl rfl rfl) (pmk_own0 PySem.F.excBase_ValueError T.xB T.gB T.kB (raises_own T.bB T.tB) (by exact rfl)))) pss_nil)
      (PSs.nox (pss_cons (ps_set (i := 3) scSafe.nd rfl (.inl rfl) (by exact (pe_c cK hr (by decide) pass0 (by rfl) (pa_cons (pv 0) (pa_cons (pv 1) pa_nil)))))
      (pss_cons (ps_for PassesOwn.never rfl (pi_rangeA (by rfl) T.range (pa_cons (pe_op op_add (pv 1) pe_int) (pa_cons (pe_op op_add (pv 2) pe_int) pa_nil))) (pg_name (i := 4) scSafe.nd rfl (.inl rfl))
        (pss_cons (ps_set (i := 5) scSafe.nd rfl (.inr rfl) (by exact (pe_c cK hr (by decide) pass0 (by rfl) (pa_cons (pv 0) (pa_cons (pv 4) pa_nil)))))
        (pss_one (ps_setLc (i := 3) (tt := tTest (tOp (rIn K false) (tVar 6) (tVar 5))) (own := [("child", 6)]) (g := gName 6) rfl scSafe.nd rfl rfl (sw_true rfl rfl rfl (by decide +kernel)) (pi_list (pv 3))
          (blkOk_by (own := [("child", 6)]) (N := ["rhyme", "low", "high", "found", "n", "known", "child"]) (sc := defScope sSafe) (by decide +kernel)) (fun _ _ _ _ _ => pg_name (i := 6) scSafe.nd rfl (Or.inl rfl))
          (fun _ _ _ _ _ => by exact (pts_one (pt_cmpR op_in_seq (pv 6) (pv 5) (by rfl)))) (fun _ _ _ _ _ => by exact (pv 6))))))
      (pss_one (ps_ret (pv 3))))))), ?_⟩
    refine ⟨_, rfl, _, rfl, rh, left, rs, x, _, rfl, hR, px, fun hb => ?_, fun hb => kF (.inl hb)⟩
    obtain ⟨lo, rfl, l1, l2⟩ := betw_true hb
    refine ⟨_, rfl, _, rfl, _, rfl, _, _, rfl, rfl, _, _, rfl, y, lo, (if (10 : Int) ^ 30 < lo + 200 then 10 ^ 30 else lo + 200), rfl, py, _, rfl, ?_⟩
    cases e : betw y lo (if (10 : Int) ^ 30 < lo + 200 then 10 ^ 30 else lo + 200) with
    | false => exact iteT (kF (.inr ⟨lo, rfl, e⟩))
    | true =>
      obtain ⟨hi, rfl, b1, b2⟩ := betw_true e
      have b3 : hi ≤ lo + 200 ∧ hi ≤ 10 ^ 30 := by
        by_cases c : (10 : Int) ^ 30 < lo + 200
        · rw [if_pos c] at b2; exact ⟨by omega, b2⟩
        · rw [if_neg c] at b2; exact ⟨b2, by omega⟩
      have kT := kT lo hi rfl rfl l1 l2 b1 b3.1 b3.2
      refine iteF ?_
      refine ⟨_, rfl, _, rfl, rh, left, lo, rs, rfl, hR, l1, fun H1 p1 s1 n1 hp1 => ?_⟩
      refine ⟨_, rfl, _, _, rfl, rfl, _, rfl, _, _, rfl, rfl, _, _, rfl, for_range (lo := lo + 1) (n := (hi + 1 - (lo + 1)).toNat)
        (fun i σ H' => ∃ (p : Addr) (v4 v5 : Option V), σ = [some (.ref rh), some (.int lo), some (.int hi), some (.ref p), v4, v5, none] ∧ Same H H' ∧ H p = none ∧ H' p = some (.lst ((saf rs left lo i).map V.int)))
        ⟨p1, none, none, rfl, s1, n1, hp1⟩ ?_ ?_⟩
      · rintro i σ H' hi' ⟨p, v4, v5, rfl, s, np, hp⟩
        refine ⟨_, rfl, _, rfl, rh, left, lo + 1 + i, rs, rfl, hR.same s, by omega, fun H2 p2 s2 n2 hp2 => ?_⟩
        have hp' : H2 p = some (.lst ((saf rs left lo i).map V.int)) := s2 _ _ hp
        have s02 : Same H H2 := s.trans s2
        have l3 := hR.l3
        have len := saf_len rs left lo i
        have en : lo + 1 + (i : Int) = lo + ((i + 1 : Nat) : Int) := by omega
        have mf : ∀ c, decide (c ∈ srt (raw rs left (lo + 1 + i))) = decide (c ∈ raw rs left (lo + ((i + 1 : Nat) : Int))) := fun c => by
          rw [en]; exact decide_eq_decide.mpr mem_srt
        refine ⟨_, rfl, p, rfl, ⟨_, SqL.of hp'⟩, fun D nD => lc_list (K := K) (a := p) (xs := (saf rs left lo i).map V.int)
          (fun j H' => Same H2 H' ∧ H' D = some (.lst ((((saf rs left lo i).take j).filter fun c => decide (c ∈ raw rs left (lo + ((i + 1 : Nat) : Int)))).map V.int)))
          ⟨same_new nD, upd_same⟩ (fun j H' _ ⟨s3, _⟩ => s3.seq (SqL.of hp')) ?_ ?_⟩
        · rintro j y' H3 hj ⟨s3, hD⟩
          obtain ⟨z, hz, rfl⟩ := item_of hj
          obtain ⟨f1, f2⟩ := filt_end (H := H2) hz (by omega) s3 nD hD
          refine ⟨rfl, _, rfl, _, rfl, p2, _, rfl, .inl (SqL.of (s3 _ _ hp2)), rfl, all_flat _, _, rfl, ?_⟩
          rw [if_neg Bool.false_ne_true, inV_int, mf]
          refine ite2 (fun c => ?_) fun c => ?_
          · obtain ⟨acc, g1, g2, g3, g4⟩ := f1 c
            exact ⟨_, rfl, acc, g1, g2, g3, g4⟩
          · exact ⟨s3, f2 (by simpa using c)⟩
        · rintro H3 ⟨s3, hD⟩
          rw [List.length_map, List.take_length] at hD
          exact ⟨D, _, _, rfl, s02.trans s3, s02.free nD, hD⟩
      · rintro σ H' ⟨p, v4, v5, rfl, s, np, hp⟩
        refine ⟨_, rfl, kT H' p s np ?_⟩
        have en : (hi + 1 - (lo + 1)).toNat = (hi - lo).toNat := by omega
        rw [← en]
        exact hp
end
end K06

set_option Elab.async false
set_option linter.all false
set_option maxRecDepth 100000
set_option maxHeartbeats 4000000
/-! enumerate(a tuple), walked. -/
namespace K06
open PySem PySem.Spec PyProof.Rows L2

theorem meets_enumerate_newB1 {v : Value} {o : Obj} {H : Heap → Prop} (B : Begins v o H) :
    Meets (Builtin.«enumerate.__new__» ⟨[.type "enumerate", v], []⟩) (fun _ R s => H s.heap ∧
      R (.ok (.ret (.ref (s.heap.push o).objs.size))) { s with heap := (s.heap.push o).push { cls := .type "enumerate", data := .fields #[.none, .bool false, .ref s.heap.objs.size, rawInt 0, .none, .none] } }) :=
  .of_wp fun prog w A R s h => by
    obtain ⟨hp, g, d, tk, os⟩ := s; obtain ⟨h1, h⟩ := h
    have hsub := sub_enumerate
    have q1 : ∀ {A' : Around} {E : Value → Shared → Prop} {Q : Value → Shared → Prop}, Q (.ref hp.objs.size) ⟨hp.push o, g, d, tk, os⟩ → wpAny (model prog w) A' (pyIter v) Q E ⟨hp, g, d, tk, os⟩ :=
      fun q => B.iter prog w _ _ ⟨hp, g, d, tk, os⟩ _ h1 q
    wp_walk using q1
    refine wpAny_stack_any fun st => wpAny_pure ?_
    split
    · rename_i c _ _ _ _ _
      cases (c == Value.type "enumerate")
      · wp_walk using q1
        exact ⟨_, rfl, h⟩
      · wp_walk using q1
        exact ⟨_, rfl, h⟩
    · wp_walk using q1
      exact ⟨_, rfl, h⟩
section
variable {prog : Program} {w : World} {A : Around} {E : Value → Shared → Prop} {s : Shared}
theorem enum_begins1 {v : Value} {o : Obj} {H : Heap → Prop} {Q : Value → Shared → Prop} (B : Begins v o H) (h1 : H s.heap)
    (h : ∀ h', IsEnum h' (s.heap.objs.size + 1) s.heap.objs.size 0 .none → h'.get? s.heap.objs.size = some o → h'.objs.size = s.heap.objs.size + 2 →
      (∀ b o, s.heap.get? b = some o → h'.get? b = some o) → Q (.ref (s.heap.objs.size + 1)) { s with heap := h' }) :
    wpAny (model prog w) A (call (.type "enumerate") [v]) Q E s := by
  refine callType_new F.called_enumerate (by decide) (F.typeCall_enumerate_1 _) (F.newCall_enumerate_1 _) (fun obj => F.args_object_init_2 obj _) F.entry_enumerate_new
    (meets_enumerate_newB1 B) ⟨h1, ?_⟩
  have hz : (s.heap.push o).objs.size = s.heap.objs.size + 1 := Heap.size_push ..
  show _ ∧ _
  rw [hz]
  have he : IsEnum ((s.heap.push o).push { cls := .type "enumerate", data := .fields #[.none, .bool false, .ref s.heap.objs.size, rawInt 0, .none, .none] }) (s.heap.objs.size + 1) s.heap.objs.size 0 .none := by
    have := Heap.get?_push_size (s.heap.push o) (o := { cls := .type "enumerate", data := .fields #[.none, .bool false, .ref s.heap.objs.size, rawInt 0, .none, .none] }) rfl
    rw [hz] at this; exact this
  refine ⟨⟨_, he, rfl⟩, h _ he (Heap.get?_push_of_some _ (Heap.get?_push_size _ B.free)) (by rw [Heap.size_push, hz]) fun b o x => Heap.get?_push_of_some _ (Heap.get?_push_of_some _ x)⟩
end

/-- the tuple at a, each item in a new pair -/
def IteT (K : PySem.W.Frag) (a : Addr) : It :=
  ⟨fun i H => ∃ (xs : List V) (x : V), SqT K H a xs ∧ xs[i]? = some x, fun i H v H' => ∃ T x, v = .ref T ∧ H T = none ∧ H' = upd H T (.tup [.int (i : Nat), x]) ∧ ∀ xs, SqT K H a xs → xs[i]? = some x, fun i H => ∃ xs : List V, SqT K H a xs ∧ xs.length = i⟩
theorem turn_enumT {P : Program} {w : World} {K : PySem.W.Frag} {elts : List Expr} {kk : Nat} {tpos : Pos} (a e it : Addr) :
    Turn P w K (.Tuple elts kk tpos) (IteT K a) [e, it] e (fun i h => (∃ old, IsEnum h e it ((i : Nat) : Int) old) ∧ h.IsTupleIter it a i ∧ e ≠ it) where
  mem := by simp
  obj := fun i h st b hb => by
    obtain ⟨⟨old, he⟩, ⟨o, ho, hc, hd⟩, _⟩ := st
    have e' : b = e ∨ b = it := by simpa using hb
    rcases e' with z | z
    · rw [z]; exact ⟨_, he, fun v q => nomatch q⟩
    · rw [z]; exact ⟨o, ho, fun v q => by rw [hd] at q; cases q⟩
  keep := fun i h h' st k => let ⟨⟨old, he⟩, hi, hne⟩ := st; ⟨⟨old, k e (by simp) _ he⟩, hi.at fun o q => k it (by simp) o q, hne⟩
  item := by
    intro X hP hw hK hc i pins s σ H E I hf st hg
    subst hP hw hK
    obtain ⟨⟨old, he⟩, hit, hne⟩ := st
    obtain ⟨xs, x, hq, hx⟩ := hg
    obtain ⟨its, rv, p, hz⟩ := I.tuple hq
    obtain ⟨u, hu, ru⟩ := rv.get hx
    have hel : e < s.heap.objs.size := Heap.lt_size he
    have hil : it < s.heap.objs.size := by obtain ⟨_, q, _⟩ := hit; exact Heap.lt_size q
    have hait : a ≠ it := fun z => by
      obtain ⟨o1, e1, c1, _⟩ := p
      obtain ⟨o2, e2, c2, _⟩ := hit
      rw [z, e2] at e1; cases e1
      rw [c1] at c2
      exact absurd c2 (by decide)
    have hae : e ≠ a := fun z => by
      obtain ⟨o1, e1, c1, _⟩ := p
      rw [← z, he] at e1; cases e1
      exact absurd (show Value.type "enumerate" = .type "tuple" from c1) (by decide)
    have hlt : i < its.toArray.size := by
      have := (List.getElem?_eq_some_iff.mp hu).1
      simpa using this
    refine wpAny_pyNext_enum_itemD (Draws.tuple (A := X.A.in1) (I.ok.hd hc) it a hait its.toArray) he ⟨hit, p⟩ hlt hne (by simp [hne, hae]) fun x' h' tk hP ho hst' hT hsz hk => ?_
    have ex : x' = u := by
      have h1 : its.toArray[i]? = some x' := hP
      have h2 : its.toArray[i]? = some u := by simpa using hu
      rw [h1] at h2
      exact Option.some.inj h2
    subst ex
    obtain ⟨hit', p'⟩ := hst'
    refine ⟨_, rfl, wpAny_letOwnedTupleGo_enum (s := { s with heap := h', toks := tk + 1 }) ho fun h'' he' sb => ?_⟩
    have hT2 : h''.get? s.heap.objs.size = some { cls := .type "tuple", data := .seq #[.int i tk, x'] } := (sb.2 _ (Nat.ne_of_gt hel)).trans hT
    have new : ObjOk X.prog X.w (upd H s.heap.objs.size (.tup [.int (i : Nat), x])) h'' s.heap.objs.size (.tup [.int (i : Nat), x]) :=
      ⟨by show 2 ≤ sizeLine; decide, [.int i tk, x'], .cons ⟨_, rfl⟩ (.cons ru .nil), ⟨_, hT2, rfl, _, rfl⟩⟩
    have I1 : Inv X pins σ (upd H s.heap.objs.size (.tup [.int (i : Nat), x])) { s with heap := h'', toks := tk + 1 } :=
      I.turnedNew (ch := [e, it]) (fun b ob hb q => (sb.2 b (fun z => hb (by simp [z]))).trans (hk b ob (fun z => hb (by simp [z])) (fun z => hb (by simp [z])) q)) hf (Nat.le_refl _) new
    refine ⟨.ref s.heap.objs.size, _, I1, rfl, ⟨_, x, rfl, I.hok.fresh (Nat.le_refl _), rfl, fun ys hy => by rw [I.tuple_inj hy hq]; exact hx⟩, ⟨⟨x', ?_⟩, hit'.at fun o q => (sb.2 it (Ne.symm hne)).trans q, hne⟩, fun b hb => ?_⟩
    · have e1 : ((i + 1 : Nat) : Int) = (i : Int) + 1 := by omega
      rw [e1]; exact he'
    · have hb' : b < s.heap.objs.size := by
        have e' : b = e ∨ b = it := by simpa using hb
        rcases e' with z | z
        · rw [z]; exact hel
        · rw [z]; exact hil
      rw [upd_ne (Nat.ne_of_lt hb')]
      exact (hf b hb).1
  done := by
    intro X hP hw hK hc i pins s σ H E I hf st hg
    subst hP hw hK
    obtain ⟨⟨old, he⟩, hit, hne⟩ := st
    obtain ⟨xs, hq, hx⟩ := hg
    obtain ⟨its, rv, p, hz⟩ := I.tuple hq
    obtain ⟨f0, f1, f2, f3, f4, f5⟩ := hf it (by simp)
    have hl : i = its.toArray.size := by rw [← hx, rv.length]; simp
    have hait : a ≠ it := fun z => by
      obtain ⟨o1, e1, c1, _⟩ := p
      obtain ⟨o2, e2, c2, _⟩ := hit
      rw [z, e2] at e1; cases e1
      rw [c1] at c2
      exact absurd c2 (by decide)
    refine wpAny_pyNext_enum_endD (Draws.tuple (A := X.A.in1) (I.ok.hd hc) it a hait its.toArray) he ⟨by rw [← hl]; exact hit, p⟩ fun h' eb => ⟨rfl, I.turned (t' := s.toks) (fun b o hb q => eb b o hb q) f0 f1 f3 f4 f5⟩
  self := fun A i s Q E st h => let ⟨⟨_, he⟩, _⟩ := st; wpAny_pyIter_enum he h
def iEnumT (K : PySem.W.Frag) (ta : TA) : TI := fun σ H R => ta σ H fun vs H1 => ∃ a xs, vs = [.ref a] ∧ SqT K H1 a xs ∧ R (IteT K a) H1
theorem pi_enumT {X : Cx} {e : Expr} {ta : TA} {p pos tpos : Pos} {elts : List Expr} {kk : Nat} (hg : Gl X "enumerate") (hm : X.mg "enumerate" = none) (ha : PA X [e] ta) (hs : starEach [e] X.env = [(false, eval e X.env)] := by rfl) :
    PI X (.Tuple elts kk tpos) (.Call (.Name "enumerate" p) [e] [] pos) (iEnumT X.K ta) := by
  refine ⟨fun pins s σ H R I h => ?_⟩
  refine Call_ (ld_blt I hg hm boot_enumerate (PyProof.Rows.callWith_type1 (thn (ha.run pos pins s σ H _ I h) fun us s1 ⟨vs, H1, I1, r1, q1⟩ => ?_) hs rfl))
  obtain ⟨a, xs, ex, hq, q⟩ := q1
  subst ex
  cases r1 with
  | cons r rr =>
    cases rr
    cases r
    obtain ⟨its, rv, p', hz⟩ := I1.tuple hq
    refine enum_begins1 (begins_tuple a its.toArray) p' fun h' he hit hsz hk => wpAny_pyIter_enum he ?_
    have I2 : Inv X pins σ H1 { s1 with heap := h' } := I1.kept (t' := s1.toks) hk
    refine ⟨s1.heap.objs.size + 1, [s1.heap.objs.size + 1, s1.heap.objs.size], _, _, H1, rfl, I2, turn_enumT a (s1.heap.objs.size + 1) s1.heap.objs.size, ⟨⟨.none, he⟩, ⟨_, hit, rfl, rfl⟩, Nat.succ_ne_self _⟩, fun b hb => ?_, q⟩
    have e' : b = s1.heap.objs.size + 1 ∨ b = s1.heap.objs.size := by simpa using hb
    have hle : s1.heap.objs.size ≤ b := by
      rcases e' with z | z
      · rw [z]; exact Nat.le_add_right _ _
      · rw [z]; exact Nat.le_refl _
    exact I1.fpOk hle (I1.hok.fresh hle)
theorem walk_enumT {K : PySem.W.Frag} {a : Addr} {xs : List V} : Walk (IteT K a) xs.length (fun H => SqT K H a xs) (YPair (fun i => some (.int (i : Nat))) (fun i => xs[i]?)) := by
  refine ⟨fun i _ hi q => ⟨xs, xs[i], q, by simp [hi]⟩, fun _ q => ⟨xs, q, rfl⟩, fun i H v H' _ q y => ?_⟩
  obtain ⟨T, x, h1, h2, h3, h4⟩ := y
  exact ⟨T, .int (i : Nat), x, h1, h2, h3, rfl, h4 xs q⟩
end K06

set_option Elab.async false
set_option linter.all false
set_option maxRecDepth 100000
set_option maxHeartbeats 4000000
/-! is_verse, Rhyme.__init__. -/
namespace K06
open PySem PySem.Spec PyProof.Rows L2

def wayS (b : Bool) : Str := if b then "on" else "back"
/-- what a verse brings -/
def rise (v : Bool × Int) : Int := if v.1 then v.2 else 1 - v.2
/-- the verses at vt -/
structure VsAt (H : Hp) (vt : Addr) (vs : List (Bool × Int)) : Prop where
  ob : ∃ refs : List Addr, H vt = some (.tup (refs.map V.ref)) ∧ refs.length = vs.length ∧ ∀ (i : Nat) (v : Bool × Int), vs[i]? = some v → ∃ r, refs[i]? = some r ∧ H r = some (.tup [.str (wayS v.1), .int v.2])
  l1 : 1 ≤ vs.length
  l4 : vs.length ≤ 4
  ok : ∀ v ∈ vs, 1 ≤ v.2 ∧ v.2 ≤ 6
theorem VsAt.same {H H' : Hp} {vt : Addr} {vs : List (Bool × Int)} (h : VsAt H vt vs) (s : ∀ b xs, H b = some (.tup xs) → H' b = some (.tup xs)) : VsAt H' vt vs := by
  obtain ⟨refs, h1, h2, h3⟩ := h.ob
  exact ⟨⟨refs, s _ _ h1, h2, fun i v e => let ⟨r, a, b⟩ := h3 i v e; ⟨r, a, s _ _ b⟩⟩, h.l1, h.l4, h.ok⟩
theorem rises_ok {H : Hp} {vt : Addr} {vs : List (Bool × Int)} (h : VsAt H vt vs) : Rises (vs.map rise) := by
  refine ⟨by rw [List.length_map]; exact h.l1, by rw [List.length_map]; exact h.l4, fun r hr => ?_⟩
  obtain ⟨v, hv, rfl⟩ := List.mem_map.mp hr
  have := h.ok v hv
  unfold rise
  split <;> omega
theorem in_ways (b : Bool) : inV (.str (wayS b)) [.str "on", .str "back"] = true := by cases b <;> decide +kernel
theorem way_on (b : Bool) : decide (V.str (wayS b) = V.str "on") = b := by cases b <;> decide +kernel

section
variable {P : Program} {w : World} {K : PySem.W.Frag} {mg : Str → Option Value} {base : Heap} {C CB : Addr}
/-! ### is_verse -/
def spVerse : Sp := fun vs H Q _ => ∃ (a : Addr) (v : Bool × Int), vs = [.ref a] ∧ H a = some (.tup [.str (wayS v.1), .int v.2]) ∧ 1 ≤ v.2 ∧ v.2 ≤ 6 ∧ ∀ H', Same H H' → Q (.bl true) H'
theorem scVerse : FnScope ["value"] ["value"] (defScope sVerse) := ⟨rfl, rfl, rfl, by decide +kernel, rfl, by decide +kernel, by decide +kernel⟩
theorem ok_verse (F : DefF K mg "is_verse" sVerse ["value"]) (T : Txt K mg C CB) (cB : Cal CX0 P w K mg base 1 "is_between" spBetween []) : Cal CX0 P w K mg base 2 "is_verse" spVerse [] := by
  refine cal0 F scVerse (fun vs H Q E h => ?_) (fun f cdv A outer s H vs Q E hr h => ?_)
  · obtain ⟨a, v, rfl, _⟩ := h
    rfl
  · obtain ⟨a, v, rfl, ha, h1, h6, k⟩ := h
    obtain ⟨tO, gO⟩ := T.gON
    obtain ⟨tB, gB⟩ := T.gBACK
    obtain ⟨tC, gC⟩ := T.gCount
    refine ⟨_, pss_cons (ps_if (PW.pt (pw_or (pt_not (pt_val (pe_callB call_isi rfl T.isinstance boot_isinstance (pa_cons (pv 0) (pa_cons (pe_ty rfl T.tuple boot_tuple) pa_nil)))))
        (pw_or (pt_cmpR op_ne (pe_callB call_len_seq (by rfl) T.len boot_len (pa_cons (pv 0) pa_nil)) pe_int (nomark _))
        (pw_or1 (pt_not (pt_val (pe_callB call_isi rfl T.isinstance boot_isinstance (pa_cons (pe_ix ix_tup (pv 0) pe_int (fun _ _ => rfl)) (pa_cons (pe_ty rfl T.str boot_str) pa_nil)))))))))
        (pss_one (ps_ret pe_bl)) pss_nil)
      (pss_one (ps_ret (pe_and (pe_cmpR op_in_seq (pe_ix ix_tup (pv 0) pe_int (fun _ _ => rfl)) (pe_tup (pa_cons (pe_glob (v := .str "on") (by rfl) gO ⟨_, rfl⟩) (pa_cons (pe_glob (v := .str "back") (by rfl) gB ⟨_, rfl⟩) pa_nil))) (by rfl))
        (pe_one (pe_c cB hr (by decide) pass0 (by rfl) (pa_cons (pe_ix ix_tup (pv 0) pe_int (fun _ _ => rfl)) (pa_cons pe_int (pa_cons (pe_glob (v := .int 6) (by rfl) gC ⟨_, rfl⟩) pa_nil)))))))), ?_⟩
    refine ⟨_, rfl, _, _, _, _, true, rfl, .ty _, .base (.tup ha), kit_ty (by decide +kernel), _, rfl, iteF ?_⟩
    refine ⟨_, rfl, a, _, rfl, .inr (SqT.of ha), rfl, _, rfl, iteF ?_⟩
    refine ⟨_, rfl, a, _, _, _, rfl, rfl, SqT.of ha, at_of (j := 0) rfl rfl, _, _, _, _, true, rfl, .ty _, .base (.str _), kit_ty (by decide +kernel), _, rfl, iteF ?_⟩
    refine ⟨_, rfl, a, _, _, _, rfl, rfl, SqT.of ha, at_of (j := 0) rfl rfl, (by show 2 ≤ sizeLine; decide), fun p np => ?_⟩
    refine ⟨p, _, rfl, .inr (SqT.of upd_same), rfl, rfl, _, rfl, ?_⟩
    rw [if_neg Bool.false_ne_true, in_ways]
    refine iteT ?_
    have ap : a ≠ p := ne_of_none ha np
    refine ⟨_, rfl, a, _, _, _, rfl, rfl, SqT.of (by rw [upd_ne ap]; exact ha), at_of (j := 1) rfl rfl, .int v.2, 1, 6, rfl, trivial, ?_⟩
    have e : betw (.int v.2) 1 6 = true := decide_eq_true ⟨h1, h6⟩
    rw [e]
    exact k _ (same_new np)

/-! ### Rhyme.__init__ -/
def spInit (C : Addr) : Sp := fun vs H Q _ => ∃ (x dx vt : Addr) (ws : List (Bool × Int)) (left : Nat), vs = [.ref x, .ref vt, .int left] ∧ H x = some (.ins C dx []) ∧ VsAt H vt ws ∧ 1 ≤ left ∧ left ≤ 3 ∧
  ∀ H', RhAt C H' x left (ws.map rise) → (∀ b o, H b = some o → b ≠ x → H' b = some o) → Q .non H'
theorem scInit : FnScope ["self", "verses", "left", "index", "verse", "way", "count"] ["self", "verses", "left"] (defScope sInit) := ⟨rfl, rfl, rfl, by decide +kernel, rfl, by decide +kernel, by decide +kernel⟩
theorem flds_new (vt rt : Addr) (left : Int) : putF "rises" (.ref rt) (putF "own_left" (.int left) (putF "own_verses" (.ref vt) [])) = flds vt rt left := by
  have e1 : ¬ (("own_verses" : Str) = "own_left") := by decide +kernel
  have e2 : ¬ (("own_verses" : Str) = "rises") := by decide +kernel
  have e3 : ¬ (("own_left" : Str) = "rises") := by decide +kernel
  show putF "rises" (.ref rt) (putF "own_left" (.int left) [(("own_verses" : Str), V.ref vt)]) = _
  rw [put_past e1]
  show putF "rises" (.ref rt) [(("own_verses" : Str), V.ref vt), (("own_left" : Str), V.int left)] = _
  rw [put_past e2, put_past e3]
  rfl
theorem flds2_len (vt : Addr) (left : Int) : (putF "own_left" (.int left) (putF "own_verses" (.ref vt) [])).length < 1000 := by
  have e1 : ¬ (("own_verses" : Str) = "own_left") := by decide +kernel
  show (putF "own_left" (.int left) [(("own_verses" : Str), V.ref vt)]).length < 1000
  rw [put_past e1]
  show 2 < 1000
  decide
theorem ok_init {f : Addr} {fd : FuncData} (F : Fun K "__init__" "Rhyme.__init__" sInit f fd) (T : Txt K mg C CB) (cV : Cal CX0 P w K mg base 2 "is_verse" spVerse []) (cB : Cal CX0 P w K mg base 1 "is_between" spBetween []) :
    FnOk P w K mg base CX0 3 f fd ["self", "verses", "left"] (spInit C) := by
  refine F.ok scInit (fun vs H Q E h => ?_) (fun cdv A outer s H vs Q E hr h => ?_)
  · obtain ⟨x, dx, vt, ws, left, rfl, _⟩ := h
    rfl
  · obtain ⟨x, dx, vt, ws, left, rfl, hx, hV, l1, l3, k⟩ := h
    obtain ⟨tO, gO⟩ := T.gON
    obtain ⟨tV, gV⟩ := T.gVerses
    obtain ⟨tL, gL⟩ := T.gLeft
    refine ⟨_, pss_cons (ps_if (PW.pt (pw_or (pt_not (pt_val (pe_callB call_isi rfl T.isinstance boot_isinstance (pa_cons (pv 1) (pa_cons (pe_ty rfl T.tuple boot_tuple) pa_nil)))))
        (pw_or1 (pt_not (pt_chain op_le op_le pe_int (pe_callB call_len_seq (by rfl) T.len boot_len (pa_cons (pv 1) pa_nil)) (pe_glob (v := .int 4) (by rfl) gV ⟨_, rfl⟩))))))
        pss_never pss_nil)
      (pss_cons (ps_for PassesOwn.never rfl (pi_enumT (by rfl) T.enumerate (pa_cons (pv 1) pa_nil))
          (pg_tup rfl (pgs_cons (pg_name (i := 3) scInit.nd rfl (.inl rfl)) (pgs_cons (pg_name (i := 4) scInit.nd rfl (.inl rfl)) pgs_nil)))
        (pss_one (ps_if (pt_not (pt_val (pe_c cV hr (by decide) pass0 (by rfl) (pa_cons (pv 4) pa_nil)))) pss_never pss_nil)))
      (pss_cons (ps_if (pt_not (pt_val (pe_c cB hr (by decide) pass0 (by rfl) (pa_cons (pv 2) (pa_cons pe_int (pa_cons (pe_glob (v := .int 3) (by rfl) gL ⟨_, rfl⟩) pa_nil)))))) pss_never pss_nil)
      (pss_cons (ps_fld (pv 0) (pv 1) rfl)
      (pss_cons (ps_fld (pv 0) (pv 2) rfl)
      (pss_one (ps_fld (pv 0) (pe_callTy call_tuple_of (by rfl) T.tuple boot_tuple (pa_cons
        (pe_lc (te := tIf (tTest (tOp rEq (tVar 5) (tC (.str "on")))) (tVar 6) (tOp rSub (tC (.int 1)) (tVar 6))) (own := [("way", 5), ("count", 6)]) (g := gTup K 2 (gCons (gName 5) (gCons (gName 6) gNil))) (tt := tYes) rfl scInit.nd (pi_tup (pv 1))
          (blkOk_by (own := [("way", 5), ("count", 6)]) (N := ["self", "verses", "left", "index", "verse", "way", "count"]) (sc := defScope sInit) (by decide +kernel))
          (fun _ _ _ _ _ => by exact (pg_tup rfl (pgs_cons (pg_name (i := 5) scInit.nd rfl (.inl rfl)) (pgs_cons (pg_name (i := 6) scInit.nd rfl (.inl rfl)) pgs_nil)))) (fun _ _ _ _ _ => pts_nil)
          (fun _ _ _ _ _ => by exact (pe_ifExp (pt_cmpR op_eq (pv 5) (pe_glob (v := .str "on") (by rfl) gO ⟨_, rfl⟩) (nomark _)) (pv 6) (pe_op op_sub pe_int (pv 6)))))
        pa_nil)) rfl)))))), ?_⟩
    obtain ⟨refs, r1, r2, r3⟩ := hV.ob
    have xt : x ≠ vt := ne_of hx r1 (by intro z; cases z)
    have hl : (refs.map V.ref).length = ws.length := by rw [List.length_map, r2]
    have w1 := hV.l1
    have w4 := hV.l4
    -- the first test
    refine ⟨_, rfl, _, _, _, _, true, rfl, .ty _, .base (.tup r1), kit_ty (by decide +kernel), _, rfl, iteF ?_⟩
    refine ⟨_, rfl, vt, _, rfl, .inr (SqT.of r1), _, _, rfl, rfl, _, rfl, ?_⟩
    rw [hl, if_pos (decide_eq_true (by omega))]
    refine ⟨_, _, rfl, rfl, _, rfl, ?_⟩
    rw [decide_eq_true (show ((ws.length : Nat) : Int) ≤ 4 by omega)]
    refine iteF ?_
    -- the verses
    refine ⟨_, rfl, vt, _, rfl, SqT.of r1, for_it (walk_enumT (K := K) (a := vt) (xs := refs.map V.ref))
      (fun i σ H' => ∃ u v : Option V, σ = [some (.ref x), some (.ref vt), some (.int left), u, v, none, none] ∧ Same H H') ⟨none, none, rfl, Same.refl H⟩ (fun i σ H' _ ⟨_, _, _, s⟩ => SqT.of (s _ _ r1)) ?_ ?_⟩
    · rintro i y σ H' H'' hi ⟨u, v, rfl, s⟩ ⟨t, x1, x2, rfl, nt, rfl, e1, e2⟩
      cases e1
      rw [hl] at hi
      obtain ⟨r, e3, e4⟩ := r3 i ws[i] (List.getElem?_eq_getElem hi)
      have e2 : (refs.map V.ref)[i]? = some x2 := e2
      rw [List.getElem?_map, e3] at e2
      cases e2
      obtain ⟨o1, o6⟩ := hV.ok ws[i] (List.getElem_mem hi)
      have s' : Same H (upd H' t (.tup [.int (i : Nat), .ref r])) := s.trans (same_new nt)
      refine ⟨t, _, rfl, SqT.of upd_same, rfl, _, _, rfl, _, _, rfl, rfl, ?_⟩
      exact ⟨_, rfl, r, ws[i], rfl, s' _ _ e4, o1, o6, fun H2 s2 => ⟨_, rfl, iteF ⟨some (.int (i : Nat)), some (.ref r), rfl, s'.trans s2⟩⟩⟩
    · rintro σ H' ⟨u, v, rfl, s⟩
      -- left
      refine ⟨_, rfl, .int (left : Int), 1, 3, rfl, trivial, _, rfl, ?_⟩
      have e : betw (.int (left : Int)) 1 3 = true := decide_eq_true ⟨by omega, by omega⟩
      rw [e]
      refine iteF ?_
      -- the attributes
      refine ⟨_, rfl, _, rfl, x, C, dx, _, rfl, s _ _ hx, T.cl, T.nV, (by show 0 < 1000; decide), ?_⟩
      refine ⟨_, rfl, _, rfl, x, C, dx, _, rfl, upd_same, T.cl, T.nL, (by show 1 < 1000; decide), ?_⟩
      rw [upd_upd]
      have hvt : ∀ o, upd H' x o vt = some (.tup (refs.map V.ref)) := fun o => by rw [upd_ne (Ne.symm xt)]; exact s _ _ r1
      refine ⟨_, rfl, vt, rfl, ⟨_, SqT.of (hvt _)⟩, fun D nD => lc_tup (K := K) (a := vt) (xs := refs.map V.ref)
        (fun i H2 => Same (upd H' x (.ins C dx (putF "own_left" (.int left) (putF "own_verses" (.ref vt) [])))) H2 ∧ H2 D = some (.lst (((ws.take i).map rise).map V.int)))
        ⟨same_new nD, upd_same⟩ (fun i H2 _ ⟨s2, _⟩ => SqT.of (s2 _ _ (hvt _))) ?_ ?_⟩
      · rintro i y H2 hi ⟨s2, hD⟩
        have hi' : i < ws.length := by rw [← hl]; exact (List.getElem?_eq_some_iff.mp hi).1
        have hw : ws[i]? = some ws[i] := List.getElem?_eq_getElem hi'
        obtain ⟨r, e3, e4⟩ := r3 i ws[i] hw
        rw [List.getElem?_map, e3] at hi
        cases hi
        have xr : x ≠ r := ne_of hx e4 (by intro z; cases z)
        have e5 : H2 r = some (.tup [.str (wayS ws[i].1), .int ws[i].2]) := s2 _ _ (by rw [upd_ne (Ne.symm xr)]; exact s _ _ e4)
        refine ⟨r, _, rfl, SqT.of e5, rfl, _, _, rfl, _, _, rfl, rfl, rfl, yes_of (iteT ?_)⟩
        refine ⟨_, rfl, rfl, _, rfl, ?_⟩
        have fin : ∃ acc, H2 D = some (.lst acc) ∧ acc.length < sizeLine ∧ Same (upd H' x (.ins C dx (putF "own_left" (.int left) (putF "own_verses" (.ref vt) [])))) (upd H2 D (.lst (acc ++ [.int (rise ws[i])]))) ∧
            upd H2 D (.lst (acc ++ [.int (rise ws[i])])) D = some (.lst (((ws.take (i + 1)).map rise).map V.int)) := by
          refine ⟨_, hD, ?_, same_put s2 nD, ?_⟩
          · rw [List.length_map, List.length_map, List.length_take]
            exact small1000 (by omega)
          · rw [take_snoc hw, List.map_append, List.map_append]
            exact upd_same
        rw [way_on]
        cases b : ws[i].1 with
        | true =>
          have er : rise ws[i] = ws[i].2 := by unfold rise; rw [b]; rfl
          rw [er] at fin
          exact iteT ⟨_, rfl, fin⟩
        | false =>
          have er : rise ws[i] = 1 - ws[i].2 := by unfold rise; rw [b]; rfl
          rw [er] at fin
          exact iteF ⟨_, rfl, _, _, rfl, rfl, fin⟩
      · rintro H2 ⟨s2, hD⟩
        rw [List.length_map, r2, List.take_length] at hD
        refine ⟨D, _, rfl, .inl ⟨SqL.of hD, fun rt nrt => ?_⟩⟩
        have hx2 : H2 x = some (.ins C dx (putF "own_left" (.int left) (putF "own_verses" (.ref vt) []))) := s2 _ _ upd_same
        have xrt : x ≠ rt := ne_of_none hx2 nrt
        refine ⟨_, rfl, x, C, dx, _, rfl, (by rw [upd_ne xrt]; exact hx2), T.cl, T.nR, flds2_len vt left, ?_⟩
        refine k _ ⟨⟨dx, vt, rt, Eq.trans upd_same (congrArg (fun l => some (HO.ins C dx l)) (flds_new vt rt left)), ?_⟩, rises_ok hV, l1, l3⟩ fun b o e hb => ?_
        · rw [upd_ne (Ne.symm xrt)]
          exact upd_same
        · rw [upd_ne hb]
          have h2 : H2 b = some o := s2 _ _ (by rw [upd_ne hb]; exact s _ _ e)
          rw [upd_ne (ne_of_none h2 nrt)]
          exact h2
end
end K06

set_option Elab.async false
set_option linter.all false
set_option maxRecDepth 100000
set_option maxHeartbeats 4000000
/-! The law's source of numbers: _law_random, _law_below, _law_pick, _law_number, _law_great. -/
namespace K06
open PySem PySem.Spec PyProof.Rows L2

/-- the source of numbers at d -/
structure DOk (H : Hp) (d : Addr) : Prop where
  ob : ∃ (a b : Int) (r : List Int), H d = some (.lst ((a :: b :: r).map V.int)) ∧ 0 ≤ a ∧ a < 2147483647 ∧ 0 ≤ b ∧ (∀ z ∈ r, 0 ≤ z) ∧ r.length ≤ 64
/-- all but d as it was -/
def SameX (d : Addr) (H H' : Hp) : Prop := ∀ b o, b ≠ d → H b = some o → H' b = some o
theorem SameX.refl (d : Addr) (H : Hp) : SameX d H H := fun _ _ _ h => h
theorem SameX.trans {d : Addr} {H H1 H2 : Hp} (a : SameX d H H1) (b : SameX d H1 H2) : SameX d H H2 := fun c o n h => b c o n (a c o n h)
theorem Same.x {d : Addr} {H H' : Hp} (s : Same H H') : SameX d H H' := fun b o _ h => s b o h
theorem SameX.put {d : Addr} {H : Hp} {o : HO} : SameX d H (upd H d o) := fun b u n h => by rw [upd_ne n]; exact h
theorem DOk.same {H H' : Hp} {d : Addr} (h : DOk H d) (s : Same H H') : DOk H' d := by
  obtain ⟨a, b, r, e, q⟩ := h.ob
  exact ⟨⟨a, b, r, s _ _ e, q⟩⟩

section
variable {P : Program} {w : World} {K : PySem.W.Frag} {mg : Str → Option Value} {base : Heap} {C CB : Addr}
/-! ### _law_below -/
def spBelow : Sp := fun vs H Q _ => ∃ (d : Addr) (n : Int), vs = [.ref d, .int n] ∧ DOk H d ∧ 0 < n ∧ n < 1000 ∧ ∀ r H', 0 ≤ r → r < n → DOk H' d → SameX d H H' → Q (.int r) H'
theorem scBelow : FnScope ["_law_d", "_law_size", "_law_result"] ["_law_d", "_law_size"] (defScope sBelow) := ⟨rfl, rfl, rfl, by decide +kernel, rfl, by decide +kernel, by decide +kernel⟩
theorem ix1 {a b : Int} {r : List Int} : atI ((a :: b :: r).map V.int) 1 = some (.int b) := at_of (j := 1) rfl rfl
theorem ix0 {a b : Int} {r : List Int} : atI ((a :: b :: r).map V.int) 0 = some (.int a) := at_of (j := 0) rfl rfl
theorem ixn1 {a b : Int} {r : List Int} : ixN ((a :: b :: r).map V.int).length 1 = some 1 := by
  unfold ixN
  simp only [List.map_cons, List.length_cons]
  rw [if_pos (by decide), if_pos (by omega)]
  rfl
theorem ixn0 {a b : Int} {r : List Int} : ixN ((a :: b :: r).map V.int).length 0 = some 0 := by
  unfold ixN
  simp only [List.map_cons, List.length_cons]
  rw [if_pos (by decide), if_pos (by omega)]
  rfl
theorem eqv_int (a b : Int) : decide (V.int a = V.int b) = decide (a = b) := by
  by_cases c : a = b
  · rw [decide_eq_true c, decide_eq_true (congrArg V.int c)]
  · rw [decide_eq_false c, decide_eq_false fun z => c (V.int.inj z)]
theorem ok_below (F : DefF K mg "_law_below" sBelow ["_law_d", "_law_size"]) (T : Txt K mg C CB) : Cal CX0 P w K mg base 1 "_law_below" spBelow [] := by
  refine cal0 F scBelow (fun vs H Q E h => ?_) (fun f cdv A outer s H vs Q E hr h => ?_)
  · obtain ⟨d, n, rfl, _⟩ := h
    rfl
  · obtain ⟨d, n, rfl, hD, n0, n1, k⟩ := h
    refine ⟨_, C8.pss_cut (ps_if (PW.pt (pw_and (pt_cmpR op_eq (pe_ix ix_list (pv 0) pe_int (fun _ _ => rfl)) pe_int (nomark _))
        (pw_and1 (pt_cmpR op_gt (pe_callB call_len_seq (by rfl) T.len boot_len (pa_cons (pv 0) pa_nil)) pe_int (nomark _)))))
        (pss_one (ps_asg (pe_bm PySem.F.plainAttrs_list PySem.F.slot_list_pop PySem.F.type_list_pop mt_popAt (pv 0) (pa_cons pe_int pa_nil)) (pg_sub (pv 0) pe_int set_list))) pss_nil)
      (pss_cons (ps_if (pt_cmpR op_gt (pe_ix ix_list (pv 0) pe_int (fun _ _ => rfl)) pe_int (nomark _))
        (pss_cons (ps_set (i := 2) scBelow.nd rfl (.inl rfl) (pe_op op_mod (pe_callTy call_int1 (by rfl) T.int boot_int (pa_cons (pe_ix ix_list (pv 0) pe_int (fun _ _ => rfl)) pa_nil)) (pv 1)))
        (pss_cons (ps_asg (pe_op op_fdiv (pe_ix ix_list (pv 0) pe_int (fun _ _ => rfl)) (pv 1)) (pg_sub (pv 0) pe_int set_list))
        (pss_one (ps_ret (pv 2))))) pss_nil)
      (pss_cons (ps_asg (pe_op op_mod (pe_callTy call_int1 (by rfl) T.int boot_int (pa_cons (pe_op op_add (pe_op op_mul (pe_ix ix_list (pv 0) pe_int (fun _ _ => rfl)) pe_int) pe_int) pa_nil)) pe_int) (pg_sub (pv 0) pe_int set_list))
      (pss_one (ps_ret (pe_op op_mod (pe_callTy call_int1 (by rfl) T.int boot_int (pa_cons (pe_op op_fdiv (pe_ix ix_list (pv 0) pe_int (fun _ _ => rfl)) pe_int) pa_nil)) (pv 1)))))), ?_⟩
    obtain ⟨a, b, r, hd, a0, a1, b0, r0, rl⟩ := hD.ob
    refine ⟨fun σ' H' => σ' = [some (.ref d), some (.int n), none] ∧ DOk H' d ∧ SameX d H H', ?_, ?_⟩
    · refine ⟨_, rfl, d, _, _, _, rfl, rfl, SqL.of hd, ix1, rfl, _, rfl, ?_⟩
      rw [eqv_int]
      refine ite2 (fun c => ?_) fun c => iteF ⟨rfl, hD, SameX.refl _ _⟩
      refine ⟨_, rfl, d, _, rfl, .inl (SqL.of hd), _, _, rfl, rfl, _, rfl, ?_⟩
      rw [List.length_map]
      refine ite2 (fun c2 => ?_) fun c2 => ⟨rfl, hD, SameX.refl _ _⟩
      cases r with
      | nil => exact absurd (of_decide_eq_true c2) (by show ¬ (2 : Int) < ((2 : Nat) : Int); decide)
      | cons c' r' =>
        refine ⟨_, rfl, .inl ⟨rfl, _, SqL.of hd⟩, d, _, 2, 2, .int c', rfl, rfl, hd, by decide, by decide, ?_, rfl, ?_⟩
        · exact seqIndex_of (by decide) (by simp only [List.map_cons, List.length_cons]; omega)
        refine ⟨_, rfl, d, _, 1, 1, rfl, rfl, upd_same, ?_, ?_⟩
        · exact ixn1 (a := a) (b := b) (r := r')
        refine ⟨rfl, ⟨a, c', r', ?_, a0, a1, r0 c' (by simp), fun z hz => r0 z (by simp [hz]), ?_⟩, ?_⟩
        · rw [upd_upd]
          exact upd_same
        · simp only [List.length_cons] at rl; omega
        · rw [upd_upd]
          exact SameX.put
    · rintro σ' H' ⟨rfl, hD', sx⟩
      obtain ⟨a, b, r, hd, a0, a1, b0, r0, rl⟩ := hD'.ob
      refine ⟨_, rfl, d, _, _, _, rfl, rfl, SqL.of hd, ix1, _, _, rfl, rfl, _, rfl, ite2 (fun c => ?_) fun c => ?_⟩
      · refine ⟨_, rfl, d, _, _, _, rfl, rfl, SqL.of hd, ix1, .inl ⟨_, rfl, _, rfl, _, _, rfl, rfl, n0, ?_⟩⟩
        refine ⟨_, rfl, d, _, _, _, rfl, rfl, SqL.of hd, ix1, _, rfl, _, _, rfl, rfl, ⟨n0, by omega⟩, ?_⟩
        refine ⟨_, rfl, d, _, 1, 1, rfl, rfl, hd, ixn1, ?_⟩
        refine ⟨_, rfl, k (b % n) _ (Int.emod_nonneg _ (by omega)) (Int.emod_lt_of_pos _ n0) ⟨a, b / n, r, upd_same, a0, a1, Int.ediv_nonneg b0 (by omega), r0, rl⟩ (sx.trans SameX.put)⟩
      · refine ⟨_, rfl, d, _, _, _, rfl, rfl, SqL.of hd, ix0, _, _, rfl, rfl, .inr ⟨by decide, by decide⟩, _, _, rfl, rfl, .inl ⟨_, rfl, _, _, rfl, rfl, (by show (0 : Int) < 2147483647; decide), ?_⟩⟩
        refine ⟨_, rfl, d, _, 0, 0, rfl, rfl, hd, ixn0, ?_⟩
        refine ⟨_, rfl, d, _, _, _, rfl, rfl, SqL.of upd_same, ix0, _, _, rfl, rfl, ⟨by decide, by decide⟩, .inl ⟨_, rfl, _, rfl, _, _, rfl, rfl, n0, ?_⟩⟩
        exact k _ _ (Int.emod_nonneg _ (by omega)) (Int.emod_lt_of_pos _ n0) ⟨_, b, r, upd_same, Int.emod_nonneg _ (by decide), Int.emod_lt_of_pos _ (by decide), b0, r0, rl⟩ (sx.trans SameX.put)

/-! ### _law_pick -/
def spPick : Sp := fun vs H Q _ => ∃ (d p : Addr) (xs : List V), vs = [.ref d, .ref p] ∧ DOk H d ∧ d ≠ p ∧ H p = some (.lst xs) ∧ 0 < xs.length ∧ xs.length < 1000 ∧ ∀ (i : Nat) (v : V) (H' : Hp), xs[i]? = some v → DOk H' d → SameX d H H' → Q v H'
theorem scPick : FnScope ["_law_d", "_law_items"] ["_law_d", "_law_items"] (defScope sPick) := ⟨rfl, rfl, rfl, by decide +kernel, rfl, by decide +kernel, by decide +kernel⟩
theorem ok_pick (F : DefF K mg "_law_pick" sPick ["_law_d", "_law_items"]) (T : Txt K mg C CB) (cB : Cal CX0 P w K mg base 1 "_law_below" spBelow []) : Cal CX0 P w K mg base 2 "_law_pick" spPick [] := by
  refine cal0 F scPick (fun vs H Q E h => ?_) (fun f cdv A outer s H vs Q E hr h => ?_)
  · obtain ⟨d, p, xs, rfl, _⟩ := h
    rfl
  · obtain ⟨d, p, xs, rfl, hD, dp, hp, l0, l1, k⟩ := h
    refine ⟨_, pss_one (ps_ret (pe_ix ix_list (pv 1) (by exact (pe_c cB hr (by decide) pass0 (by rfl) (pa_cons (pv 0) (pa_cons (pe_callB call_len_seq (by rfl) T.len boot_len (pa_cons (pv 1) pa_nil)) pa_nil)))) (fun _ _ => rfl))), ?_⟩
    refine ⟨_, rfl, _, rfl, _, rfl, p, _, rfl, .inl (SqL.of hp), d, _, rfl, hD, by omega, by omega, fun r H' r0 r1 hD' sx => ?_⟩
    have hlt : r.toNat < xs.length := by omega
    exact ⟨p, xs, r, xs[r.toNat], rfl, rfl, SqL.of (sx _ _ (Ne.symm dp) hp), at_of (j := r.toNat) (by omega) (List.getElem?_eq_getElem hlt), k r.toNat _ H' (List.getElem?_eq_getElem hlt) hD' sx⟩
end
end K06

set_option Elab.async false
set_option linter.all false
set_option maxRecDepth 100000
set_option maxHeartbeats 4000000
/-! _law_number, _law_great, _law_random, _law_drawn, _law_made. -/
namespace K06
open PySem PySem.Spec PyProof.Rows L2

section
variable {P : Program} {w : World} {K : PySem.W.Frag} {mg : Str → Option Value} {base : Heap} {C CB : Addr}
/-! ### _law_number -/
def spNumber : Sp := fun vs H Q _ => ∃ (d t : Addr) (v0 : V) (left most : Int), vs = [.ref d, .ref t, .int most] ∧ DOk H d ∧ H t = some (.tup [v0, .int left]) ∧ left ≤ most ∧ most - left < 900 ∧
  ∀ r H', left ≤ r → r ≤ most → DOk H' d → SameX d H H' → Q (.int r) H'
theorem scNumber : FnScope ["_law_d", "_law_t", "_law_most"] ["_law_d", "_law_t", "_law_most"] (defScope sNumber) := ⟨rfl, rfl, rfl, by decide +kernel, rfl, by decide +kernel, by decide +kernel⟩
theorem ok_number (F : DefF K mg "_law_number" sNumber ["_law_d", "_law_t", "_law_most"]) (cB : Cal CX0 P w K mg base 1 "_law_below" spBelow []) : Cal CX0 P w K mg base 2 "_law_number" spNumber [] := by
  refine cal0 F scNumber (fun vs H Q E h => ?_) (fun f cdv A outer s H vs Q E hr h => ?_)
  · obtain ⟨d, t, v0, left, most, rfl, _⟩ := h
    rfl
  · obtain ⟨d, t, v0, left, most, rfl, hD, ht, l1, l2, k⟩ := h
    refine ⟨_, pss_one (ps_ret (pe_op op_add (pe_ix ix_tup (pv 1) pe_int (fun _ _ => rfl)) (pe_c cB hr (by decide) pass0 (by rfl) (pa_cons (pv 0) (pa_cons (pe_op op_add (pe_op op_sub (pv 2) (pe_ix ix_tup (pv 1) pe_int (fun _ _ => rfl))) pe_int) pa_nil))))), ?_⟩
    refine ⟨_, rfl, t, _, _, _, rfl, rfl, SqT.of ht, at_of (j := 1) rfl rfl, _, rfl, _, rfl, _, rfl, t, _, _, _, rfl, rfl, SqT.of ht, at_of (j := 1) rfl rfl, _, _, rfl, rfl, _, _, rfl, rfl, d, _, rfl, hD, by omega, by omega, fun r H' r0 r1 hD' sx => ?_⟩
    exact ⟨_, _, rfl, rfl, k _ _ (by omega) (by omega) hD' sx⟩
/-! ### _law_great -/
def spGreat : Sp := fun vs H Q _ => ∃ (d : Addr), vs = [.ref d] ∧ DOk H d ∧ ∀ (g : Int) H', 10 ^ 5 ≤ g → g ≤ 10 ^ 30 → DOk H' d → SameX d H H' → Q (.int g) H'
theorem scGreat : FnScope ["_law_d", "_law_power"] ["_law_d"] (defScope sGreat) := ⟨rfl, rfl, rfl, by decide +kernel, rfl, by decide +kernel, by decide +kernel⟩
theorem ok_great (F : DefF K mg "_law_great" sGreat ["_law_d"]) (cB : Cal CX0 P w K mg base 1 "_law_below" spBelow []) (cP : Cal CX0 P w K mg base 2 "_law_pick" spPick []) : Cal CX0 P w K mg base 3 "_law_great" spGreat [] := by
  refine cal0 F scGreat (fun vs H Q E h => ?_) (fun f cdv A outer s H vs Q E hr h => ?_)
  · obtain ⟨d, rfl, _⟩ := h
    rfl
  · obtain ⟨d, rfl, hD, k⟩ := h
    refine ⟨_, pss_cons (ps_set (i := 1) scGreat.nd rfl (.inl rfl) (by exact (pe_c cP hr (by decide) pass0 (by rfl) (pa_cons (pv 0) (pa_cons (pe_lst (pa_cons (pe_op op_pow pe_int pe_int) (pa_cons (pe_op op_pow pe_int pe_int) (pa_cons (pe_op op_pow pe_int pe_int) (pa_cons (pe_op op_pow pe_int pe_int)
        (pa_cons (pe_op op_sub (pe_op op_pow pe_int pe_int) pe_int) pa_nil)))))) pa_nil)))))
      (pss_one (ps_ret (pe_op op_add (pv 1) (pe_c cB hr (by decide) pass0 (by rfl) (pa_cons (pv 0) (pa_cons pe_int pa_nil)))))), ?_⟩
    refine ⟨_, rfl, _, _, rfl, rfl, ⟨by decide, by decide, by decide⟩, _, _, rfl, rfl, ⟨by decide, by decide, by decide⟩, _, _, rfl, rfl, ⟨by decide, by decide, by decide⟩, _, _, rfl, rfl, ⟨by decide, by decide, by decide⟩,
      _, _, rfl, rfl, ⟨by decide, by decide, by decide⟩, _, _, rfl, rfl, (by show 5 ≤ sizeLine; decide), fun p np => ?_⟩
    have hd : ∃ o, H d = some o := let ⟨_, _, _, e, _⟩ := hD.ob; ⟨_, e⟩
    obtain ⟨od, hd⟩ := hd
    refine ⟨d, p, _, rfl, hD.same (same_new np), ne_of_none hd np, upd_same, by decide, by decide, fun i v H1 hv D1 s1 => ?_⟩
    have hz : ∃ z : Int, v = .int z ∧ 10 ^ 5 ≤ z ∧ z ≤ 10 ^ 30 - 49 := by
      match i, hv with
      | 0, hv => cases hv; exact ⟨_, rfl, by decide, by decide⟩
      | 1, hv => cases hv; exact ⟨_, rfl, by decide, by decide⟩
      | 2, hv => cases hv; exact ⟨_, rfl, by decide, by decide⟩
      | 3, hv => cases hv; exact ⟨_, rfl, by decide, by decide⟩
      | 4, hv => cases hv; exact ⟨_, rfl, by decide, by decide⟩
      | n + 5, hv => cases hv
    obtain ⟨z, rfl, z1, z2⟩ := hz
    refine ⟨_, rfl, _, rfl, d, 50, rfl, D1, by decide, by decide, fun r H2 r0 r1 D2 s2 => ⟨_, _, rfl, rfl, ?_⟩⟩
    exact k _ _ (by omega) (by omega) D2 (((Same.x (same_new np)).trans s1).trans s2)
/-! ### _law_random -/
def spRandom (K : PySem.W.Frag) : Sp := fun vs H Q _ => ∃ (a : Addr) (ns : List Int) (salt : Int), vs = [.ref a, .int salt] ∧ SqL K H a (ns.map V.int) ∧ ns.length ≤ 63 ∧ 0 ≤ salt ∧ salt < 2147483647 ∧
  ∀ H' p, Same H H' → H p = none → DOk H' p → Q (.ref p) H'
theorem scRandom : FnScope ["_law_script", "_law_salt", "_law_seed", "_law_cell"] ["_law_script", "_law_salt"] (defScope sRandom) := ⟨rfl, rfl, rfl, by decide +kernel, rfl, by decide +kernel, by decide +kernel⟩
theorem ok_random (F : DefF K mg "_law_random" sRandom ["_law_script", "_law_salt"]) (T : Txt K mg C CB) : Cal CX0 P w K mg base 1 "_law_random" (spRandom K) [] := by
  refine cal0 F scRandom (fun vs H Q E h => ?_) (fun f cdv A outer s H vs Q E hr h => ?_)
  · obtain ⟨a, ns, salt, rfl, _⟩ := h
    rfl
  · obtain ⟨a, ns, salt, rfl, hS, hl, t0, t1, k⟩ := h
    refine ⟨_, pss_cons (ps_set (i := 2) scRandom.nd rfl (.inl rfl) (pv 1))
      (pss_cons (ps_for PassesOwn.never rfl (pi_list (pv 0)) (pg_name (i := 3) scRandom.nd rfl (.inl rfl))
        (pss_one (ps_set (i := 2) scRandom.nd rfl (.inl rfl) (pe_op op_mod (pe_callTy call_int1 (by rfl) T.int boot_int (pa_cons (pe_op op_add (pe_op op_mul (pv 2) pe_int) (pe_callB call_abs (by rfl) T.abs boot_abs (pa_cons (pv 3) pa_nil))) pa_nil)) pe_int))))
      (pss_one (ps_ret (pe_op op_cat (pe_lst (pa_cons (pv 2) (pa_cons pe_int pa_nil)))
        (pe_lc (own := [("_law_cell", 3)]) (g := gName 3) rfl scRandom.nd (pi_list (pv 0)) (blkOk_by (own := [("_law_cell", 3)]) (N := ["_law_script", "_law_salt", "_law_seed", "_law_cell"]) (sc := defScope sRandom) (by decide +kernel))
          (fun _ _ _ _ _ => pg_name (i := 3) scRandom.nd rfl (Or.inl rfl)) (fun _ _ _ _ _ => by exact (pts_one (pt_cmpR op_ge (pv 3) (pe_op op_pow pe_int pe_int) (nomark _)))) (fun _ _ _ _ _ => by exact (pv 3))))))), ?_⟩
    refine ⟨_, rfl, _, rfl, a, rfl, ⟨_, hS⟩, for_list (K := K) (a := a) (xs := ns.map V.int)
      (fun i σ H' => H' = H ∧ ∃ (z : Int) (v : Option V), σ = [some (.ref a), some (.int salt), some (.int z), v] ∧ 0 ≤ z ∧ z < 2147483647) ⟨rfl, salt, none, rfl, t0, t1⟩ (fun i σ H' _ ⟨e, _⟩ => by rw [e]; exact hS) ?_ ?_⟩
    · rintro i y σ H' hi ⟨rfl, z, v, rfl, z0, z1⟩
      obtain ⟨c, hc, rfl⟩ := item_of hi
      refine ⟨_, rfl, _, _, rfl, rfl, .inr ⟨by decide, by decide⟩, _, rfl, _, rfl, _, _, rfl, rfl, .inl ⟨_, rfl, _, _, rfl, rfl, (by show (0 : Int) < 2147483647; decide), ?_⟩⟩
      exact ⟨rfl, _, some (.int c), rfl, Int.emod_nonneg _ (by decide), Int.emod_lt_of_pos _ (by decide)⟩
    · rintro σ H' ⟨rfl, z, v, rfl, z0, z1⟩
      refine ⟨_, rfl, (by show 2 ≤ sizeLine; decide), fun q nq => ?_⟩
      refine ⟨_, rfl, a, rfl, ⟨_, (same_new nq).seq hS⟩, fun D nD => lc_list (K := K) (a := a) (xs := ns.map V.int)
        (fun i H2 => Same (upd H' q (.lst [.int z, .int 0])) H2 ∧ H2 D = some (.lst (((ns.take i).filter fun c => decide ((10 : Int) ^ 18 ≤ c)).map V.int)))
        ⟨same_new nD, upd_same⟩ (fun i H2 _ ⟨s2, _⟩ => s2.seq ((same_new nq).seq hS)) ?_ ?_⟩
      · rintro i y H2 hi ⟨s2, hD⟩
        obtain ⟨c, hc, rfl⟩ := item_of hi
        obtain ⟨f1, f2⟩ := filt_end (f := fun c => decide ((10 : Int) ^ 18 ≤ c)) hc (by omega) s2 nD hD
        refine ⟨rfl, _, rfl, _, _, rfl, rfl, ⟨by decide, by decide, by decide⟩, _, _, rfl, rfl, _, rfl, ?_⟩
        refine ite2 (fun c2 => ?_) fun c2 => ?_
        · obtain ⟨acc, g1, g2, g3, g4⟩ := f1 c2
          exact ⟨_, rfl, acc, g1, g2, g3, g4⟩
        · exact ⟨s2, f2 (by simpa using c2)⟩
      · rintro H2 ⟨s2, hD⟩
        rw [List.length_map, List.take_length] at hD
        have hq : H2 q = some (.lst [.int z, .int 0]) := s2 _ _ upd_same
        have hlen := List.length_filter_le (fun c => decide ((10 : Int) ^ 18 ≤ c)) ns
        refine ⟨q, D, _, _, rfl, rfl, hq, hD, ?_, fun p np => ?_⟩
        · rw [List.length_map]
          have := line1000
          show 2 + _ ≤ sizeLine
          omega
        have s02 : Same H' H2 := (same_new nq).trans s2
        refine k _ p (s02.trans (same_new np)) (s02.free np) ⟨z, 0, ns.filter fun c => decide ((10 : Int) ^ 18 ≤ c), upd_same, z0, z1, Int.le_refl _, fun y hy => ?_, by omega⟩
        have := of_decide_eq_true (List.mem_filter.mp hy).2
        have h2 : (0 : Int) ≤ 10 ^ 18 := by decide
        omega
/-! ### _law_drawn -/
/-- the pair (verses, left) at t -/
structure TAt (H : Hp) (t : Addr) (ws : List (Bool × Int)) (left : Nat) : Prop where
  ob : ∃ vt, H t = some (.tup [.ref vt, .int left]) ∧ VsAt H vt ws
  l1 : 1 ≤ left
  l3 : left ≤ 3
theorem tups_sx {H H' : Hp} {d : Addr} (h : DOk H d) (s : SameX d H H') : ∀ b xs, H b = some (.tup xs) → H' b = some (.tup xs) := fun b xs e => by
  obtain ⟨_, _, _, hd, _⟩ := h.ob
  exact s b _ (ne_of e hd (by intro z; cases z)) e
theorem TAt.mono {H H' : Hp} {t : Addr} {ws : List (Bool × Int)} {left : Nat} (h : TAt H t ws left) (s : ∀ b xs, H b = some (.tup xs) → H' b = some (.tup xs)) : TAt H' t ws left := by
  obtain ⟨vt, h1, h2⟩ := h.ob
  exact ⟨⟨vt, s _ _ h1, h2.same s⟩, h.l1, h.l3⟩
def spDrawn : Sp := fun vs H Q _ => ∃ (d : Addr), vs = [.ref d] ∧ DOk H d ∧ ∀ (t : Addr) (ws : List (Bool × Int)) (left : Nat) (H' : Hp), TAt H' t ws left → DOk H' d → SameX d H H' → Q (.ref t) H'
theorem scDrawn : FnScope ["_law_d", "_law_verses", "_law_k"] ["_law_d"] (defScope sDrawn) := ⟨rfl, rfl, rfl, by decide +kernel, rfl, by decide +kernel, by decide +kernel⟩
/-- the verses made so far -/
structure VRefs (H : Hp) (refs : List Addr) (ws : List (Bool × Int)) : Prop where
  len : refs.length = ws.length
  at_ : ∀ (i : Nat) (v : Bool × Int), ws[i]? = some v → ∃ r, refs[i]? = some r ∧ H r = some (.tup [.str (wayS v.1), .int v.2])
  ok : ∀ v ∈ ws, 1 ≤ v.2 ∧ v.2 ≤ 6
theorem VRefs.mono {H H' : Hp} {refs : List Addr} {ws : List (Bool × Int)} (h : VRefs H refs ws) (s : ∀ b xs, H b = some (.tup xs) → H' b = some (.tup xs)) : VRefs H' refs ws :=
  ⟨h.len, fun i v e => let ⟨r, a, b⟩ := h.at_ i v e; ⟨r, a, s _ _ b⟩, h.ok⟩
theorem VRefs.snoc {H : Hp} {refs : List Addr} {ws : List (Bool × Int)} {r : Addr} {v : Bool × Int} (h : VRefs H refs ws) (hr : H r = some (.tup [.str (wayS v.1), .int v.2])) (o : 1 ≤ v.2 ∧ v.2 ≤ 6) : VRefs H (refs ++ [r]) (ws ++ [v]) := by
  refine ⟨by rw [List.length_append, List.length_append, h.len]; rfl, fun i u e => ?_, fun u hu => ?_⟩
  · by_cases c : i < ws.length
    · rw [List.getElem?_append_left c] at e
      obtain ⟨q, a, b⟩ := h.at_ i u e
      exact ⟨q, by rw [List.getElem?_append_left (by rw [h.len]; exact c)]; exact a, b⟩
    · have hi : i = ws.length := by
        have := (List.getElem?_eq_some_iff.mp e).1
        rw [List.length_append] at this
        simp only [List.length_cons, List.length_nil] at this
        omega
      subst hi
      rw [List.getElem?_append_right (Nat.le_refl _), Nat.sub_self] at e
      cases e
      refine ⟨r, ?_, hr⟩
      rw [List.getElem?_append_right (by rw [h.len]; exact Nat.le_refl _), h.len, Nat.sub_self]
      rfl
  · rcases List.mem_append.mp hu with hu | hu
    · exact h.ok u hu
    · rw [List.mem_singleton.mp hu]; exact o
theorem ok_drawn (F : DefF K mg "_law_drawn" sDrawn ["_law_d"]) (T : Txt K mg C CB) (cB : Cal CX0 P w K mg base 1 "_law_below" spBelow []) (cP : Cal CX0 P w K mg base 2 "_law_pick" spPick []) : Cal CX0 P w K mg base 3 "_law_drawn" spDrawn [] := by
  refine cal0 F scDrawn (fun vs H Q E h => ?_) (fun f cdv A outer s H vs Q E hr h => ?_)
  · obtain ⟨d, rfl, _⟩ := h
    rfl
  · obtain ⟨d, rfl, hD, k⟩ := h
    refine ⟨_, pss_cons (ps_set (i := 1) scDrawn.nd rfl (.inl rfl) (pe_lst pa_nil))
      (pss_cons (ps_for PassesOwn.never rfl (pi_range1 rfl T.range (pa_cons (pe_op op_add pe_int (by exact (pe_c cB hr (by decide) pass0 (by rfl) (pa_cons (pv 0) (pa_cons pe_int pa_nil))))) pa_nil)) (pg_name (i := 2) scDrawn.nd rfl (.inl rfl))
        (pss_one (ps_expr (pe_bm PySem.F.plainAttrs_list PySem.F.slot_list_append PySem.F.type_list_append mt_append (pv 1) (pa_cons (pe_tup (pa_cons
          (pe_c cP hr (by decide) pass0 (by rfl) (pa_cons (pv 0) (pa_cons (pe_lst (pa_cons pe_str (pa_cons pe_str (pa_cons pe_str pa_nil)))) pa_nil)))
          (pa_cons (pe_op op_add pe_int (by exact (pe_c cB hr (by decide) pass0 (by rfl) (pa_cons (pv 0) (pa_cons pe_int pa_nil))))) pa_nil))) pa_nil)))))
      (pss_one (ps_ret (pe_tup (pa_cons (pe_callTy call_tuple_of (by rfl) T.tuple boot_tuple (pa_cons (pv 1) pa_nil)) (pa_cons (pe_op op_add pe_int (by exact (pe_c cB hr (by decide) pass0 (by rfl) (pa_cons (pv 0) (pa_cons pe_int pa_nil))))) pa_nil)))))), ?_⟩
    obtain ⟨da, db, dr, hd, _⟩ := hD.ob
    refine ⟨by decide, fun p np => ?_⟩
    have dp : d ≠ p := ne_of_none hd np
    refine ⟨_, rfl, d, 4, rfl, hD.same (same_new np), by decide, by decide, fun r H1 r0 r1 D1 s1 => ?_⟩
    refine ⟨_, _, rfl, rfl, _, rfl, by omega, by omega, for_range (lo := 0) (n := (1 + r).toNat)
      (fun i σ H' => ∃ (v : Option V) (refs : List Addr) (ws : List (Bool × Int)), σ = [some (.ref d), some (.ref p), v] ∧ DOk H' d ∧ SameX d H H' ∧ H' p = some (.lst (refs.map V.ref)) ∧ VRefs H' refs ws ∧ ws.length = i)
      ⟨none, [], [], rfl, D1, (Same.x (same_new np)).trans s1, s1 _ _ (Ne.symm dp) upd_same, ⟨rfl, fun i v e => by simp at e, fun v hv => by simp at hv⟩, rfl⟩ ?_ ?_⟩
    · rintro i σ H2 hi ⟨v, refs, ws, rfl, D2, s2, hp, hV, hw⟩
      refine ⟨_, rfl, .inl ⟨rfl, _, SqL.of hp⟩, _, rfl, (by show 3 ≤ sizeLine; decide), fun q nq => ?_⟩
      obtain ⟨_, _, _, hd2, _⟩ := D2.ob
      have dq : d ≠ q := ne_of_none hd2 nq
      refine ⟨d, q, _, rfl, D2.same (same_new nq), dq, upd_same, by decide, by decide, fun j y H3 hj D3 s3 => ?_⟩
      have hy : ∃ b, y = .str (wayS b) := by
        match j, hj with
        | 0, hj => cases hj; exact ⟨true, rfl⟩
        | 1, hj => cases hj; exact ⟨true, rfl⟩
        | 2, hj => cases hj; exact ⟨false, rfl⟩
        | n + 3, hj => cases hj
      obtain ⟨b, rfl⟩ := hy
      refine ⟨_, rfl, d, 6, rfl, D3, by decide, by decide, fun c H4 c0 c1 D4 s4 => ?_⟩
      refine ⟨_, _, rfl, rfl, (by show 2 ≤ sizeLine; decide), fun t nt => ?_⟩
      have s24 : SameX d H2 H4 := ((Same.x (same_new nq)).trans s3).trans s4
      have hp4 : H4 p = some (.lst (refs.map V.ref)) := s24 _ _ (Ne.symm dp) hp
      have pt : p ≠ t := ne_of_none hp4 nt
      have hp5 : upd H4 t (.tup [.str (wayS b), .int (1 + c)]) p = some (.lst (refs.map V.ref)) := by rw [upd_ne pt]; exact hp4
      have rl : refs.length = i := by rw [hV.len, hw]
      refine ⟨p, _, _, rfl, rfl, hp5, by rw [List.length_map]; exact small1000 (by omega), ?_⟩
      have V5 : VRefs (upd (upd H4 t (.tup [.str (wayS b), .int (1 + c)])) p (.lst (refs.map V.ref ++ [.ref t]))) (refs ++ [t]) (ws ++ [(b, 1 + c)]) := by
        refine VRefs.snoc (v := (b, 1 + c)) (hV.mono fun z xs e => ?_) ?_ ⟨by show 1 ≤ 1 + c; omega, by show 1 + c ≤ 6; omega⟩
        · have e4 : H4 z = some (.tup xs) := tups_sx D2 s24 z xs e
          rw [upd_ne (ne_of e4 hp4 (by intro q; cases q)), upd_ne (ne_of_none e4 nt)]
          exact e4
        · rw [upd_ne (Ne.symm pt)]
          exact upd_same
      refine ⟨some (.int (0 + i)), refs ++ [t], ws ++ [(b, 1 + c)], rfl, ?_, ?_, ?_, V5, by rw [List.length_append, hw]; rfl⟩
      · obtain ⟨ea, eb, er, hd4, eq⟩ := D4.ob
        exact ⟨ea, eb, er, by rw [upd_ne dp, upd_ne (ne_of_none hd4 nt)]; exact hd4, eq⟩
      · intro z o nz e
        have e4 := s24 z o nz (s2 z o nz e)
        rw [upd_ne (ne_of_none e np), upd_ne (ne_of_none e4 nt)]
        exact e4
      · rw [List.map_append]
        exact upd_same
    · rintro σ H2 ⟨v, refs, ws, rfl, D2, s2, hp, hV, hw⟩
      refine ⟨_, rfl, p, _, rfl, .inl ⟨SqL.of hp, fun vt nvt => ?_⟩⟩
      refine ⟨_, rfl, d, 3, rfl, D2.same (same_new nvt), by decide, by decide, fun c H3 c0 c1 D3 s3 => ?_⟩
      refine ⟨_, _, rfl, rfl, (by show 2 ≤ sizeLine; decide), fun t nt => ?_⟩
      have s13 : SameX d H2 H3 := (Same.x (same_new nvt)).trans s3
      have hvt3 : H3 vt = some (.tup (refs.map V.ref)) := tups_sx (D2.same (same_new nvt)) s3 _ _ upd_same
      have hV4 : VRefs (upd H3 t (.tup [.ref vt, .int (1 + c)])) refs ws := hV.mono fun z xs e => same_new nt _ _ (tups_sx D2 s13 z xs e)
      obtain ⟨l, rfl⟩ : ∃ l : Nat, c = l := ⟨c.toNat, by omega⟩
      have el : (1 + (l : Int)) = ((1 + l : Nat) : Int) := by omega
      refine k t ws (1 + l) _ ⟨⟨vt, ?_, ⟨refs, same_new nt _ _ hvt3, hV4.len, hV4.at_⟩, by omega, by omega, hV4.ok⟩, by omega, by omega⟩ (D3.same (same_new nt)) ((s2.trans s13).trans (Same.x (same_new nt)))
      rw [← el]
      exact upd_same
/-! ### _law_made -/
def spMade (C : Addr) : Sp := fun vs H Q _ => ∃ (t : Addr) (ws : List (Bool × Int)) (left : Nat), vs = [.ref t] ∧ TAt H t ws left ∧ ∀ rh H', Same H H' → RhAt C H' rh left (ws.map rise) → Q (.ref rh) H'
theorem scMade : FnScope ["_law_t"] ["_law_t"] (defScope sMade) := ⟨rfl, rfl, rfl, by decide +kernel, rfl, by decide +kernel, by decide +kernel⟩
theorem ok_made (F : DefF K mg "_law_made" sMade ["_law_t"]) (T : Txt K mg C CB) {fI : Addr} {fdI : FuncData} (M : Mk K C fI) (GI : FnOk P w K mg base CX0 3 fI fdI ["self", "verses", "left"] (spInit C)) (bI : Binds K fdI ["self", "verses", "left"] []) :
    Cal CX0 P w K mg base 5 "_law_made" (spMade C) [] := by
  refine cal0 F scMade (fun vs H Q E h => ?_) (fun f cdv A outer s H vs Q E hr h => ?_)
  · obtain ⟨t, ws, left, rfl, _⟩ := h
    rfl
  · obtain ⟨t, ws, left, rfl, hT, k⟩ := h
    refine ⟨_, pss_one (ps_ret (by exact (pe_make M GI hr (by rfl) T.gC bI .nil pass0 (pa_cons (pe_ix ix_tup (pv 0) pe_int (fun _ _ => rfl)) (pa_cons (pe_ix ix_tup (pv 0) pe_int (fun _ _ => rfl)) pa_nil))))), ?_⟩
    obtain ⟨vt, ht, hV⟩ := hT.ob
    refine ⟨_, rfl, t, _, _, _, rfl, rfl, SqT.of ht, at_of (j := 0) rfl rfl, _, rfl, t, _, _, _, rfl, rfl, SqT.of ht, at_of (j := 1) rfl rfl, fun x dx nx ndx ne => ?_⟩
    have s0 : Same H (upd (upd H dx (.own x)) x (.ins C dx [])) := fun b o e => by rw [upd_ne (ne_of_none e nx), upd_ne (ne_of_none e ndx)]; exact e
    refine ⟨x, dx, vt, ws, left, rfl, upd_same, hV.same fun b xs e => s0 _ _ e, hT.l1, hT.l3, fun H' hR kp => ⟨rfl, ?_⟩⟩
    exact k x H' (Same.made nx ndx kp) hR
end
end K06

set_option Elab.async false
set_option linter.all false
set_option maxRecDepth 100000
set_option maxHeartbeats 4000000
/-! _law_round. -/
namespace K06
open PySem PySem.Spec PyProof.Rows L2

theorem cut_tail {l : List Int} (h : 1 ≤ l.length) : cutV (l.map V.int) (some 1) none = (l.drop 1).map V.int := by
  have e1 : HT.sIx (l.map V.int).length 0 (some 1) = 1 := by
    have := HT.sIx_nat (l.map V.int).length 0 1
    rw [List.length_map] at this ⊢
    rw [show ((1 : Int)) = ((1 : Nat) : Int) from rfl, this]
    omega
  unfold cutV
  rw [e1, HT.sIx_none, List.length_map, ← List.map_drop, List.take_of_length_le]
  rw [List.length_map, List.length_drop]
  omega
theorem cut_head {l : List Int} (h : 1 ≤ l.length) : cutV (l.map V.int) none (some 1) = (l.take 1).map V.int := by
  have e1 : HT.sIx (l.map V.int).length (l.map V.int).length (some 1) = 1 := by
    have := HT.sIx_nat (l.map V.int).length (l.map V.int).length 1
    rw [List.length_map] at this ⊢
    rw [show ((1 : Int)) = ((1 : Nat) : Int) from rfl, this]
    omega
  unfold cutV
  rw [e1, HT.sIx_none, List.drop_zero, List.map_take]
theorem sIx_last (n d : Nat) (h : 1 ≤ n) : HT.sIx n d (some (-1)) = n - 1 := by
  show (if (-1 : Int) < 0 then ((-1 : Int) + (n : Int)).toNat else min (-1 : Int).toNat n) = n - 1
  rw [if_pos (by decide)]
  omega
theorem cut_last {l : List Int} (h : 1 ≤ l.length) : cutV (l.map V.int) (some (-1)) none = (l.drop (l.length - 1)).map V.int := by
  unfold cutV
  rw [sIx_last _ _ (by rw [List.length_map]; exact h), HT.sIx_none, List.length_map, ← List.map_drop, List.take_of_length_le]
  rw [List.length_map, List.length_drop]
  omega
theorem cut_init {l : List Int} (h : 1 ≤ l.length) : cutV (l.map V.int) none (some (-1)) = (l.take (l.length - 1)).map V.int := by
  unfold cutV
  rw [sIx_last _ _ (by rw [List.length_map]; exact h), HT.sIx_none, List.drop_zero, List.length_map, List.map_take]
  rfl

theorem rot_cut_on {y : Nat} (g : Int → Int) (d : Int) : cutV ((rw_ (y + 1) fun j => g ((j + d) % ((y + 1 : Nat) : Int))).map V.int) (some 1) none ++ cutV ((rw_ (y + 1) fun j => g ((j + d) % ((y + 1 : Nat) : Int))).map V.int) none (some 1)
    = (rw_ (y + 1) fun j => g ((j + (d + 1)) % ((y + 1 : Nat) : Int))).map V.int := by
  rw [cut_tail (by rw [rw_len]; omega), cut_head (by rw [rw_len]; omega), ← List.map_append, rot_on (Nat.succ_pos y)]
theorem rot_cut_back {y : Nat} (g : Int → Int) (d : Int) : cutV ((rw_ (y + 1) fun j => g ((j + d) % ((y + 1 : Nat) : Int))).map V.int) (some (-1)) none ++ cutV ((rw_ (y + 1) fun j => g ((j + d) % ((y + 1 : Nat) : Int))).map V.int) none (some (-1))
    = (rw_ (y + 1) fun j => g ((j + (d - 1)) % ((y + 1 : Nat) : Int))).map V.int := by
  rw [cut_last (by rw [rw_len]; omega), cut_init (by rw [rw_len]; omega), ← List.map_append, rw_len, rot_back (Nat.succ_pos y)]

section
variable {P : Program} {w : World} {K : PySem.W.Frag} {mg : Str → Option Value} {base : Heap} {C CB : Addr}
def spRound : Sp := fun vs H Q _ => ∃ (t : Addr) (ws : List (Bool × Int)) (left n : Nat), vs = [.ref t, .int n] ∧ TAt H t ws left ∧ left ≤ n ∧ n ≤ 400 ∧
  ∀ H' q p1 p2, Same H H' → H' q = some (.lst [.ref p1, .ref p2]) → H' p2 = some (.lst ((raw (ws.map rise) left n).map V.int)) → Q (.ref q) H'
theorem scRound : FnScope ["_law_t", "_law_n", "_law_row", "_law_went", "_law_way", "_law_count", "_law_k"] ["_law_t", "_law_n"] (defScope sRound) := ⟨rfl, rfl, rfl, by decide +kernel, rfl, by decide +kernel, by decide +kernel⟩
theorem rgV_zero (n : Nat) : rgV 0 n = ((List.range n).map fun i : Nat => (i : Int)).map V.int := by
  unfold rgV
  rw [List.map_map, show ((n : Int) - 0).toNat = n by omega]
  refine List.map_congr_left fun i _ => ?_
  show V.int (0 + (i : Int)) = V.int (i : Int)
  rw [Int.zero_add]
theorem ok_round (F : DefF K mg "_law_round" sRound ["_law_t", "_law_n"]) (T : Txt K mg C CB) : Cal CX0 P w K mg base 1 "_law_round" spRound [] := by
  refine cal0 F scRound (fun vs H Q E h => ?_) (fun f cdv A outer s H vs Q E hr h => ?_)
  · obtain ⟨t, ws, left, n, rfl, _⟩ := h
    rfl
  · obtain ⟨t, ws, left, n, rfl, hT, hn, n9, k⟩ := h
    refine ⟨_, pss_cons (ps_set (i := 2) scRound.nd rfl (.inl rfl) (pe_listRg rfl (by rfl) T.list (prg_1 (by rfl) T.range (pv 1))))
      (pss_cons (ps_set (i := 3) scRound.nd rfl (.inl rfl) (pe_lst pa_nil))
      (pss_cons (ps_while PassesOwn.never (pt_cmpR op_gt (pe_callB call_len_seq (by rfl) T.len boot_len (pa_cons (pv 2) pa_nil)) (pe_ix ix_tup (pv 0) pe_int (fun _ _ => rfl)) (nomark _))
        (pss_cons (ps_asg (pe_ix ix_tup (pe_ix ix_tup (pv 0) pe_int (fun _ _ => rfl)) (pe_op op_mod (pe_callB call_len_seq (by rfl) T.len boot_len (pa_cons (pv 3) pa_nil)) (pe_callB call_len_seq (by rfl) T.len boot_len (pa_cons (pe_ix ix_tup (pv 0) pe_int (fun _ _ => rfl)) pa_nil))) (fun _ _ => rfl))
            (pg_tup rfl (pgs_cons (pg_name (i := 4) scRound.nd rfl (.inl rfl)) (pgs_cons (pg_name (i := 5) scRound.nd rfl (.inl rfl)) pgs_nil))))
        (pss_cons (ps_for PassesOwn.never rfl (pi_range1 rfl T.range (pa_cons (pe_op op_sub (pv 5) pe_int) pa_nil)) (pg_name (i := 6) scRound.nd rfl (.inl rfl))
          (pss_one (ps_set (i := 2) scRound.nd rfl (.inl rfl) (pe_ifExp (pt_cmpR op_eq (pv 4) pe_str (nomark _))
            (pe_op op_cat (pe_slice sl_list (pv 2) (po_some pe_int) po_none) (pe_slice sl_list (pv 2) po_none (po_some pe_int)))
            (pe_op op_cat (pe_slice sl_list (pv 2) (po_some (pe_un un_neg pe_int)) po_none) (pe_slice sl_list (pv 2) po_none (po_some (pe_un un_neg pe_int))))))))
        (pss_one (ps_if (pt_cmpR op_eq (pv 4) pe_str (nomark _))
          (pss_one (ps_expr (pe_bm PySem.F.plainAttrs_list PySem.F.slot_list_append PySem.F.type_list_append mt_append (pv 3) (pa_cons (pe_bm PySem.F.plainAttrs_list PySem.F.slot_list_pop PySem.F.type_list_pop mt_popAt (pv 2) (pa_cons pe_int pa_nil)) pa_nil))))
          (pss_one (ps_expr (pe_bm PySem.F.plainAttrs_list PySem.F.slot_list_append PySem.F.type_list_append mt_append (pv 3) (pa_cons (pe_bm0 PySem.F.plainAttrs_list PySem.F.slot_list_pop PySem.F.type_list_pop mt_pop (pv 2)) pa_nil)))))))))
      (pss_one (ps_ret (pe_lst (pa_cons (pv 3) (pa_cons (pv 2) pa_nil))))))), ?_⟩
    obtain ⟨vt, ht, hV⟩ := hT.ob
    obtain ⟨refs, r1, r2, r3⟩ := hV.ob
    have hR := rises_ok hV
    have w1 := hV.l1
    have w4 := hV.l4
    have hl1 := hT.l1
    have lR : (ws.map rise).length = ws.length := List.length_map ..
    obtain ⟨rs, hrs⟩ : ∃ rs, ws.map rise = rs := ⟨_, rfl⟩
    rw [hrs] at hR lR k
    have line := line1000
    refine ⟨_, rfl, _, rfl, .of_le (by decide) (by omega) (by decide) (by omega), fun pr0 nr0 => ⟨by decide, fun pw nw => ?_⟩⟩
    have rw0 : pr0 ≠ pw := ne_of_none upd_same nw
    have nw' : H pw = none := (same_new nr0).free nw
    refine ⟨fun z σ H' => ∃ (pr : Addr) (gs : List V) (v4 v5 v6 : Option V), σ = [some (.ref t), some (.int n), some (.ref pr), some (.ref pw), v4, v5, v6] ∧ left ≤ z ∧ z ≤ n ∧ H' pr = some (.lst ((row rs n z).map V.int)) ∧ H' pw = some (.lst gs) ∧
      gs.length = n - z ∧ Same H H' ∧ pr ≠ pw ∧ H pr = none,
      ⟨n, pr0, [], none, none, none, rfl, hn, Nat.le_refl _, ?_, upd_same, by simp, (same_new nr0).trans (same_new nw), rw0, nr0⟩, ?_⟩
    · rw [upd_ne rw0, upd_same, row_all, rgV_zero]
    rintro z σ H1 ⟨pr, gs, v4, v5, v6, rfl, hz, hzn, hpr, hpw, hg, s1, prw, npr⟩
    have lrow : (row rs n z).length = z := by unfold row; exact rw_len _ _
    refine ⟨_, rfl, pr, _, rfl, .inl (SqL.of hpr), _, rfl, t, _, _, _, rfl, rfl, SqT.of (s1 _ _ ht), at_of (j := 1) rfl rfl, _, _, rfl, rfl, _, rfl, ?_⟩
    rw [List.length_map, lrow]
    refine ite2 (fun c => ?_) fun c => ?_
    · have c : left < z := by have := of_decide_eq_true c; omega
      obtain ⟨y, rfl⟩ : ∃ y, z = y + 1 := ⟨z - 1, by omega⟩
      refine ⟨fun σ' H' => ∃ (pr' : Addr) (gs : List V) (v4 v5 v6 : Option V), σ' = [some (.ref t), some (.int n), some (.ref pr'), some (.ref pw), v4, v5, v6] ∧ H' pr' = some (.lst ((row rs n y).map V.int)) ∧ H' pw = some (.lst gs) ∧
        gs.length = n - y ∧ Same H H' ∧ pr' ≠ pw ∧ H pr' = none, fun σ' H' ⟨pr', gs, v4, v5, v6, e1, e2, e3, e4, e5, e6, e7⟩ => ⟨y, Nat.lt_succ_self _, pr', gs, v4, v5, v6, e1, by omega, by omega, e2, e3, e4, e5, e6, e7⟩, ?_⟩
      -- the verse that is said
      have hj0 : (((gs.length : Nat) : Int) % ((refs.map V.ref).length : Nat)) = ((n : Int) - ((y + 1 : Nat) : Int)) % (rs.length : Int) := by
        rw [hg, List.length_map, r2, lR]
        congr 1
        omega
      obtain ⟨jj, hjj⟩ : ∃ jj : Nat, ((n : Int) - ((y + 1 : Nat) : Int)) % (rs.length : Int) = jj := ⟨(((n : Int) - ((y + 1 : Nat) : Int)) % (rs.length : Int)).toNat, by have := (hR.ix ((n : Int) - ((y + 1 : Nat) : Int))).1; omega⟩
      have jlt : jj < ws.length := by have := (hR.ix ((n : Int) - ((y + 1 : Nat) : Int))).2; omega
      obtain ⟨r, e3, e4⟩ := r3 jj ws[jj] (List.getElem?_eq_getElem jlt)
      have hfr : fr rs n ((y + 1 : Nat) : Int) = rise ws[jj] := by
        have := hR.at n ((y + 1 : Nat) : Int)
        rw [hjj, Int.toNat_natCast, ← hrs, List.getElem?_map, List.getElem?_eq_getElem jlt] at this
        rw [hrs] at this
        exact (Option.some.inj this).symm
      obtain ⟨o1, o6⟩ := hV.ok ws[jj] (List.getElem_mem jlt)
      obtain ⟨v, hv⟩ : ∃ v, ws[jj] = v := ⟨_, rfl⟩
      rw [hv] at hfr e4 o1 o6
      have fin : (rw_ y fun i => (fun j => lf (fr rs n) ((n : Int) - (y + 1 : Nat)).toNat j (y + 1 : Nat)) ((i + rise v) % ((y + 1 : Nat) : Int))) = row rs n y := by
        rw [← hfr]
        exact row_next rs n y (by omega)
      refine ⟨_, rfl, t, _, _, _, rfl, rfl, SqT.of (s1 _ _ ht), at_of (j := 0) rfl rfl, _, rfl, pw, _, rfl, .inl (SqL.of hpw), _, rfl, t, _, _, _, rfl, rfl, SqT.of (s1 _ _ ht), at_of (j := 0) rfl rfl, vt, _, rfl, .inr (SqT.of (s1 _ _ r1)), _, _, rfl, rfl, ?_, ?_⟩
      · rw [List.length_map, r2]; omega
      refine ⟨vt, _, _, .ref r, rfl, rfl, SqT.of (s1 _ _ r1), at_of (j := jj) (hj0.trans hjj) (by rw [List.getElem?_map, e3]; rfl), ?_⟩
      refine ⟨r, _, rfl, SqT.of (s1 _ _ e4), rfl, _, _, rfl, _, _, rfl, rfl, ?_⟩
      -- the rest of the verse
      refine ⟨_, rfl, _, _, rfl, rfl, _, rfl, by omega, by omega, for_range (lo := 0) (n := (v.2 - 1).toNat)
        (fun i σ H' => ∃ (p : Addr) (v6 : Option V), σ = [some (.ref t), some (.int n), some (.ref p), some (.ref pw), some (.str (wayS v.1)), some (.int v.2), v6] ∧
          H' p = some (.lst ((rw_ (y + 1) fun j => (fun j => lf (fr rs n) ((n : Int) - (y + 1 : Nat)).toNat j (y + 1 : Nat)) ((j + (if v.1 = true then (i : Int) else -(i : Int))) % ((y + 1 : Nat) : Int))).map V.int)) ∧ H' pw = some (.lst gs) ∧ Same H H' ∧ p ≠ pw ∧ H p = none)
        ⟨pr, _, rfl, ?_, hpw, s1, prw, npr⟩ ?_ ?_⟩
      · rw [hpr, row_start]
        have e0 : (if v.1 = true then ((0 : Nat) : Int) else -((0 : Nat) : Int)) = 0 := by split <;> rfl
        rw [e0]
      · rintro i σ H2 hi ⟨p, v6, rfl, hp, hpw2, s2, ppw, np⟩
        refine ⟨_, rfl, rfl, _, rfl, ?_⟩
        rw [way_on]
        obtain ⟨g, hg⟩ : ∃ g, g = fun j => lf (fr rs n) ((n : Int) - (y + 1 : Nat)).toNat j (y + 1 : Nat) := ⟨_, rfl⟩
        rw [← hg] at hp ⊢
        have lr : ∀ d : Int, ((rw_ (y + 1) fun j => g ((j + d) % ((y + 1 : Nat) : Int))).map V.int).length = y + 1 := fun d => by rw [List.length_map, rw_len]
        have lcut : ∀ (d : Int) (lo hi : Option Int), (cutV ((rw_ (y + 1) fun j => g ((j + d) % ((y + 1 : Nat) : Int))).map V.int) lo hi).length ≤ 400 := fun d lo hi => by
          have := cutV_length ((rw_ (y + 1) fun j => g ((j + d) % ((y + 1 : Nat) : Int))).map V.int) lo hi
          rw [lr] at this
          omega
        have pwk : ∀ {H3 : Hp} {q : Addr} {o : HO}, H3 pw = some (.lst gs) → H3 q = none → upd H3 q o pw = some (.lst gs) := fun h n => by rw [upd_ne (ne_of_none h n)]; exact h
        cases b : v.1 with
        | true =>
          rw [b] at hp
          rw [if_pos rfl] at hp
          refine iteT ⟨_, rfl, _, rfl, p, _, rfl, SqL.of hp, fun q1 n1 => ?_⟩
          refine ⟨_, rfl, _, rfl, p, _, rfl, SqL.of (same_new n1 _ _ hp), fun q2 n2 => ?_⟩
          refine ⟨q1, q2, _, _, rfl, rfl, (upd_ne (ne_of_none upd_same n2)).trans upd_same, upd_same, ?_, fun q3 n3 => ?_⟩
          · have h1 := lcut i (some 1) none
            have h2 := lcut i none (some 1)
            omega
          refine ⟨q3, some (.int (0 + i)), rfl, ?_, pwk (pwk (pwk hpw2 n1) n2) n3, s2.trans (((same_new n1).trans (same_new n2)).trans (same_new n3)), Ne.symm (ne_of_none (pwk (pwk hpw2 n1) n2) n3), (s2.trans ((same_new n1).trans (same_new n2))).free n3⟩
          rw [upd_same, rot_cut_on, if_pos rfl]
          have e1 : (i : Int) + 1 = ((i + 1 : Nat) : Int) := by omega
          rw [e1]
        | false =>
          rw [b] at hp
          rw [if_neg Bool.false_ne_true] at hp
          refine iteF ⟨_, rfl, _, rfl, _, rfl, p, _, rfl, SqL.of hp, fun q1 n1 => ?_⟩
          refine ⟨_, rfl, _, rfl, _, rfl, p, _, rfl, SqL.of (same_new n1 _ _ hp), fun q2 n2 => ?_⟩
          refine ⟨q1, q2, _, _, rfl, rfl, (upd_ne (ne_of_none upd_same n2)).trans upd_same, upd_same, ?_, fun q3 n3 => ?_⟩
          · have h1 := lcut (-(i : Int)) (some (-1)) none
            have h2 := lcut (-(i : Int)) none (some (-1))
            omega
          refine ⟨q3, some (.int (0 + i)), rfl, ?_, pwk (pwk (pwk hpw2 n1) n2) n3, s2.trans (((same_new n1).trans (same_new n2)).trans (same_new n3)), Ne.symm (ne_of_none (pwk (pwk hpw2 n1) n2) n3), (s2.trans ((same_new n1).trans (same_new n2))).free n3⟩
          rw [upd_same, rot_cut_back, if_neg Bool.false_ne_true]
          have e1 : -(i : Int) - 1 = -((i + 1 : Nat) : Int) := by omega
          rw [e1]
      · rintro σ H2 ⟨p, v6, rfl, hp, hpw2, s2, ppw, np⟩
        have ev : ((v.2 - 1).toNat : Int) = v.2 - 1 := by omega
        rw [ev] at hp
        obtain ⟨g, hg'⟩ : ∃ g, g = fun j => lf (fr rs n) ((n : Int) - (y + 1 : Nat)).toNat j (y + 1 : Nat) := ⟨_, rfl⟩
        rw [← hg'] at hp fin
        refine ⟨_, rfl, rfl, _, rfl, ?_⟩
        rw [way_on]
        have glen : gs.length < sizeLine := small1000 (by omega)
        cases b : v.1 with
        | true =>
          have er : rise v = v.2 := by unfold rise; rw [b]; rfl
          rw [b, if_pos rfl] at hp
          rw [er, ← go_on] at fin
          refine iteT ⟨_, rfl, .inl ⟨rfl, _, SqL.of hpw2⟩, _, rfl, .inl ⟨rfl, _, SqL.of hp⟩, p, _, 0, 0, .int (g ((((0 : Nat) : Int) + (v.2 - 1)) % ((y + 1 : Nat) : Int))), rfl, rfl, hp, by decide, by decide, ?_, ?_, ?_⟩
          · exact seqIndex_of (by decide) (by rw [List.length_map, rw_len]; omega)
          · rw [List.getElem?_map, rw_get (Nat.succ_pos y)]
            rfl
          · refine ⟨pw, gs, _, rfl, rfl, by rw [upd_ne (Ne.symm ppw)]; exact hpw2, glen, ?_⟩
            refine ⟨p, _, _, _, _, rfl, ?_, upd_same, ?_, ?_, ppw, np⟩
            · rw [upd_ne ppw, upd_same, List.eraseIdx_zero, ← List.drop_one, ← List.map_drop, fin]
            · rw [List.length_append]
              show gs.length + 1 = n - y
              omega
            · intro x o e
              rw [upd_ne (ne_of_none e nw'), upd_ne (ne_of_none e np)]
              exact s2 x o e
        | false =>
          have er : rise v = 1 - v.2 := by unfold rise; rw [b]; rfl
          rw [b, if_neg Bool.false_ne_true] at hp
          rw [er, ← go_back] at fin
          refine iteF ⟨_, rfl, .inl ⟨rfl, _, SqL.of hpw2⟩, _, rfl, .inl ⟨rfl, _, SqL.of hp⟩, p, _, .int (g (((y : Int) + -(v.2 - 1)) % ((y + 1 : Nat) : Int))), rfl, rfl, hp, ?_, ?_⟩
          · rw [List.length_map, rw_len, List.getElem?_map, Nat.add_sub_cancel, rw_get (Nat.lt_succ_self y)]
            rfl
          · refine ⟨pw, gs, _, rfl, rfl, by rw [upd_ne (Ne.symm ppw)]; exact hpw2, glen, ?_⟩
            refine ⟨p, _, _, _, _, rfl, ?_, upd_same, ?_, ?_, ppw, np⟩
            · have en : -(v.2 - 1) = 1 - v.2 := by omega
              rw [upd_ne ppw, upd_same, ← List.map_dropLast, en, fin]
            · rw [List.length_append]
              show gs.length + 1 = n - y
              omega
            · intro x o e
              rw [upd_ne (ne_of_none e nw'), upd_ne (ne_of_none e np)]
              exact s2 x o e
    · have c : ¬ left < z := fun q => c (decide_eq_true (by omega))
      have ez : z = left := by omega
      subst ez
      refine ⟨_, rfl, _, rfl, (by show 2 ≤ sizeLine; decide), fun q nq => ?_⟩
      exact k _ q pw pr (s1.trans (same_new nq)) upd_same (by rw [upd_ne (ne_of_none hpr nq)]; exact hpr)
end
end K06

set_option Elab.async false
set_option linter.all false
set_option maxRecDepth 100000
set_option maxHeartbeats 4000000
/-! _law_equal, _law_refused. -/
namespace K06
open PySem PySem.Spec PyProof.Rows L2

section
variable {P : Program} {w : World} {K : PySem.W.Frag} {mg : Str → Option Value} {base : Heap} {C CB : Addr}
/-! ### _law_equal of two ints that are one, of two lists of the same ints -/
def spEqInt : Sp := fun vs H Q _ => ∃ i : Int, vs = [.int i, .int i] ∧ Q (.bl true) H
def spEqList : Sp := fun vs H Q _ => ∃ (a b : Addr) (xs : List Int), vs = [.ref a, .ref b] ∧ H a = some (.lst (xs.map V.int)) ∧ H b = some (.lst (xs.map V.int)) ∧ xs.length ≤ 900 ∧ ∀ H', Same H H' → Q (.bl true) H'
theorem scEqual : FnScope ["_law_actual", "_law_expected", "_law_key", "_law_k"] ["_law_actual", "_law_expected"] (defScope sEqual) := ⟨rfl, rfl, rfl, by decide +kernel, rfl, by decide +kernel, by decide +kernel⟩
theorem ok_eqInt (F : DefF K mg "_law_equal" sEqual ["_law_actual", "_law_expected"]) (T : Txt K mg C CB) : Cal CX0 P w K mg base 1 "_law_equal" spEqInt [] := by
  refine cal0 F scEqual (fun vs H Q E h => ?_) (fun f cdv A outer s H vs Q E hr h => ?_)
  · obtain ⟨i, rfl, _⟩ := h
    rfl
  · obtain ⟨i, rfl, k⟩ := h
    refine ⟨_, pss_cons (ps_if (pt_cmpR op_isN (pv 1) pe_non (nomark _)) pss_never pss_nil)
      (pss_cons (ps_if (pt_val (pe_callB call_isBool (by rfl) T.isinstance boot_isinstance (pa_cons (pv 1) (pa_cons (pe_ty (by rfl) T.bool boot_bool) pa_nil)))) pss_never pss_nil)
      (pss_cons (ps_if (pt_val (pe_callB call_isInt (by rfl) T.isinstance boot_isinstance (pa_cons (pv 1) (pa_cons (pe_ty (by rfl) T.int boot_int) pa_nil))))
        (pss_one (ps_ret (pe_and (pe_callB call_isInt (by rfl) T.isinstance boot_isinstance (pa_cons (pv 0) (pa_cons (pe_ty (by rfl) T.int boot_int) pa_nil)))
          (pe_and (pe_not (pe_callB call_isBool (by rfl) T.isinstance boot_isinstance (pa_cons (pv 0) (pa_cons (pe_ty (by rfl) T.bool boot_bool) pa_nil))))
          (pe_one (pe_cmpR op_eq (pv 0) (pv 1) (nomark _))))))) pss_nil) pss_never)), ?_⟩
    refine ⟨_, rfl, rfl, _, rfl, iteF ?_⟩
    refine ⟨_, rfl, _, rfl, trivial, _, rfl, iteF ?_⟩
    refine ⟨_, rfl, _, rfl, trivial, _, rfl, iteT ?_⟩
    refine ⟨_, rfl, _, rfl, trivial, _, rfl, iteT ?_⟩
    refine ⟨_, rfl, _, rfl, trivial, _, rfl, _, rfl, iteT ?_⟩
    refine ⟨_, rfl, _, rfl, rfl, ?_⟩
    have e : decide (V.int i = V.int i) = true := decide_eq_true rfl
    show Q (.bl (decide (V.int i = V.int i))) H
    rw [e]
    exact k
theorem ok_eqList (F : DefF K mg "_law_equal" sEqual ["_law_actual", "_law_expected"]) (T : Txt K mg C CB) (cE : Cal CX0 P w K mg base 1 "_law_equal" spEqInt []) : Cal CX0 P w K mg base 2 "_law_equal" spEqList [] := by
  refine cal0 F scEqual (fun vs H Q E h => ?_) (fun f cdv A outer s H vs Q E hr h => ?_)
  · obtain ⟨a, b, xs, rfl, _⟩ := h
    rfl
  · obtain ⟨a, b, xs, rfl, ha, hb, hl, k⟩ := h
    refine ⟨_, pss_cons (ps_if (pt_cmpR op_isN (pv 1) pe_non (nomark _)) pss_never pss_nil)
      (pss_cons (ps_if (pt_val (pe_callB call_isi (by rfl) T.isinstance boot_isinstance (pa_cons (pv 1) (pa_cons (pe_ty (by rfl) T.bool boot_bool) pa_nil)))) pss_never pss_nil)
      (pss_cons (ps_if (pt_val (pe_callB call_isi (by rfl) T.isinstance boot_isinstance (pa_cons (pv 1) (pa_cons (pe_ty (by rfl) T.int boot_int) pa_nil)))) pss_never pss_nil)
      (pss_cons (ps_if (pt_val (pe_callB call_isi (by rfl) T.isinstance boot_isinstance (pa_cons (pv 1) (pa_cons (pe_ty (by rfl) T.str boot_str) pa_nil)))) pss_never pss_nil)
      (pss_cons (ps_if (pt_val (pe_callB call_isi (by rfl) T.isinstance boot_isinstance (pa_cons (pv 1) (pa_cons (pe_ty (by rfl) T.dict boot_dict) pa_nil)))) pss_never pss_nil)
      (pss_cons (ps_if (pt_cmpR op_ne (pe_callB call_isi (by rfl) T.isinstance boot_isinstance (pa_cons (pv 1) (pa_cons (pe_ty (by rfl) T.tuple boot_tuple) pa_nil))) (pe_callB call_isi (by rfl) T.isinstance boot_isinstance (pa_cons (pv 0) (pa_cons (pe_ty (by rfl) T.tuple boot_tuple) pa_nil))) (nomark _)) pss_never pss_nil)
      (pss_cons (ps_if (pt_cmpR op_ne (pe_callB call_isi (by rfl) T.isinstance boot_isinstance (pa_cons (pv 1) (pa_cons (pe_ty (by rfl) T.list boot_list) pa_nil))) (pe_callB call_isi (by rfl) T.isinstance boot_isinstance (pa_cons (pv 0) (pa_cons (pe_ty (by rfl) T.list boot_list) pa_nil))) (nomark _)) pss_never pss_nil)
      (pss_cons (ps_if (pt_cmpR op_ne (pe_callB call_len_seq (by rfl) T.len boot_len (pa_cons (pv 0) pa_nil)) (pe_callB call_len_seq (by rfl) T.len boot_len (pa_cons (pv 1) pa_nil)) (nomark _)) pss_never pss_nil)
      (pss_one (ps_ret (pe_callB (cr_all rfl) (by rfl) T.all boot_all (pa_cons (pe_lc (te := tCall spEqInt [] E0 (tCons (tOp (rIxL K) (tVar 0) (tVar 3)) (tCons (tOp (rIxL K) (tVar 1) (tVar 3)) tNil))) (own := [("_law_k", 3)]) (g := gName 3) (tt := tYes) rfl scEqual.nd
          (pi_range1 rfl T.range (pa_cons (pe_callB call_len_seq (by rfl) T.len boot_len (pa_cons (pv 1) pa_nil)) pa_nil))
          (blkOk_by (own := [("_law_k", 3)]) (N := ["_law_actual", "_law_expected", "_law_key", "_law_k"]) (sc := defScope sEqual) (by decide +kernel)) (fun _ _ _ _ _ => pg_name (i := 3) scEqual.nd rfl (Or.inl rfl)) (fun _ _ _ _ _ => pts_nil)
          (fun _ _ _ _ _ => by exact (pe_c cE hr (by decide) pass0 (by rfl) (pa_cons (pe_ix ix_list (pv 0) (pv 3) (fun _ _ => rfl)) (pa_cons (pe_ix ix_list (pv 1) (pv 3) (fun _ _ => rfl)) pa_nil))))) pa_nil))))))))))), ?_⟩
    refine ⟨_, rfl, rfl, _, rfl, iteF ?_⟩
    refine ⟨_, rfl, _, _, _, _, false, rfl, .ty _, .base (.lst hb), kit_ty (by decide +kernel), _, rfl, iteF ?_⟩
    refine ⟨_, rfl, _, _, _, _, false, rfl, .ty _, .base (.lst hb), kit_ty (by decide +kernel), _, rfl, iteF ?_⟩
    refine ⟨_, rfl, _, _, _, _, false, rfl, .ty _, .base (.lst hb), kit_ty (by decide +kernel), _, rfl, iteF ?_⟩
    refine ⟨_, rfl, _, _, _, _, false, rfl, .ty _, .base (.lst hb), kit_ty (by decide +kernel), _, rfl, iteF ?_⟩
    refine ⟨_, rfl, _, _, _, _, false, rfl, .ty _, .base (.lst hb), kit_ty (by decide +kernel), _, rfl, _, _, _, _, false, rfl, .ty _, .base (.lst ha), kit_ty (by decide +kernel), rfl, _, rfl, iteF ?_⟩
    refine ⟨_, rfl, _, _, _, _, true, rfl, .ty _, .base (.lst hb), kit_ty (by decide +kernel), _, rfl, _, _, _, _, true, rfl, .ty _, .base (.lst ha), kit_ty (by decide +kernel), rfl, _, rfl, iteF ?_⟩
    refine ⟨_, rfl, a, _, rfl, .inl (SqL.of ha), _, rfl, b, _, rfl, .inl (SqL.of hb), rfl, _, rfl, ?_⟩
    rw [decide_eq_true rfl]
    refine iteF ?_
    refine ⟨_, rfl, b, _, rfl, .inl (SqL.of hb), _, rfl, by omega, by rw [List.length_map]; omega, fun D nD => lc_range (lo := 0)
      (fun i H' => Same H H' ∧ H' D = some (.lst ((List.replicate i true).map V.bl))) ⟨same_new nD, upd_same⟩ ?_ ?_⟩
    · rintro i H' hi ⟨s, hD⟩
      rw [Int.toNat_natCast, List.length_map] at hi
      have hx : (xs.map V.int)[i]? = some (.int xs[i]) := by rw [List.getElem?_map, List.getElem?_eq_getElem hi]; rfl
      refine ⟨rfl, yes_of (iteT ?_)⟩
      refine ⟨_, rfl, _, rfl, a, _, _, .int xs[i], rfl, rfl, SqL.of (s _ _ ha), at_of (j := i) (by omega) hx, _, rfl, _, rfl, b, _, _, .int xs[i], rfl, rfl, SqL.of (s _ _ hb), at_of (j := i) (by omega) hx, xs[i], rfl, ?_⟩
      refine ⟨_, hD, ?_, same_put s nD, ?_⟩
      · rw [List.length_map, List.length_replicate]
        exact small1000 (by omega)
      · rw [List.replicate_succ', List.map_append]
        exact upd_same
    · rintro H' ⟨s, hD⟩
      refine ⟨D, _, rfl, SqL.of hD, ?_⟩
      have e : ∀ n : Nat, (List.replicate n true).all id = true := fun n => List.all_eq_true.mpr fun x hx => (List.mem_replicate.mp hx).2
      rw [e]
      exact k H' s

/-! ### _law_refused -/
def spRefused (C CB : Addr) : Sp := fun vs H Q _ => ∃ (rh : Addr) (left : Nat) (rs : List Int) (x y : V), vs = [.ref rh, x, y] ∧ RhAt C H rh left rs ∧ PV x ∧ PV y ∧
  (∀ lo hi : Int, x = .int lo → y = .int hi → left ≤ lo → lo ≤ 10 ^ 30 → lo ≤ hi → hi ≤ lo + 200 → hi ≤ 10 ^ 30 → ∀ H', Same H H' → Q (.bl false) H') ∧
  ((betw x left (10 ^ 30) = false ∨ ∃ lo, x = .int lo ∧ betw y lo (if (10 : Int) ^ 30 < lo + 200 then 10 ^ 30 else lo + 200) = false) → Q (.bl true) H)
theorem scRefused : FnScope ["_law_rhyme", "_law_low", "_law_high", "_law_told"] ["_law_rhyme", "_law_low", "_law_high"] (defScope sRefused) := ⟨rfl, rfl, rfl, by decide +kernel, rfl, by decide +kernel, by decide +kernel⟩
theorem ok_refused (F : DefF K mg "_law_refused" sRefused ["_law_rhyme", "_law_low", "_law_high"]) (T : Txt K mg C CB) (cS : Cal (L2.CX P w) P w K mg base 5 "safe" (spSafe C CB) []) : Cal CX0 P w K mg base 6 "_law_refused" (spRefused C CB) [] := by
  obtain ⟨fs, fds, pss, dss, GS, gS, kS, bS, dS⟩ := cS.ex
  cases dS
  refine cal0 F scRefused (fun vs H Q E h => ?_) (fun f cdv A outer s H vs Q E hr h => ?_)
  · obtain ⟨rh, left, rs, x, y, rfl, _⟩ := h
    rfl
  · obtain ⟨rh, left, rs, x, y, rfl, hR, px, py, kG, kB⟩ := h
    refine ⟨_, pss_cons (ps_set (i := 3) scRefused.nd rfl (.inl rfl) pe_bl)
      (pss_cons (ps_try_only (tb := fun W => tDrop (tCallS (spSafe C CB) (WE W) (tCons (tVar 0) (tCons (tVar 1) (tCons (tVar 2) tNil))))) (ts := fun _ _ _ => tAsg (tC (.bl true)) (gName 3)) (Wout := fun _ _ _ _ => False) rfl rfl ⟨rfl, by decide, Or.inl T.gB⟩ takes0
          (fun W pn xe tk _ => pss_one (ps_expr (by exact (pe_callS GS hr (by rfl) gS kS bS (fun σ => passAt tk σ) (by exact (pa_cons (pv 0) (pa_cons (pv 1) (pa_cons (pv 2) pa_nil))))))))
          (fun _ _ _ _ _ _ _ => pss_one (ps_set (i := 3) scRefused.nd rfl (.inl rfl) pe_bl)))
      (pss_one (ps_ret (pv 3)))), ?_⟩
    refine ⟨_, rfl, _, rfl, _, rfl, rh, left, rs, x, y, rfl, hR, px, py, fun lo hi e1 e2 l1 l2 l3 l4 l5 H' p s' n' h' => ?_, fun hb => ?_⟩
    · exact ⟨_, rfl, kG lo hi e1 e2 l1 l2 l3 l4 l5 H' s'⟩
    · refine ⟨true, T.eB, fun _ a0 _ => ?_, fun q => Bool.noConfusion q⟩
      exact ⟨_, rfl, kB hb⟩
end
end K06

set_option Elab.async false
set_option linter.all false
set_option maxRecDepth 100000
set_option maxHeartbeats 8000000
/-! law. -/
namespace K06
open PySem PySem.Spec PyProof.Rows L2

/-- due, ahead of turn i -/
def duF (rs : List Int) (left : Nat) (lo : Int) : Nat → List Int
  | 0 => srt (raw rs left lo)
  | i + 1 => saf rs left lo i
theorem duF_next (rs : List Int) (left : Nat) (lo : Int) (i : Nat) : (duF rs left lo i).filter (fun c => decide (c ∈ raw rs left (lo + i))) = duF rs left lo (i + 1) := by
  cases i with
  | zero =>
    have := saf_first rs left lo
    simpa [duF, saf] using this
  | succ i => rfl
theorem duF_len (rs : List Int) (left : Nat) (lo : Int) (i : Nat) : (duF rs left lo i).length ≤ left := by
  cases i with
  | zero => exact saf_len rs left lo 0
  | succ i => exact saf_len rs left lo i
theorem RhAt.sx {C : Addr} {H H' : Hp} {rh d : Addr} {left : Nat} {rs : List Int} (h : RhAt C H rh left rs) (hD : DOk H d) (s : SameX d H H') : RhAt C H' rh left rs := by
  obtain ⟨dx, vt, rt, h1, h2⟩ := h.ob
  obtain ⟨_, _, _, hd, _⟩ := hD.ob
  exact ⟨⟨dx, vt, rt, s _ _ (ne_of h1 hd (by intro z; cases z)) h1, tups_sx hD s _ _ h2⟩, h.ri, h.l1, h.l3⟩
theorem TAt.sx {H H' : Hp} {t d : Addr} {ws : List (Bool × Int)} {left : Nat} (h : TAt H t ws left) (hD : DOk H d) (s : SameX d H H') : TAt H' t ws left := h.mono (tups_sx hD s)
theorem TAt.same {H H' : Hp} {t : Addr} {ws : List (Bool × Int)} {left : Nat} (h : TAt H t ws left) (s : Same H H') : TAt H' t ws left := h.mono fun b xs e => s _ _ e
theorem DOk.ne {H : Hp} {d p : Addr} (h : DOk H d) (n : H p = none) : d ≠ p := by
  obtain ⟨_, _, _, hd, _⟩ := h.ob
  exact ne_of_none hd n

theorem not_bad {left : Nat} {lo hi : Int} (l1 : left ≤ lo) (l2 : lo ≤ 10 ^ 30) (l3 : lo ≤ hi) (l4 : hi ≤ lo + 200) (l5 : hi ≤ 10 ^ 30)
    (h : betw (.int lo) left (10 ^ 30) = false ∨ ∃ z, V.int lo = .int z ∧ betw (.int hi) z (if (10 : Int) ^ 30 < z + 200 then 10 ^ 30 else z + 200) = false) : False := by
  rcases h with h | ⟨z, e, h⟩
  · have e1 : betw (.int lo) left (10 ^ 30) = true := decide_eq_true ⟨l1, l2⟩
    rw [e1] at h; cases h
  · cases e
    have e1 : betw (.int hi) lo (if (10 : Int) ^ 30 < lo + 200 then 10 ^ 30 else lo + 200) = true := by
      refine decide_eq_true ⟨l3, ?_⟩
      split
      · exact l5
      · exact l4
    rw [e1] at h; cases h
theorem bad_high {lo : Int} {y : V} (py : PV y) (h : ∀ z : Int, y = .int z → ¬ (lo ≤ z ∧ z ≤ lo + 200 ∧ z ≤ 10 ^ 30)) : betw y lo (if (10 : Int) ^ 30 < lo + 200 then 10 ^ 30 else lo + 200) = false := by
  cases y with
  | int z =>
    refine decide_eq_false fun ⟨a, b⟩ => h z rfl ⟨a, ?_⟩
    by_cases c : (10 : Int) ^ 30 < lo + 200
    · rw [if_pos c] at b; exact ⟨by omega, b⟩
    · rw [if_neg c] at b; exact ⟨b, by omega⟩
  | _ => rfl

section
variable {P : Program} {w : World} {K : PySem.W.Frag} {mg : Str → Option Value} {base : Heap} {C CB : Addr}
def spLaw (K : PySem.W.Frag) : Sp := fun vs H Q _ => ∃ (a : Addr) (ns : List Int), vs = [.ref a] ∧ SqL K H a (ns.map V.int) ∧ ns.length ≤ 63 ∧ ∀ H', Q (.bl true) H'
abbrev NLaw : List Str := ["_law_script", "_law_d", "_law_t", "_law_rhyme", "_law_low", "_law_high", "_law_due", "_law_n", "_law_row", "_law_k", "_law_odd", "_law_child"]
theorem scLaw : FnScope NLaw ["_law_script"] (defScope sLaw) := ⟨rfl, rfl, rfl, by decide +kernel, rfl, by decide +kernel, by decide +kernel⟩
abbrev rAdd : R2 := rI0 fun i j => .int (i + j)
theorem ok_law {f : Addr} {fd : FuncData} (F : Fun K "law" "law" sLaw f fd) (T : Txt K mg C CB)
    (cRandom : Cal CX0 P w K mg base 1 "_law_random" (spRandom K) []) (cDrawn : Cal CX0 P w K mg base 3 "_law_drawn" spDrawn []) (cMade : Cal CX0 P w K mg base 5 "_law_made" (spMade C) [])
    (cNumber : Cal CX0 P w K mg base 2 "_law_number" spNumber []) (cBelow : Cal CX0 P w K mg base 1 "_law_below" spBelow []) (cRound : Cal CX0 P w K mg base 1 "_law_round" spRound [])
    (cEqual : Cal CX0 P w K mg base 2 "_law_equal" spEqList []) (cSafe : Cal (L2.CX P w) P w K mg base 5 "safe" (spSafe C CB) []) (cGreat : Cal CX0 P w K mg base 3 "_law_great" spGreat [])
    (cKept : Cal CX0 P w K mg base 5 "kept" (spKept C) []) (cPick : Cal CX0 P w K mg base 2 "_law_pick" spPick []) (cRef : Cal CX0 P w K mg base 6 "_law_refused" (spRefused C CB) []) :
    FnOk P w K mg base CX0 7 f fd ["_law_script"] (spLaw K) := by
  refine F.ok scLaw (fun vs H Q E h => ?_) (fun cdv A outer s H vs Q E hr h => ?_)
  · obtain ⟨a, ns, rfl, _⟩ := h
    rfl
  · obtain ⟨a, ns, rfl, hS, hl, kQ⟩ := h
    refine ⟨_, pss_cons (ps_set (i := 1) scLaw.nd rfl (.inl rfl) (by exact (pe_c cRandom hr (by decide) pass0 (by rfl) (pa_cons (pv 0) (pa_cons pe_int pa_nil)))))
      (pss_cons (ps_set (i := 2) scLaw.nd rfl (.inl rfl) (by exact (pe_c cDrawn hr (by decide) pass0 (by rfl) (pa_cons (pv 1) pa_nil))))
      (pss_cons (ps_set (i := 3) scLaw.nd rfl (.inr rfl) (by exact (pe_c cMade hr (by decide) pass0 (by rfl) (pa_cons (pv 2) pa_nil))))
      (pss_cons (ps_set (i := 4) scLaw.nd rfl (.inr rfl) (by exact (pe_c cNumber hr (by decide) pass0 (by rfl) (pa_cons (pv 1) (pa_cons (pv 2) (pa_cons pe_int pa_nil))))))
      (pss_cons (ps_set (i := 5) scLaw.nd rfl (.inl rfl) (pe_op op_add (pv 4) (pe_op op_mul (by exact (pe_c cBelow hr (by decide) pass0 (by rfl) (pa_cons (pv 1) (pa_cons pe_int pa_nil)))) (by exact (pe_c cBelow hr (by decide) pass0 (by rfl) (pa_cons (pv 1) (pa_cons pe_int pa_nil)))))))
      (pss_cons (ps_set (i := 6) scLaw.nd rfl (.inl rfl) (pe_callB cr_sortedI (by rfl) T.sorted boot_sorted (pa_cons (pe_ix ix_list (by exact (pe_c cRound hr (by decide) pass0 (by rfl) (pa_cons (pv 2) (pa_cons (pv 4) pa_nil)))) pe_int (fun _ _ => rfl)) pa_nil)))
      (pss_cons (ps_for PassesOwn.never rfl (pi_rangeA (by rfl) T.range (pa_cons (pv 4) (pa_cons (pe_op op_add (pv 5) pe_int) pa_nil))) (pg_name (i := 7) scLaw.nd rfl (.inl rfl))
        (pss_cons (ps_set (i := 8) scLaw.nd rfl (.inr rfl) (pe_ix ix_list (by exact (pe_c cRound hr (by decide) pass0 (by rfl) (pa_cons (pv 2) (pa_cons (pv 7) pa_nil)))) pe_int (fun _ _ => rfl)))
        (pss_one (ps_setLc (i := 6) (tt := tTest (tOp (rIn K false) (tVar 11) (tVar 8))) (own := [("_law_child", 11)]) (g := gName 11) rfl scLaw.nd rfl rfl (sw_true rfl rfl rfl (by decide +kernel)) (pi_list (pv 6))
          (blkOk_by (own := [("_law_child", 11)]) (N := NLaw) (sc := defScope sLaw) (by decide +kernel)) (fun _ _ _ _ _ => pg_name (i := 11) scLaw.nd rfl (Or.inl rfl))
          (fun _ _ _ _ _ => by exact (pts_one (pt_cmpR op_in_seq (pv 11) (pv 8) (by rfl)))) (fun _ _ _ _ _ => by exact (pv 11))))))
      (pss_cons (ps_if (pt_not (pt_val (by exact (pe_c cEqual hr (by decide) pass0 (by rfl) (pa_cons (by exact (pe_c cSafe hr (by decide) passL (by rfl) (pa_cons (pv 3) (pa_cons (pv 4) (pa_cons (pv 5) pa_nil))))) (pa_cons (pv 6) pa_nil)))))) pss_never pss_nil)
      (pss_cons (ps_set (i := 4) scLaw.nd rfl (.inr rfl) (pe_callB (cr_min rfl) (by rfl) T.min boot_min (pa_cons (pe_lst (pa_cons (by exact (pe_c cGreat hr (by decide) pass0 (by rfl) (pa_cons (pv 1) pa_nil))) (pa_cons (pe_op op_sub (pe_op op_pow pe_int pe_int) pe_int) pa_nil))) pa_nil)))
      (pss_cons (ps_set (i := 6) scLaw.nd rfl (.inl rfl) (by exact (pe_c cKept hr (by decide) pass0 (by rfl) (pa_cons (pv 3) (pa_cons (pv 4) pa_nil)))))
      (pss_cons (ps_for PassesOwn.never rfl (pi_range1 rfl T.range (pa_cons (by exact (pe_c cBelow hr (by decide) pass0 (by rfl) (pa_cons (pv 1) (pa_cons pe_int pa_nil)))) pa_nil)) (pg_name (i := 9) scLaw.nd rfl (.inr rfl))
        (pss_cons (ps_setLc (i := 6) (tt := tTest (tOp (rIn K false) (tVar 11) (tCall (spKept C) [] E0 (tCons (tVar 3) (tCons (tOp rAdd (tVar 4) (tVar 9)) tNil))))) (own := [("_law_child", 11)]) (g := gName 11) rfl scLaw.nd rfl rfl (sw_true rfl rfl rfl (by decide +kernel)) (pi_list (pv 6))
          (blkOk_by (own := [("_law_child", 11)]) (N := NLaw) (sc := defScope sLaw) (by decide +kernel)) (fun _ _ _ _ _ => pg_name (i := 11) scLaw.nd rfl (Or.inl rfl))
          (fun _ _ _ _ _ => by exact (pts_one (pt_cmpR op_in_seq (pv 11) (by exact (pe_c cKept hr (by decide) pass0 (by rfl) (pa_cons (pv 3) (pa_cons (pe_op op_add (pv 4) (pv 9)) pa_nil)))) (by rfl)))) (fun _ _ _ _ _ => by exact (pv 11)))
        (pss_one (ps_if (pt_not (pt_val (by exact (pe_c cEqual hr (by decide) pass0 (by rfl) (pa_cons (by exact (pe_c cSafe hr (by decide) passL (by rfl) (pa_cons (pv 3) (pa_cons (pv 4) (pa_cons (pe_op op_add (pv 4) (pv 9)) pa_nil))))) (pa_cons (pv 6) pa_nil)))))) pss_never pss_nil))))
      (pss_cons (ps_set (i := 10) scLaw.nd rfl (.inl rfl) (by exact (pe_c cPick hr (by decide) pass0 (by rfl) (pa_cons (pv 1) (pa_cons (pe_lst (pa_cons pe_non (pa_cons pe_bl (pa_cons pe_str (pa_cons (pe_op op_sub (pe_ix ix_tup (pv 2) pe_int (fun _ _ => rfl)) pe_int)
          (pa_cons (pe_op op_sub (pv 4) pe_int) (pa_cons (pe_op op_add (pv 4) pe_int) (pa_cons (pe_op op_add (pe_op op_pow pe_int pe_int) pe_int) pa_nil)))))))) pa_nil)))))
      (pss_cons (ps_if (PW.pt (pw_or (pt_not (pt_val (by exact (pe_c cRef hr (by decide) pass0 (by rfl) (pa_cons (pv 3) (pa_cons (pv 4) (pa_cons (pv 10) pa_nil)))))))
          (pw_or1 (pt_not (pt_val (by exact (pe_c cRef hr (by decide) pass0 (by rfl) (pa_cons (pv 3) (pa_cons (by exact (pe_c cPick hr (by decide) pass0 (by rfl) (pa_cons (pv 1) (pa_cons (pe_lst (pa_cons pe_int (pa_cons pe_non (pa_cons pe_bl (pa_cons pe_str pa_nil))))) pa_nil)))) (pa_cons (pv 4) pa_nil)))))))))) pss_never pss_nil)
      (pss_one (ps_ret (pe_and (pe_not (by exact (pe_c cRef hr (by decide) pass0 (by rfl) (pa_cons (pv 3) (pa_cons pe_int (pa_cons pe_int pa_nil))))))
        (pe_one (by exact (pe_c cRef hr (by decide) pass0 (by rfl) (pa_cons (pv 3) (pa_cons pe_int (pa_cons pe_int pa_nil))))))))))))))))))))), ?_⟩
    -- d, t, rhyme
    refine ⟨_, rfl, a, ns, 906, rfl, hS, hl, by decide, by decide, fun H1 d s1 nd D1 => ?_⟩
    refine ⟨_, rfl, d, rfl, D1, fun t ws left H2 T2 D2 x2 => ?_⟩
    refine ⟨_, rfl, t, ws, left, rfl, T2, fun rh H3 s3 R3 => ?_⟩
    have D3 := D2.same s3
    have T3 := T2.same s3
    have g1 := T3.l1
    have g3 := T3.l3
    obtain ⟨rs, hrs⟩ : ∃ rs, ws.map rise = rs := ⟨_, rfl⟩
    rw [hrs] at R3
    -- low, high
    obtain ⟨vt3, ht3, _⟩ := T3.ob
    refine ⟨_, rfl, _, rfl, d, t, _, (left : Int), 60, rfl, D3, ht3, by omega, by omega, fun lo H4 lo1 lo2 D4 x4 => ?_⟩
    obtain ⟨ln, rfl⟩ : ∃ ln : Nat, lo = ln := ⟨lo.toNat, by omega⟩
    refine ⟨_, rfl, _, rfl, d, 5, rfl, D4, by decide, by decide, fun a5 H5 a50 a51 D5 x5 => ⟨_, rfl, d, 8, rfl, D5, by decide, by decide, fun b5 H6 b50 b51 D6 x6 => ⟨_, _, rfl, rfl, .inl ⟨by omega, by omega⟩, _, _, rfl, rfl, ?_⟩⟩⟩
    have x36 : SameX d H3 H6 := (x4.trans x5).trans x6
    have T6 := T3.sx D3 x36
    have R6 := R3.sx D3 x36
    have ab : 0 ≤ a5 * b5 ∧ a5 * b5 ≤ 28 := by
      refine ⟨Int.mul_nonneg a50 b50, ?_⟩
      have q1 : a5 * b5 ≤ 4 * b5 := Int.mul_le_mul_of_nonneg_right (by omega) b50
      omega
    obtain ⟨ab, hab⟩ := ab
    -- due
    refine ⟨_, rfl, _, rfl, t, ws, left, ln, rfl, T6, by omega, by omega, fun H7 q7 p7 r7 s7 hq7 hr7 => ⟨q7, _, _, .ref r7, rfl, rfl, SqL.of hq7, at_of (j := 1) rfl rfl, r7, _, rfl, SqL.of hr7, fun ns' pd pm pw npd => ?_⟩⟩
    rw [hrs] at pm
    have en := srt_one pm pw
    subst en
    have s68 : Same H6 (upd H7 pd (.lst ((srt (raw rs left ln)).map V.int))) := s7.trans (same_new npd)
    obtain ⟨H8, h8⟩ : ∃ H8, H8 = upd H7 pd (.lst ((srt (raw rs left ln)).map V.int)) := ⟨_, rfl⟩
    have hpd : H8 pd = some (.lst ((srt (raw rs left ln)).map V.int)) := by rw [h8]; exact upd_same
    rw [← h8] at s68 ⊢
    clear h8 npd hr7 hq7
    -- over the range
    refine ⟨_, rfl, _, rfl, _, _, rfl, rfl, _, _, rfl, for_range (lo := (ln : Int)) (n := ((ln : Int) + a5 * b5 + 1 - ln).toNat)
      (fun i σ H' => ∃ (p : Addr) (v7 v8 : Option V), σ = [some (.ref a), some (.ref d), some (.ref t), some (.ref rh), some (.int ln), some (.int (ln + a5 * b5)), some (.ref p), v7, v8, none, none, none] ∧ Same H6 H' ∧ H' p = some (.lst ((duF rs left ln i).map V.int)))
      ⟨pd, none, none, rfl, s68, hpd⟩ ?_ ?_⟩
    · rintro i σ H9 hi ⟨p, v7, v8, rfl, s9, hp⟩
      refine ⟨_, rfl, _, rfl, t, ws, left, ln + i, rfl, T6.same s9, by omega, by omega, fun H10 q10 p10 r10 s10 hq10 hr10 => ⟨q10, _, _, .ref r10, rfl, rfl, SqL.of hq10, at_of (j := 1) rfl rfl, ?_⟩⟩
      rw [hrs] at hr10
      have hp10 : H10 p = some (.lst ((duF rs left ln i).map V.int)) := s10 _ _ hp
      have len := duF_len rs left ln i
      refine ⟨_, rfl, p, rfl, ⟨_, SqL.of hp10⟩, fun D nD => lc_list (K := K) (a := p) (xs := (duF rs left ln i).map V.int)
        (fun j H' => Same H10 H' ∧ H' D = some (.lst ((((duF rs left ln i).take j).filter fun c => decide (c ∈ raw rs left ((ln : Int) + i))).map V.int)))
        ⟨same_new nD, upd_same⟩ (fun j H' _ ⟨s3, _⟩ => s3.seq (SqL.of hp10)) ?_ ?_⟩
      · rintro j y' H11 hj ⟨s11, hD⟩
        obtain ⟨z, hz, rfl⟩ := item_of hj
        obtain ⟨f1, f2⟩ := filt_end (H := H10) hz (by omega) s11 nD hD
        refine ⟨rfl, _, rfl, _, rfl, r10, _, rfl, .inl (SqL.of (s11 _ _ hr10)), rfl, all_flat _, _, rfl, ?_⟩
        rw [if_neg Bool.false_ne_true, inV_int]
        refine ite2 (fun c => ?_) fun c => ?_
        · obtain ⟨acc, g1, g2, g3, g4⟩ := f1 c
          exact ⟨_, rfl, acc, g1, g2, g3, g4⟩
        · exact ⟨s11, f2 (by simpa using c)⟩
      · rintro H11 ⟨s11, hD⟩
        rw [List.length_map, List.take_length, duF_next] at hD
        exact ⟨D, _, _, rfl, s9.trans (s10.trans s11), hD⟩
    · rintro σ H9 ⟨p9, v7, v8, rfl, s9, hp9⟩
      have e9 : ((ln : Int) + a5 * b5 + 1 - ln).toNat = (a5 * b5).toNat + 1 := by omega
      rw [e9] at hp9
      have R9 := R6.same s9
      -- safe is due
      refine ⟨_, rfl, _, rfl, _, rfl, rh, left, rs, .int ln, .int (ln + a5 * b5), rfl, R9, trivial, trivial, fun lo' hi' e1 e2 _ _ _ _ _ H10 ps s10 n10 h10 => ?_, fun hb => (not_bad (by omega) (by omega) (by omega) (by omega) (by omega) hb).elim⟩
      cases e1
      cases e2
      have es : ((ln : Int) + a5 * b5 - ln).toNat = (a5 * b5).toNat := by omega
      rw [es] at h10
      refine ⟨_, rfl, ps, p9, _, rfl, h10, s10 _ _ hp9, ?_, fun H11 s11 => ⟨_, rfl, iteF ?_⟩⟩
      · have := saf_len rs left ln (a5 * b5).toNat
        omega
      have s611 : Same H6 H11 := (s9.trans s10).trans s11
      have D11 := D6.same s611
      -- a great low
      refine ⟨_, rfl, d, rfl, D11, fun g H12 gr1 gr2 D12 x12 => ⟨_, _, rfl, rfl, ⟨by decide, by decide, by decide⟩, _, _, rfl, rfl, (by show 2 ≤ sizeLine; decide), fun q nq => ?_⟩⟩
      refine ⟨q, [g, (10 : Int) ^ (30 : Int).toNat - 6], rfl, SqL.of upd_same, (by show 0 < 2; decide), fun m hm hle => ?_⟩
      have m2 : m ≤ 10 ^ 30 - 6 := hle _ (by simp)
      have m1 : 10 ^ 5 ≤ m := by
        rcases List.mem_cons.mp hm with e | hm
        · rw [e]; exact gr1
        · rw [List.mem_singleton.mp hm]; decide
      have x13 : SameX d H6 (upd H12 q (.lst [.int g, .int ((10 : Int) ^ (30 : Int).toNat - 6)])) := ((Same.x s611).trans x12).trans (Same.x (same_new nq))
      have D13 := D12.same (same_new nq (o := .lst [.int g, .int ((10 : Int) ^ (30 : Int).toNat - 6)]))
      have R13 := R6.sx D6 x13
      have T13 := T6.sx D6 x13
      -- kept
      refine ⟨_, rfl, _, rfl, rh, left, m, rs, rfl, R13, by omega, by omega, fun H14 pk s14 n14 h14 => ?_⟩
      have D14 := D13.same s14
      have dpk : d ≠ pk := D13.ne n14
      refine ⟨_, rfl, d, 6, rfl, D14, by decide, by decide, fun r H15 r0 r1 D15 x15 => ⟨_, rfl, by omega, by omega, for_range (lo := 0) (n := r.toNat)
        (fun i σ H' => ∃ (p : Addr) (v9 : Option V), σ = [some (.ref a), some (.ref d), some (.ref t), some (.ref rh), some (.int m), some (.int (ln + a5 * b5)), some (.ref p), v7, v8, v9, none, none] ∧ Same H15 H' ∧ H' p = some (.lst ((duF rs left m i).map V.int)))
        ⟨pk, none, rfl, Same.refl _, x15 _ _ (Ne.symm dpk) h14⟩ ?_ ?_⟩⟩
      · have R15 := (R13.same s14).sx D14 x15
        rintro i σ H16 hi ⟨p, v9, rfl, s16, hp⟩
        have R16 := R15.same s16
        have len := duF_len rs left m i
        refine ⟨_, rfl, p, rfl, ⟨_, SqL.of hp⟩, fun D nD => lc_list (K := K) (a := p) (xs := (duF rs left m i).map V.int)
          (fun j H' => Same H16 H' ∧ H' D = some (.lst ((((duF rs left m i).take j).filter fun c => decide (c ∈ raw rs left (m + i))).map V.int)))
          ⟨same_new nD, upd_same⟩ (fun j H' _ ⟨s3, _⟩ => s3.seq (SqL.of hp)) ?_ ?_⟩
        · rintro j y' H17 hj ⟨s17, hD⟩
          obtain ⟨z, hz, rfl⟩ := item_of hj
          refine ⟨rfl, _, rfl, _, rfl, _, rfl, _, rfl, _, _, rfl, rfl, rh, left, m + (0 + (i : Int)), rs, rfl, R16.same s17, by omega, by omega, fun H18 pn s18 n18 h18 => ?_⟩
          obtain ⟨f1, f2⟩ := filt_end (H := H16) hz (by omega) (s17.trans s18) nD (s18 _ _ hD)
          refine ⟨pn, _, rfl, .inl (SqL.of h18), rfl, all_flat _, _, rfl, ?_⟩
          have ei : m + (0 + (i : Int)) = m + i := by omega
          have mf : decide (z ∈ srt (raw rs left (m + (0 + (i : Int))))) = decide (z ∈ raw rs left (m + i)) := by
            rw [ei]; exact decide_eq_decide.mpr mem_srt
          rw [if_neg Bool.false_ne_true, inV_int, mf]
          refine ite2 (fun c => ?_) fun c => ?_
          · obtain ⟨acc, g1, g2, g3, g4⟩ := f1 c
            exact ⟨_, rfl, acc, g1, g2, g3, g4⟩
          · exact ⟨s17.trans s18, f2 (by simpa using c)⟩
        · rintro H17 ⟨s17, hD⟩
          rw [List.length_map, List.take_length, duF_next] at hD
          refine ⟨_, rfl, _, rfl, _, rfl, _, rfl, _, _, rfl, rfl, rh, left, rs, .int m, .int (m + (0 + (i : Int))), rfl, R16.same s17, trivial, trivial, fun lo' hi' e1 e2 _ _ _ _ _ H18 ps s18 n18 h18 => ?_, fun hb => (not_bad (by omega) (by omega) (by omega) (by omega) (by omega) hb).elim⟩
          cases e1
          cases e2
          have es : (m + (0 + (i : Int)) - m).toNat = i := by omega
          rw [es] at h18
          refine ⟨_, rfl, ps, D, _, rfl, h18, s18 _ _ hD, ?_, fun H19 s19 => ⟨_, rfl, iteF ?_⟩⟩
          · have := saf_len rs left m i
            omega
          · exact ⟨D, _, rfl, ((s16.trans s17).trans s18).trans s19, s19 _ _ (s18 _ _ hD)⟩
      · rintro σ H16 ⟨p, v9, rfl, s16, hp⟩
        have D16 := D15.same s16
        have R16 := ((R13.same s14).sx D14 x15).same s16
        have T16 := ((T13.same s14).sx D14 x15).same s16
        -- odd
        obtain ⟨vt, ht, _⟩ := T16.ob
        refine ⟨_, rfl, _, rfl, t, _, _, _, rfl, rfl, SqT.of ht, at_of (j := 1) rfl rfl, _, _, rfl, rfl, _, rfl, _, _, rfl, rfl, _, rfl, _, _, rfl, rfl, _, _, rfl, rfl, ⟨by decide, by decide, by decide⟩, _, _, rfl, rfl, (by show 7 ≤ sizeLine; decide), fun q2 nq2 => ?_⟩
        refine ⟨d, q2, _, rfl, D16.same (same_new nq2), D16.ne nq2, upd_same, (by show 0 < 7; decide), (by show 7 < 1000; decide), fun i odd H17 hodd D17 x17 => ?_⟩
        have R17 := (R16.same (same_new nq2)).sx (D16.same (same_new nq2)) x17
        have po : PV odd ∧ ∀ z : Int, odd = .int z → ¬ (m ≤ z ∧ z ≤ m + 200 ∧ z ≤ 10 ^ 30) := by
          match i, hodd with
          | 0, h => cases h; exact ⟨trivial, fun z e => by cases e⟩
          | 1, h => cases h; exact ⟨trivial, fun z e => by cases e⟩
          | 2, h => cases h; exact ⟨trivial, fun z e => by cases e⟩
          | 3, h => cases h; exact ⟨trivial, fun z e => by have e := V.int.inj e; omega⟩
          | 4, h => cases h; exact ⟨trivial, fun z e => by have e := V.int.inj e; omega⟩
          | 5, h => cases h; exact ⟨trivial, fun z e => by have e := V.int.inj e; omega⟩
          | 6, h =>
            cases h
            refine ⟨trivial, fun z e => ?_⟩
            have e := V.int.inj e
            have e2 : (10 : Int) ^ (30 : Int).toNat + 1 = 10 ^ 30 + 1 := rfl
            rw [e2] at e
            omega
          | n + 7, h => cases h
        obtain ⟨po, no⟩ := po
        refine ⟨_, rfl, _, rfl, _, rfl, rh, left, rs, .int m, odd, rfl, R17, trivial, po, fun lo' hi' e1 e2 _ _ u1 u2 u3 H' s' => ?_, fun _ => ⟨_, rfl, iteF ?_⟩⟩
        · cases e1
          exact absurd ⟨u1, u2, u3⟩ (no hi' e2)
        -- a low that is none
        refine ⟨_, rfl, _, rfl, (by show 4 ≤ sizeLine; decide), fun q3 nq3 => ?_⟩
        refine ⟨d, q3, _, rfl, D17.same (same_new nq3), D17.ne nq3, upd_same, (by show 0 < 4; decide), (by show 4 < 1000; decide), fun i2 nl H18 hnl D18 x18 => ?_⟩
        have R18 := (R17.same (same_new nq3)).sx (D17.same (same_new nq3)) x18
        have pn : PV nl ∧ ∀ z : Int, nl = .int z → z < 1 := by
          match i2, hnl with
          | 0, h => cases h; exact ⟨trivial, fun z e => by have e := V.int.inj e; omega⟩
          | 1, h => cases h; exact ⟨trivial, fun z e => by cases e⟩
          | 2, h => cases h; exact ⟨trivial, fun z e => by cases e⟩
          | 3, h => cases h; exact ⟨trivial, fun z e => by cases e⟩
          | n + 4, h => cases h
        obtain ⟨pn, nn⟩ := pn
        refine ⟨_, rfl, rh, left, rs, nl, .int m, rfl, R18, pn, trivial, fun lo' hi' e1 e2 u1 _ _ _ _ H' s' => ?_, fun _ => ⟨_, rfl, iteF ?_⟩⟩
        · have := nn lo' e1
          omega
        -- 210, 211
        refine ⟨_, rfl, rh, left, rs, .int 10, .int 210, rfl, R18, trivial, trivial, fun lo' hi' _ _ _ _ _ _ _ H19 s19 => ⟨_, rfl, _, rfl, iteT ?_⟩, fun hb => (not_bad (by omega) (by decide) (by decide) (by decide) (by decide) hb).elim⟩
        refine ⟨_, rfl, rh, left, rs, .int 10, .int 211, rfl, R18.same s19, trivial, trivial, fun lo' hi' e1 e2 _ _ u1 u2 u3 H' s' => ?_, fun _ => kQ _⟩
        cases e1
        cases e2
        omega
end
end K06

set_option Elab.async false
set_option linter.all false
set_option maxRecDepth 100000
set_option maxHeartbeats 8000000
/-! The end. -/
namespace K06
open PySem PySem.Spec PyProof.Rows L2

theorem exm_self {K : PySem.W.Frag} {S : Addr} (h1 : PySem.W.subIn K (.ref S) (.type "BaseException") = some true) (h2 : PySem.W.isClsIn K S = true) (h3 : PySem.W.typeIn K (.ref S) = some (.type "type")) (h4 : PySem.W.subIn K (.ref S) (.ref S) = some true) :
    PySem.W.exmOne K (.ref S) (.ref S) = some true := by
  have e1 : (PySem.W.subIn K (.ref S) (.type "BaseException") == some true) = true := by rw [h1] <;> rfl
  have e2 : ((PySem.W.clsIn K S).isSome && PySem.W.typeIn K (.ref S) == some (.type "type")) = true := by
    have h2' : (PySem.W.clsIn K S).isSome = true := h2
    rw [h2', h3] <;> rfl
  show (if (PySem.W.subIn K (.ref S) (.type "BaseException") == some true) = true then (if ((PySem.W.clsIn K S).isSome && PySem.W.typeIn K (.ref S) == some (.type "type")) = true then PySem.W.subIn K (.ref S) (.ref S) else none) else none) = some true
  rw [if_pos e1, if_pos e2]
  exact h4
/-- all promises, from the lowest def up -/
theorem all_ok {P : Program} {w : World} {K : PySem.W.Frag} {mg : Str → Option Value} {base : Heap} {C CB : Addr} (T : Txt K mg C CB)
    (Fisbetween : DefF K mg "is_between" sBetween ["value", "least", "most"])
    (Fisverse : DefF K mg "is_verse" sVerse ["value"])
    (Fsumsof : DefF K mg "sums_of" sSums ["row"])
    (Ftimesabove : DefF K mg "times_above" sTimes ["room", "more"])
    (Fleastof : DefF K mg "least_of" sLeast ["some"])
    (Fclimbs : DefF K mg "climbs" sClimbs ["place", "size", "sums"])
    (Fbeside : DefF K mg "beside" sBeside ["place", "size"])
    (Fdoesstay : DefF K mg "does_stay" sStay ["row", "here"])
    (Frowahead : DefF K mg "row_ahead" sAhead ["rhyme", "n", "size"])
    (Flifted : DefF K mg "lifted" sLifted ["rhyme", "place", "size", "n"])
    (Fkeptof : DefF K mg "kept_of" sKeptOf ["rhyme", "n"])
    (Fkept : DefF K mg "kept" sKept ["rhyme", "n"])
    (Fsafe : DefF K mg "safe" sSafe ["rhyme", "low", "high"])
    (Flawrandom : DefF K mg "_law_random" sRandom ["_law_script", "_law_salt"])
    (Flawbelow : DefF K mg "_law_below" sBelow ["_law_d", "_law_size"])
    (Flawpick : DefF K mg "_law_pick" sPick ["_law_d", "_law_items"])
    (Flawequal : DefF K mg "_law_equal" sEqual ["_law_actual", "_law_expected"])
    (Flawdrawn : DefF K mg "_law_drawn" sDrawn ["_law_d"])
    (Flawmade : DefF K mg "_law_made" sMade ["_law_t"])
    (Flawround : DefF K mg "_law_round" sRound ["_law_t", "_law_n"])
    (Flawnumber : DefF K mg "_law_number" sNumber ["_law_d", "_law_t", "_law_most"])
    (Flawgreat : DefF K mg "_law_great" sGreat ["_law_d"])
    (Flawrefused : DefF K mg "_law_refused" sRefused ["_law_rhyme", "_law_low", "_law_high"])
    (FN : NeedF K mg) {fI : Addr} {fdI : FuncData} (FI : Fun K "__init__" "Rhyme.__init__" sInit fI fdI) (bI : Binds K fdI ["self", "verses", "left"] []) (M : Mk K C fI) {f : Addr} {fd : FuncData} (FL : Fun K "law" "law" sLaw f fd) :
    FnOk P w K mg base CX0 7 f fd ["_law_script"] (spLaw K) := by
  have cB : Cal CX0 P w K mg base 1 "is_between" spBetween [] := ok_between Fisbetween T
  have cV : Cal CX0 P w K mg base 2 "is_verse" spVerse [] := ok_verse Fisverse T cB
  have cS : Cal CX0 P w K mg base 1 "sums_of" (spSums K) [] := ok_sums Fsumsof
  have cT : Cal CX0 P w K mg base 1 "times_above" spTimes [] := ok_times Ftimesabove
  have cL : Cal CX0 P w K mg base 1 "least_of" (spLeast K) [] := ok_least Fleastof T
  have cC : Cal CX0 P w K mg base 2 "climbs" (spClimbs K) [] := ok_climbs Fclimbs T cT cL
  have cD : Cal CX0 P w K mg base 1 "does_stay" (spStay K) [] := ok_stay Fdoesstay T
  have cE : Cal CX0 P w K mg base 1 "beside" spBeside [] := ok_beside Fbeside
  have cA : Cal CX0 P w K mg base 1 "row_ahead" (spAhead C) [] := ok_ahead Frowahead T
  have cF : Cal CX0 P w K mg base 3 "lifted" (spLifted C) [] := ok_lifted Flifted T cA cS cC cD cE
  have cK : Cal CX0 P w K mg base 4 "kept_of" (spKeptOf C) [] := ok_keptOf Fkeptof T cF
  have cN : Cal (L2.CX P w) P w K mg base 2 "need_number" (spNeed C CB) [.int (10 ^ 30)] := ok_need FN T cB
  have cKept : Cal CX0 P w K mg base 5 "kept" (spKept C) [] := ok_kept Fkept T cN cK
  have cSafe : Cal (L2.CX P w) P w K mg base 5 "safe" (spSafe C CB) [] := ok_safe Fsafe T cN cB cK
  have cBelow : Cal CX0 P w K mg base 1 "_law_below" spBelow [] := ok_below Flawbelow T
  have cPick : Cal CX0 P w K mg base 2 "_law_pick" spPick [] := ok_pick Flawpick T cBelow
  have cRandom : Cal CX0 P w K mg base 1 "_law_random" (spRandom K) [] := ok_random Flawrandom T
  have cDrawn : Cal CX0 P w K mg base 3 "_law_drawn" spDrawn [] := ok_drawn Flawdrawn T cBelow cPick
  have gI : FnOk P w K mg base CX0 3 fI fdI ["self", "verses", "left"] (spInit C) := ok_init FI T cV cB
  have cMade : Cal CX0 P w K mg base 5 "_law_made" (spMade C) [] := ok_made Flawmade T M gI bI
  have cRound : Cal CX0 P w K mg base 1 "_law_round" spRound [] := ok_round Flawround T
  have cNumber : Cal CX0 P w K mg base 2 "_law_number" spNumber [] := ok_number Flawnumber cBelow
  have cGreat : Cal CX0 P w K mg base 3 "_law_great" spGreat [] := ok_great Flawgreat cBelow cPick
  have cEq1 : Cal CX0 P w K mg base 1 "_law_equal" spEqInt [] := ok_eqInt Flawequal T
  have cEq : Cal CX0 P w K mg base 2 "_law_equal" spEqList [] := ok_eqList Flawequal T cEq1
  have cRef : Cal CX0 P w K mg base 6 "_law_refused" (spRefused C CB) [] := ok_refused Flawrefused T cSafe
  exact ok_law FL T cRandom cDrawn cMade cNumber cBelow cRound cEq cSafe cGreat cKept cPick cRef
/-- the facts of the top, as k_is reads them -/
theorem all_mk {P : Program} {w : World} {K : PySem.W.Frag} {h : Heap} {mg : Str → Option Value} {fa C CB fI fN TN f0 f1 f2 f3 f4 f5 f6 f7 f8 f9 f10 f11 f12 f13 f14 f15 f16 f17 f18 f19 f20 f21 f22 f23 : Addr} {od0 an0 od1 an1 od2 an2 od3 an3 od4 an4 od5 an5 od6 an6 od7 an7 od8 an8 od9 an9 od10 an10 od11 an11 od12 an12 od13 an13 od14 an14 od15 an15 od16 an16 od17 an17 od18 an18 od19 an19 od20 an20 od21 an21 od22 an22 od23 an23 odI anI odN anN odT : Option Addr} {sl0 sl1 sl2 sl3 sl4 sl5 sl6 sl7 sl8 sl9 sl10 sl11 sl12 sl13 sl14 sl15 sl16 sl17 sl18 sl19 sl20 sl21 sl22 sl23 slI slN slT : Array (Option Value)} {oc0 kV0 dc0 pm0 cd0 ct0 oc1 kV1 dc1 pm1 cd1 ct1 oc2 kV2 dc2 pm2 cd2 ct2 oc3 kV3 dc3 pm3 cd3 ct3 oc4 kV4 dc4 pm4 cd4 ct4 oc5 kV5 dc5 pm5 cd5 ct5 oc6 kV6 dc6 pm6 cd6 ct6 oc7 kV7 dc7 pm7 cd7 ct7 oc8 kV8 dc8 pm8 cd8 ct8 oc9 kV9 dc9 pm9 cd9 ct9 oc10 kV10 dc10 pm10 cd10 ct10 oc11 kV11 dc11 pm11 cd11 ct11 oc12 kV12 dc12 pm12 cd12 ct12 oc13 kV13 dc13 pm13 cd13 ct13 oc14 kV14 dc14 pm14 cd14 ct14 oc15 kV15 dc15 pm15 cd15 ct15 oc16 kV16 dc16 pm16 cd16 ct16 oc17 kV17 dc17 pm17 cd17 ct17 oc18 kV18 dc18 pm18 cd18 ct18 oc19 kV19 dc19 pm19 cd19 ct19 oc20 kV20 dc20 pm20 cd20 ct20 oc21 kV21 dc21 pm21 cd21 ct21 oc22 kV22 dc22 pm22 cd22 ct22 oc23 kV23 dc23 pm23 cd23 ct23 ocI kVI dcI pmI cdI ctI ocN kVN dcN pmN cdN ctN ocT : Value} {tk0 tk1 tk2 tk3 tk4 tk5 tk6 tk7 tkT : Tok} {nT : Nat}
    (X : K.In h) (G : h.Ns mainGlobals mg) (hfa : mg "law" = some (.ref fa))
    (a0 : PySem.W.nsIn K mainGlobals "is_between" = some (some (.ref f0)))
    (l0 : K.lookup f0 = some ⟨oc0, od0, .func (PySem.W.fnOf "is_between" "is_between" (defArgs sBetween) (defBody sBetween) (defScope sBetween) .none kV0 dc0 pm0 an0 cd0 ct0), sl0⟩)
    (c0 : PySem.W.codeIn K cd0 "is_between" = true)
    (k0 : PySem.W.keepIn K (.ref f0) = true)
    (a1 : PySem.W.nsIn K mainGlobals "is_verse" = some (some (.ref f1)))
    (l1 : K.lookup f1 = some ⟨oc1, od1, .func (PySem.W.fnOf "is_verse" "is_verse" (defArgs sVerse) (defBody sVerse) (defScope sVerse) .none kV1 dc1 pm1 an1 cd1 ct1), sl1⟩)
    (c1 : PySem.W.codeIn K cd1 "is_verse" = true)
    (k1 : PySem.W.keepIn K (.ref f1) = true)
    (a2 : PySem.W.nsIn K mainGlobals "sums_of" = some (some (.ref f2)))
    (l2 : K.lookup f2 = some ⟨oc2, od2, .func (PySem.W.fnOf "sums_of" "sums_of" (defArgs sSums) (defBody sSums) (defScope sSums) .none kV2 dc2 pm2 an2 cd2 ct2), sl2⟩)
    (c2 : PySem.W.codeIn K cd2 "sums_of" = true)
    (k2 : PySem.W.keepIn K (.ref f2) = true)
    (a3 : PySem.W.nsIn K mainGlobals "times_above" = some (some (.ref f3)))
    (l3 : K.lookup f3 = some ⟨oc3, od3, .func (PySem.W.fnOf "times_above" "times_above" (defArgs sTimes) (defBody sTimes) (defScope sTimes) .none kV3 dc3 pm3 an3 cd3 ct3), sl3⟩)
    (c3 : PySem.W.codeIn K cd3 "times_above" = true)
    (k3 : PySem.W.keepIn K (.ref f3) = true)
    (a4 : PySem.W.nsIn K mainGlobals "least_of" = some (some (.ref f4)))
    (l4 : K.lookup f4 = some ⟨oc4, od4, .func (PySem.W.fnOf "least_of" "least_of" (defArgs sLeast) (defBody sLeast) (defScope sLeast) .none kV4 dc4 pm4 an4 cd4 ct4), sl4⟩)
    (c4 : PySem.W.codeIn K cd4 "least_of" = true)
    (k4 : PySem.W.keepIn K (.ref f4) = true)
    (a5 : PySem.W.nsIn K mainGlobals "climbs" = some (some (.ref f5)))
    (l5 : K.lookup f5 = some ⟨oc5, od5, .func (PySem.W.fnOf "climbs" "climbs" (defArgs sClimbs) (defBody sClimbs) (defScope sClimbs) .none kV5 dc5 pm5 an5 cd5 ct5), sl5⟩)
    (c5 : PySem.W.codeIn K cd5 "climbs" = true)
    (k5 : PySem.W.keepIn K (.ref f5) = true)
    (a6 : PySem.W.nsIn K mainGlobals "beside" = some (some (.ref f6)))
    (l6 : K.lookup f6 = some ⟨oc6, od6, .func (PySem.W.fnOf "beside" "beside" (defArgs sBeside) (defBody sBeside) (defScope sBeside) .none kV6 dc6 pm6 an6 cd6 ct6), sl6⟩)
    (c6 : PySem.W.codeIn K cd6 "beside" = true)
    (k6 : PySem.W.keepIn K (.ref f6) = true)
    (a7 : PySem.W.nsIn K mainGlobals "does_stay" = some (some (.ref f7)))
    (l7 : K.lookup f7 = some ⟨oc7, od7, .func (PySem.W.fnOf "does_stay" "does_stay" (defArgs sStay) (defBody sStay) (defScope sStay) .none kV7 dc7 pm7 an7 cd7 ct7), sl7⟩)
    (c7 : PySem.W.codeIn K cd7 "does_stay" = true)
    (k7 : PySem.W.keepIn K (.ref f7) = true)
    (a8 : PySem.W.nsIn K mainGlobals "row_ahead" = some (some (.ref f8)))
    (l8 : K.lookup f8 = some ⟨oc8, od8, .func (PySem.W.fnOf "row_ahead" "row_ahead" (defArgs sAhead) (defBody sAhead) (defScope sAhead) .none kV8 dc8 pm8 an8 cd8 ct8), sl8⟩)
    (c8 : PySem.W.codeIn K cd8 "row_ahead" = true)
    (k8 : PySem.W.keepIn K (.ref f8) = true)
    (a9 : PySem.W.nsIn K mainGlobals "lifted" = some (some (.ref f9)))
    (l9 : K.lookup f9 = some ⟨oc9, od9, .func (PySem.W.fnOf "lifted" "lifted" (defArgs sLifted) (defBody sLifted) (defScope sLifted) .none kV9 dc9 pm9 an9 cd9 ct9), sl9⟩)
    (c9 : PySem.W.codeIn K cd9 "lifted" = true)
    (k9 : PySem.W.keepIn K (.ref f9) = true)
    (a10 : PySem.W.nsIn K mainGlobals "kept_of" = some (some (.ref f10)))
    (l10 : K.lookup f10 = some ⟨oc10, od10, .func (PySem.W.fnOf "kept_of" "kept_of" (defArgs sKeptOf) (defBody sKeptOf) (defScope sKeptOf) .none kV10 dc10 pm10 an10 cd10 ct10), sl10⟩)
    (c10 : PySem.W.codeIn K cd10 "kept_of" = true)
    (k10 : PySem.W.keepIn K (.ref f10) = true)
    (a11 : PySem.W.nsIn K mainGlobals "kept" = some (some (.ref f11)))
    (l11 : K.lookup f11 = some ⟨oc11, od11, .func (PySem.W.fnOf "kept" "kept" (defArgs sKept) (defBody sKept) (defScope sKept) .none kV11 dc11 pm11 an11 cd11 ct11), sl11⟩)
    (c11 : PySem.W.codeIn K cd11 "kept" = true)
    (k11 : PySem.W.keepIn K (.ref f11) = true)
    (a12 : PySem.W.nsIn K mainGlobals "safe" = some (some (.ref f12)))
    (l12 : K.lookup f12 = some ⟨oc12, od12, .func (PySem.W.fnOf "safe" "safe" (defArgs sSafe) (defBody sSafe) (defScope sSafe) .none kV12 dc12 pm12 an12 cd12 ct12), sl12⟩)
    (c12 : PySem.W.codeIn K cd12 "safe" = true)
    (k12 : PySem.W.keepIn K (.ref f12) = true)
    (a13 : PySem.W.nsIn K mainGlobals "_law_random" = some (some (.ref f13)))
    (l13 : K.lookup f13 = some ⟨oc13, od13, .func (PySem.W.fnOf "_law_random" "_law_random" (defArgs sRandom) (defBody sRandom) (defScope sRandom) .none kV13 dc13 pm13 an13 cd13 ct13), sl13⟩)
    (c13 : PySem.W.codeIn K cd13 "_law_random" = true)
    (k13 : PySem.W.keepIn K (.ref f13) = true)
    (a14 : PySem.W.nsIn K mainGlobals "_law_below" = some (some (.ref f14)))
    (l14 : K.lookup f14 = some ⟨oc14, od14, .func (PySem.W.fnOf "_law_below" "_law_below" (defArgs sBelow) (defBody sBelow) (defScope sBelow) .none kV14 dc14 pm14 an14 cd14 ct14), sl14⟩)
    (c14 : PySem.W.codeIn K cd14 "_law_below" = true)
    (k14 : PySem.W.keepIn K (.ref f14) = true)
    (a15 : PySem.W.nsIn K mainGlobals "_law_pick" = some (some (.ref f15)))
    (l15 : K.lookup f15 = some ⟨oc15, od15, .func (PySem.W.fnOf "_law_pick" "_law_pick" (defArgs sPick) (defBody sPick) (defScope sPick) .none kV15 dc15 pm15 an15 cd15 ct15), sl15⟩)
    (c15 : PySem.W.codeIn K cd15 "_law_pick" = true)
    (k15 : PySem.W.keepIn K (.ref f15) = true)
    (a16 : PySem.W.nsIn K mainGlobals "_law_equal" = some (some (.ref f16)))
    (l16 : K.lookup f16 = some ⟨oc16, od16, .func (PySem.W.fnOf "_law_equal" "_law_equal" (defArgs sEqual) (defBody sEqual) (defScope sEqual) .none kV16 dc16 pm16 an16 cd16 ct16), sl16⟩)
    (c16 : PySem.W.codeIn K cd16 "_law_equal" = true)
    (k16 : PySem.W.keepIn K (.ref f16) = true)
    (a17 : PySem.W.nsIn K mainGlobals "_law_drawn" = some (some (.ref f17)))
    (l17 : K.lookup f17 = some ⟨oc17, od17, .func (PySem.W.fnOf "_law_drawn" "_law_drawn" (defArgs sDrawn) (defBody sDrawn) (defScope sDrawn) .none kV17 dc17 pm17 an17 cd17 ct17), sl17⟩)
    (c17 : PySem.W.codeIn K cd17 "_law_drawn" = true)
    (k17 : PySem.W.keepIn K (.ref f17) = true)
    (a18 : PySem.W.nsIn K mainGlobals "_law_made" = some (some (.ref f18)))
    (l18 : K.lookup f18 = some ⟨oc18, od18, .func (PySem.W.fnOf "_law_made" "_law_made" (defArgs sMade) (defBody sMade) (defScope sMade) .none kV18 dc18 pm18 an18 cd18 ct18), sl18⟩)
    (c18 : PySem.W.codeIn K cd18 "_law_made" = true)
    (k18 : PySem.W.keepIn K (.ref f18) = true)
    (a19 : PySem.W.nsIn K mainGlobals "_law_round" = some (some (.ref f19)))
    (l19 : K.lookup f19 = some ⟨oc19, od19, .func (PySem.W.fnOf "_law_round" "_law_round" (defArgs sRound) (defBody sRound) (defScope sRound) .none kV19 dc19 pm19 an19 cd19 ct19), sl19⟩)
    (c19 : PySem.W.codeIn K cd19 "_law_round" = true)
    (k19 : PySem.W.keepIn K (.ref f19) = true)
    (a20 : PySem.W.nsIn K mainGlobals "_law_number" = some (some (.ref f20)))
    (l20 : K.lookup f20 = some ⟨oc20, od20, .func (PySem.W.fnOf "_law_number" "_law_number" (defArgs sNumber) (defBody sNumber) (defScope sNumber) .none kV20 dc20 pm20 an20 cd20 ct20), sl20⟩)
    (c20 : PySem.W.codeIn K cd20 "_law_number" = true)
    (k20 : PySem.W.keepIn K (.ref f20) = true)
    (a21 : PySem.W.nsIn K mainGlobals "_law_great" = some (some (.ref f21)))
    (l21 : K.lookup f21 = some ⟨oc21, od21, .func (PySem.W.fnOf "_law_great" "_law_great" (defArgs sGreat) (defBody sGreat) (defScope sGreat) .none kV21 dc21 pm21 an21 cd21 ct21), sl21⟩)
    (c21 : PySem.W.codeIn K cd21 "_law_great" = true)
    (k21 : PySem.W.keepIn K (.ref f21) = true)
    (a22 : PySem.W.nsIn K mainGlobals "_law_refused" = some (some (.ref f22)))
    (l22 : K.lookup f22 = some ⟨oc22, od22, .func (PySem.W.fnOf "_law_refused" "_law_refused" (defArgs sRefused) (defBody sRefused) (defScope sRefused) .none kV22 dc22 pm22 an22 cd22 ct22), sl22⟩)
    (c22 : PySem.W.codeIn K cd22 "_law_refused" = true)
    (k22 : PySem.W.keepIn K (.ref f22) = true)
    (a23 : PySem.W.nsIn K mainGlobals "law" = some (some (.ref f23)))
    (l23 : K.lookup f23 = some ⟨oc23, od23, .func (PySem.W.fnOf "law" "law" (defArgs sLaw) (defBody sLaw) (defScope sLaw) .none kV23 dc23 pm23 an23 cd23 ct23), sl23⟩)
    (c23 : PySem.W.codeIn K cd23 "law" = true)
    (k23 : PySem.W.keepIn K (.ref f23) = true)
    (aC : PySem.W.nsIn K mainGlobals "Rhyme" = some (some (.ref C)))
    (aI : PySem.W.findIn K (.ref C) "__init__" = some (some (.ref fI)))
    (iI : PySem.W.isFn K (.ref fI) = true)
    (lI : K.lookup fI = some ⟨ocI, odI, .func (PySem.W.fnOf "__init__" "Rhyme.__init__" (defArgs sInit) (defBody sInit) (defScope sInit) .none kVI dcI pmI anI cdI ctI), slI⟩)
    (cI : PySem.W.codeIn K cdI "Rhyme.__init__" = true)
    (kI : PySem.W.keepIn K (.ref fI) = true)
    (aN : PySem.W.nsIn K mainGlobals "need_number" = some (some (.ref fN)))
    (lN : K.lookup fN = some ⟨ocN, odN, .func (PySem.W.fnOf "need_number" "need_number" (defArgs sNeed) (defBody sNeed) (defScope sNeed) (.ref TN) kVN dcN pmN anN cdN ctN), slN⟩)
    (cN : PySem.W.codeIn K cdN "need_number" = true)
    (kN : PySem.W.keepIn K (.ref fN) = true)
    (lT : K.lookup TN = some ⟨ocT, odT, .seq #[.int (10 ^ 30) tkT] nT, slT⟩)
    (pg : PySem.W.plainGet K C Str.empty = true)
    (hd : PySem.W.hasDictIn K C = true)
    (po : PySem.W.plainOver K C = true)
    (sa : PySem.W.findIn K (.ref C) "__setattr__" = some (some (.builtin "object.__setattr__")))
    (mk : PySem.W.makesIn K C = true)
    (kc : PySem.W.keepIn K (.ref C) = true)
    (nV : PySem.W.findIn K (.ref C) "own_verses" = some none)
    (nL : PySem.W.findIn K (.ref C) "own_left" = some none)
    (nR : PySem.W.findIn K (.ref C) "rises" = some none)
    (aB : PySem.W.nsIn K mainGlobals "BadNumber" = some (some (.ref CB)))
    (xB : PySem.W.excIn K CB [.type "ValueError", .type "Exception", .type "BaseException", .type "object"] "ValueError.__new__" = true)
    (kB : PySem.W.keepIn K (.ref CB) = true)
    (bB : PySem.W.subIn K (.ref CB) (.type "BaseException") = some true)
    (tB : PySem.W.typeIn K (.ref CB) = some (.type "type"))
    (iB : PySem.W.isClsIn K CB = true)
    (sB : PySem.W.subIn K (.ref CB) (.ref CB) = some true)
    (yc0 : PySem.W.nsIn K mainGlobals "ON" = some (some (.str "on" tk0)))
    (yc1 : PySem.W.nsIn K mainGlobals "BACK" = some (some (.str "back" tk1)))
    (yc2 : PySem.W.nsIn K mainGlobals "MOST_COUNT" = some (some (.int 6 tk2)))
    (yc3 : PySem.W.nsIn K mainGlobals "MOST_VERSES" = some (some (.int 4 tk3)))
    (yc4 : PySem.W.nsIn K mainGlobals "MOST_LEFT" = some (some (.int 3 tk4)))
    (yc5 : PySem.W.nsIn K mainGlobals "GREATEST" = some (some (.int (10 ^ 30) tk5)))
    (yc6 : PySem.W.nsIn K mainGlobals "FEW" = some (some (.int 64 tk6)))
    (yc7 : PySem.W.nsIn K mainGlobals "MOST_RANGE" = some (some (.int 200 tk7)))
    (z0 : PySem.W.nsIn K mainGlobals "len" = some none)
    (z1 : PySem.W.nsIn K mainGlobals "range" = some none)
    (z2 : PySem.W.nsIn K mainGlobals "int" = some none)
    (z3 : PySem.W.nsIn K mainGlobals "bool" = some none)
    (z4 : PySem.W.nsIn K mainGlobals "str" = some none)
    (z5 : PySem.W.nsIn K mainGlobals "tuple" = some none)
    (z6 : PySem.W.nsIn K mainGlobals "list" = some none)
    (z7 : PySem.W.nsIn K mainGlobals "dict" = some none)
    (z8 : PySem.W.nsIn K mainGlobals "sorted" = some none)
    (z9 : PySem.W.nsIn K mainGlobals "min" = some none)
    (z10 : PySem.W.nsIn K mainGlobals "abs" = some none)
    (z11 : PySem.W.nsIn K mainGlobals "all" = some none)
    (z12 : PySem.W.nsIn K mainGlobals "enumerate" = some none)
    (z13 : PySem.W.nsIn K mainGlobals "isinstance" = some none)
    : ∃ fd : FuncData, (∀ (s : Shared) (u : Value), BindsTo s fd ⟨[u], []⟩ [("_law_script", u)]) ∧ ∀ base : Heap, K.In base → base.Ns mainGlobals mg → FnOk P w K mg base CX0 7 fa fd ["_law_script"] (spLaw K) := by
  have e := hfa.symm.trans (PySem.W.mg_of X G a23)
  cases e
  have T : Txt K mg C CB := {
    len := PySem.W.mg_none_of X G z0
    range := PySem.W.mg_none_of X G z1
    int := PySem.W.mg_none_of X G z2
    bool := PySem.W.mg_none_of X G z3
    str := PySem.W.mg_none_of X G z4
    tuple := PySem.W.mg_none_of X G z5
    list := PySem.W.mg_none_of X G z6
    dict := PySem.W.mg_none_of X G z7
    sorted := PySem.W.mg_none_of X G z8
    min := PySem.W.mg_none_of X G z9
    abs := PySem.W.mg_none_of X G z10
    all := PySem.W.mg_none_of X G z11
    enumerate := PySem.W.mg_none_of X G z12
    isinstance := PySem.W.mg_none_of X G z13
    gON := ⟨_, PySem.W.mg_of X G yc0⟩
    gBACK := ⟨_, PySem.W.mg_of X G yc1⟩
    gCount := ⟨_, PySem.W.mg_of X G yc2⟩
    gVerses := ⟨_, PySem.W.mg_of X G yc3⟩
    gLeft := ⟨_, PySem.W.mg_of X G yc4⟩
    gGreatest := ⟨_, PySem.W.mg_of X G yc5⟩
    gFew := ⟨_, PySem.W.mg_of X G yc6⟩
    gRange := ⟨_, PySem.W.mg_of X G yc7⟩
    cl := ⟨pg, hd, po, sa⟩
    nV := nV
    nL := nL
    nR := nR
    gC := PySem.W.mg_of X G aC
    gB := PySem.W.mg_of X G aB
    xB := xB
    kB := kB
    bB := bB
    tB := tB
    eB := exm_self bB iB tB sB }
  have H0 := fun_mk (st := sBetween) l0 c0 k0
  have D0 : DefF K mg "is_between" sBetween ["value", "least", "most"] := ⟨_, _, H0, PySem.W.mg_of X G a0, H0.binds (ps := ["value", "least", "most"]) fun _ _ _ _ _ _ us hl => match us, hl with | [_, _, _], _ => rfl⟩
  have H1 := fun_mk (st := sVerse) l1 c1 k1
  have D1 : DefF K mg "is_verse" sVerse ["value"] := ⟨_, _, H1, PySem.W.mg_of X G a1, H1.binds (ps := ["value"]) fun _ _ _ _ _ _ us hl => match us, hl with | [_], _ => rfl⟩
  have H2 := fun_mk (st := sSums) l2 c2 k2
  have D2 : DefF K mg "sums_of" sSums ["row"] := ⟨_, _, H2, PySem.W.mg_of X G a2, H2.binds (ps := ["row"]) fun _ _ _ _ _ _ us hl => match us, hl with | [_], _ => rfl⟩
  have H3 := fun_mk (st := sTimes) l3 c3 k3
  have D3 : DefF K mg "times_above" sTimes ["room", "more"] := ⟨_, _, H3, PySem.W.mg_of X G a3, H3.binds (ps := ["room", "more"]) fun _ _ _ _ _ _ us hl => match us, hl with | [_, _], _ => rfl⟩
  have H4 := fun_mk (st := sLeast) l4 c4 k4
  have D4 : DefF K mg "least_of" sLeast ["some"] := ⟨_, _, H4, PySem.W.mg_of X G a4, H4.binds (ps := ["some"]) fun _ _ _ _ _ _ us hl => match us, hl with | [_], _ => rfl⟩
  have H5 := fun_mk (st := sClimbs) l5 c5 k5
  have D5 : DefF K mg "climbs" sClimbs ["place", "size", "sums"] := ⟨_, _, H5, PySem.W.mg_of X G a5, H5.binds (ps := ["place", "size", "sums"]) fun _ _ _ _ _ _ us hl => match us, hl with | [_, _, _], _ => rfl⟩
  have H6 := fun_mk (st := sBeside) l6 c6 k6
  have D6 : DefF K mg "beside" sBeside ["place", "size"] := ⟨_, _, H6, PySem.W.mg_of X G a6, H6.binds (ps := ["place", "size"]) fun _ _ _ _ _ _ us hl => match us, hl with | [_, _], _ => rfl⟩
  have H7 := fun_mk (st := sStay) l7 c7 k7
  have D7 : DefF K mg "does_stay" sStay ["row", "here"] := ⟨_, _, H7, PySem.W.mg_of X G a7, H7.binds (ps := ["row", "here"]) fun _ _ _ _ _ _ us hl => match us, hl with | [_, _], _ => rfl⟩
  have H8 := fun_mk (st := sAhead) l8 c8 k8
  have D8 : DefF K mg "row_ahead" sAhead ["rhyme", "n", "size"] := ⟨_, _, H8, PySem.W.mg_of X G a8, H8.binds (ps := ["rhyme", "n", "size"]) fun _ _ _ _ _ _ us hl => match us, hl with | [_, _, _], _ => rfl⟩
  have H9 := fun_mk (st := sLifted) l9 c9 k9
  have D9 : DefF K mg "lifted" sLifted ["rhyme", "place", "size", "n"] := ⟨_, _, H9, PySem.W.mg_of X G a9, H9.binds (ps := ["rhyme", "place", "size", "n"]) fun _ _ _ _ _ _ us hl => match us, hl with | [_, _, _, _], _ => rfl⟩
  have H10 := fun_mk (st := sKeptOf) l10 c10 k10
  have D10 : DefF K mg "kept_of" sKeptOf ["rhyme", "n"] := ⟨_, _, H10, PySem.W.mg_of X G a10, H10.binds (ps := ["rhyme", "n"]) fun _ _ _ _ _ _ us hl => match us, hl with | [_, _], _ => rfl⟩
  have H11 := fun_mk (st := sKept) l11 c11 k11
  have D11 : DefF K mg "kept" sKept ["rhyme", "n"] := ⟨_, _, H11, PySem.W.mg_of X G a11, H11.binds (ps := ["rhyme", "n"]) fun _ _ _ _ _ _ us hl => match us, hl with | [_, _], _ => rfl⟩
  have H12 := fun_mk (st := sSafe) l12 c12 k12
  have D12 : DefF K mg "safe" sSafe ["rhyme", "low", "high"] := ⟨_, _, H12, PySem.W.mg_of X G a12, H12.binds (ps := ["rhyme", "low", "high"]) fun _ _ _ _ _ _ us hl => match us, hl with | [_, _, _], _ => rfl⟩
  have H13 := fun_mk (st := sRandom) l13 c13 k13
  have D13 : DefF K mg "_law_random" sRandom ["_law_script", "_law_salt"] := ⟨_, _, H13, PySem.W.mg_of X G a13, H13.binds (ps := ["_law_script", "_law_salt"]) fun _ _ _ _ _ _ us hl => match us, hl with | [_, _], _ => rfl⟩
  have H14 := fun_mk (st := sBelow) l14 c14 k14
  have D14 : DefF K mg "_law_below" sBelow ["_law_d", "_law_size"] := ⟨_, _, H14, PySem.W.mg_of X G a14, H14.binds (ps := ["_law_d", "_law_size"]) fun _ _ _ _ _ _ us hl => match us, hl with | [_, _], _ => rfl⟩
  have H15 := fun_mk (st := sPick) l15 c15 k15
  have D15 : DefF K mg "_law_pick" sPick ["_law_d", "_law_items"] := ⟨_, _, H15, PySem.W.mg_of X G a15, H15.binds (ps := ["_law_d", "_law_items"]) fun _ _ _ _ _ _ us hl => match us, hl with | [_, _], _ => rfl⟩
  have H16 := fun_mk (st := sEqual) l16 c16 k16
  have D16 : DefF K mg "_law_equal" sEqual ["_law_actual", "_law_expected"] := ⟨_, _, H16, PySem.W.mg_of X G a16, H16.binds (ps := ["_law_actual", "_law_expected"]) fun _ _ _ _ _ _ us hl => match us, hl with | [_, _], _ => rfl⟩
  have H17 := fun_mk (st := sDrawn) l17 c17 k17
  have D17 : DefF K mg "_law_drawn" sDrawn ["_law_d"] := ⟨_, _, H17, PySem.W.mg_of X G a17, H17.binds (ps := ["_law_d"]) fun _ _ _ _ _ _ us hl => match us, hl with | [_], _ => rfl⟩
  have H18 := fun_mk (st := sMade) l18 c18 k18
  have D18 : DefF K mg "_law_made" sMade ["_law_t"] := ⟨_, _, H18, PySem.W.mg_of X G a18, H18.binds (ps := ["_law_t"]) fun _ _ _ _ _ _ us hl => match us, hl with | [_], _ => rfl⟩
  have H19 := fun_mk (st := sRound) l19 c19 k19
  have D19 : DefF K mg "_law_round" sRound ["_law_t", "_law_n"] := ⟨_, _, H19, PySem.W.mg_of X G a19, H19.binds (ps := ["_law_t", "_law_n"]) fun _ _ _ _ _ _ us hl => match us, hl with | [_, _], _ => rfl⟩
  have H20 := fun_mk (st := sNumber) l20 c20 k20
  have D20 : DefF K mg "_law_number" sNumber ["_law_d", "_law_t", "_law_most"] := ⟨_, _, H20, PySem.W.mg_of X G a20, H20.binds (ps := ["_law_d", "_law_t", "_law_most"]) fun _ _ _ _ _ _ us hl => match us, hl with | [_, _, _], _ => rfl⟩
  have H21 := fun_mk (st := sGreat) l21 c21 k21
  have D21 : DefF K mg "_law_great" sGreat ["_law_d"] := ⟨_, _, H21, PySem.W.mg_of X G a21, H21.binds (ps := ["_law_d"]) fun _ _ _ _ _ _ us hl => match us, hl with | [_], _ => rfl⟩
  have H22 := fun_mk (st := sRefused) l22 c22 k22
  have D22 : DefF K mg "_law_refused" sRefused ["_law_rhyme", "_law_low", "_law_high"] := ⟨_, _, H22, PySem.W.mg_of X G a22, H22.binds (ps := ["_law_rhyme", "_law_low", "_law_high"]) fun _ _ _ _ _ _ us hl => match us, hl with | [_, _, _], _ => rfl⟩
  have FL := fun_mk (st := sLaw) l23 c23 k23
  have HI := fun_mk (st := sInit) lI cI kI
  have bI := HI.binds (ps := ["self", "verses", "left"]) fun _ _ _ _ _ _ us hl => match us, hl with | [_, _, _], _ => rfl
  have HN : FunD K "need_number" "need_number" (defArgs sNeed) (defBody sNeed) (defScope sNeed) [.int (10 ^ 30)] [] fN _ :=
    ⟨⟨_, _, _, _, _, _, _, _, _, _, rfl, lN, cN, .inr ⟨by simp, TN, _, [.int (10 ^ 30) tkT], nT, rfl, lT, rfl, .cons ⟨_, rfl⟩ .nil⟩, .inl rfl⟩, kN⟩
  obtain ⟨ds, rd, bN⟩ := HN.binds1 (ps := ["rhyme", "value", "most"]) 2 0 (by simp) rfl fun T kV doc pm an cdv ct us its h1 h2 => match us, its, h1, h2 with | [_, _], [_], _, _ => ⟨_, rfl, rfl⟩
  have FN : NeedF K mg := ⟨fN, _, ds, HN, PySem.W.mg_of X G aN, rd, bN⟩
  exact ⟨_, fun s u => .of_eq rfl, fun base _ _ => all_ok T D0 D1 D2 D3 D4 D5 D6 D7 D8 D9 D10 D11 D12 D13 D14 D15 D16 D17 D18 D19 D20 D21 D22 FN HI bI ⟨mk, aI, iI, kc⟩ FL⟩
end K06
open PySem PySem.W PyProof.Rows
theorem PySem.Challenge.cw_outrhymes_k06_whole_safe_places_holds : PySem.Challenge.rw_outrhymes_k06_whole_safe_places.Holds := by
  w_on; o_law; k_head; (case hw => w_witness2)
  k_fill
  refine L2.walk_of (l := PySem.Challenge.rw_outrhymes_k06_whole_safe_places) (n := 63) (k := 7) (x := "_law_script") (CX := fun _ => L2.CX0) (sp := fun w => K06.spLaw _) rfl (by decide) rfl ⟨rfl, by decide, by decide⟩ (fun w h Y => PySem.W.kIn_of Y) ?F (fun _ _ a ns hl _ hS => ⟨a, ns, rfl, hS, hl, fun _ => rfl⟩) (fun _ _ _ _ _ z => z)
  case F =>
    intro w mg fa h KX G hmg
    refine' K06.all_mk KX G hmg ?a0 ?l0 ?c0 ?k0 ?a1 ?l1 ?c1 ?k1 ?a2 ?l2 ?c2 ?k2 ?a3 ?l3 ?c3 ?k3 ?a4 ?l4 ?c4 ?k4 ?a5 ?l5 ?c5 ?k5 ?a6 ?l6 ?c6 ?k6 ?a7 ?l7 ?c7 ?k7 ?a8 ?l8 ?c8 ?k8 ?a9 ?l9 ?c9 ?k9 ?a10 ?l10 ?c10 ?k10 ?a11 ?l11 ?c11 ?k11 ?a12 ?l12 ?c12 ?k12 ?a13 ?l13 ?c13 ?k13 ?a14 ?l14 ?c14 ?k14 ?a15 ?l15 ?c15 ?k15 ?a16 ?l16 ?c16 ?k16 ?a17 ?l17 ?c17 ?k17 ?a18 ?l18 ?c18 ?k18 ?a19 ?l19 ?c19 ?k19 ?a20 ?l20 ?c20 ?k20 ?a21 ?l21 ?c21 ?k21 ?a22 ?l22 ?c22 ?k22 ?a23 ?l23 ?c23 ?k23 ?aC ?aI ?iI ?lI ?cI ?kI ?aN ?lN ?cN ?kN ?lT ?pg ?hd ?po ?sa ?mk ?kc ?nV ?nL ?nR ?aB ?xB ?kB ?bB ?tB ?iB ?sB ?yc0 ?yc1 ?yc2 ?yc3 ?yc4 ?yc5 ?yc6 ?yc7 ?z0 ?z1 ?z2 ?z3 ?z4 ?z5 ?z6 ?z7 ?z8 ?z9 ?z10 ?z11 ?z12 ?z13
    (case a0 => k_is)
    (case l0 => k_is)
    (case c0 => k_is)
    (case k0 => k_is)
    (case a1 => k_is)
    (case l1 => k_is)
    (case c1 => k_is)
    (case k1 => k_is)
    (case a2 => k_is)
    (case l2 => k_is)
    (case c2 => k_is)
    (case k2 => k_is)
    (case a3 => k_is)
    (case l3 => k_is)
    (case c3 => k_is)
    (case k3 => k_is)
    (case a4 => k_is)
    (case l4 => k_is)
    (case c4 => k_is)
    (case k4 => k_is)
    (case a5 => k_is)
    (case l5 => k_is)
    (case c5 => k_is)
    (case k5 => k_is)
    (case a6 => k_is)
    (case l6 => k_is)
    (case c6 => k_is)
    (case k6 => k_is)
    (case a7 => k_is)
    (case l7 => k_is)
    (case c7 => k_is)
    (case k7 => k_is)
    (case a8 => k_is)
    (case l8 => k_is)
    (case c8 => k_is)
    (case k8 => k_is)
    (case a9 => k_is)
    (case l9 => k_is)
    (case c9 => k_is)
    (case k9 => k_is)
    (case a10 => k_is)
    (case l10 => k_is)
    (case c10 => k_is)
    (case k10 => k_is)
    (case a11 => k_is)
    (case l11 => k_is)
    (case c11 => k_is)
    (case k11 => k_is)
    (case a12 => k_is)
    (case l12 => k_is)
    (case c12 => k_is)
    (case k12 => k_is)
    (case a13 => k_is)
    (case l13 => k_is)
    (case c13 => k_is)
    (case k13 => k_is)
    (case a14 => k_is)
    (case l14 => k_is)
    (case c14 => k_is)
    (case k14 => k_is)
    (case a15 => k_is)
    (case l15 => k_is)
    (case c15 => k_is)
    (case k15 => k_is)
    (case a16 => k_is)
    (case l16 => k_is)
    (case c16 => k_is)
    (case k16 => k_is)
    (case a17 => k_is)
    (case l17 => k_is)
    (case c17 => k_is)
    (case k17 => k_is)
    (case a18 => k_is)
    (case l18 => k_is)
    (case c18 => k_is)
    (case k18 => k_is)
    (case a19 => k_is)
    (case l19 => k_is)
    (case c19 => k_is)
    (case k19 => k_is)
    (case a20 => k_is)
    (case l20 => k_is)
    (case c20 => k_is)
    (case k20 => k_is)
    (case a21 => k_is)
    (case l21 => k_is)
    (case c21 => k_is)
    (case k21 => k_is)
    (case a22 => k_is)
    (case l22 => k_is)
    (case c22 => k_is)
    (case k22 => k_is)
    (case a23 => k_is)
    (case l23 => k_is)
    (case c23 => k_is)
    (case k23 => k_is)
    (case aC => k_is)
    (case aI => k_is)
    (case iI => k_is)
    (case lI => k_is)
    (case cI => k_is)
    (case kI => k_is)
    (case aN => k_is)
    (case lN => k_is)
    (case cN => k_is)
    (case kN => k_is)
    (case lT => k_is)
    (case pg => k_is)
    (case hd => k_is)
    (case po => k_is)
    (case sa => k_is)
    (case mk => k_is)
    (case kc => k_is)
    (case nV => k_is)
    (case nL => k_is)
    (case nR => k_is)
    (case aB => k_is)
    (case xB => first | k_exc | k_is)
    (case kB => k_is)
    (case bB => k_is)
    (case tB => k_is)
    (case iB => k_is)
    (case sB => first | rfl | k_is)
    (case yc0 => k_is)
    (case yc1 => k_is)
    (case yc2 => k_is)
    (case yc3 => k_is)
    (case yc4 => k_is)
    (case yc5 => k_is)
    (case yc6 => k_is)
    (case yc7 => k_is)
    (case z0 => k_is)
    (case z1 => k_is)
    (case z2 => k_is)
    (case z3 => k_is)
    (case z4 => k_is)
    (case z5 => k_is)
    (case z6 => k_is)
    (case z7 => k_is)
    (case z8 => k_is)
    (case z9 => k_is)
    (case z10 => k_is)
    (case z11 => k_is)
    (case z12 => k_is)
    (case z13 => k_is)
#print axioms PySem.Challenge.cw_outrhymes_k06_whole_safe_places_holds
