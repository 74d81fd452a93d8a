import PyProof.Rows.All
import Wide.All
import OpenK.AllK
import Wide.FinOn
import KE.KDictZip
import KE.RegKIsAll
import HandS.ForMost
import HandS.TupMul
import HandS.TupAny
import HandS.Style
import HandS.SetFor
import HandS.Strs
import HandS.SortInts
import HandS.Zip
import HandS.Zip0
import HandS.ListItems
import HandS.IsInst
import HandS.Wide
import PySem.Challenge.RW_eachtongue_k63_great_rows_turn_at_told_s
set_option Elab.async false
set_option linter.all false
set_option autoImplicit false
/-! Rows of steps: the plain mathematics (no program in sight). -/
namespace Rw

/-- what a row tells of a size -/
def worth : List Int → Int → Int
  | [], _ => 0
  | a :: r, x => worth r x * x + a

def sgn (n : Int) : Int := if 0 < n then 1 else if n < 0 then -1 else 0

theorem sgn_pos {n : Int} (h : 0 < n) : sgn n = 1 := by unfold sgn; rw [if_pos h]
theorem sgn_neg {n : Int} (h : n < 0) : sgn n = -1 := by unfold sgn; rw [if_neg (by omega), if_pos h]
theorem sgn_zero : sgn 0 = 0 := by decide
theorem sgn_cases (n : Int) : (0 < n ∧ sgn n = 1) ∨ (n < 0 ∧ sgn n = -1) ∨ (n = 0 ∧ sgn n = 0) := by
  rcases Int.lt_trichotomy n 0 with h | h | h
  · exact .inr (.inl ⟨h, sgn_neg h⟩)
  · exact .inr (.inr ⟨h, by rw [h]; exact sgn_zero⟩)
  · exact .inl ⟨h, sgn_pos h⟩
theorem sgn_mono {m n : Int} (h : m ≤ n) : sgn m ≤ sgn n := by
  rcases sgn_cases m with ⟨a, e⟩ | ⟨a, e⟩ | ⟨a, e⟩ <;> rcases sgn_cases n with ⟨b, f⟩ | ⟨b, f⟩ | ⟨b, f⟩ <;> omega
theorem sgn_range (n : Int) : -1 ≤ sgn n ∧ sgn n ≤ 1 := by
  rcases sgn_cases n with ⟨a, e⟩ | ⟨a, e⟩ | ⟨a, e⟩ <;> omega
theorem sgn_sub (m n : Int) : sgn (m - n) = - sgn (n - m) := by
  rcases sgn_cases (m - n) with ⟨a, e⟩ | ⟨a, e⟩ | ⟨a, e⟩ <;> rcases sgn_cases (n - m) with ⟨b, f⟩ | ⟨b, f⟩ | ⟨b, f⟩ <;> omega

/-! ### worth -/
theorem worth_append_zero : ∀ (l : List Int) (x : Int), worth (l ++ [0]) x = worth l x
  | [], x => by simp [worth]
  | a :: r, x => by
    show worth (r ++ [0]) x * x + a = worth r x * x + a
    rw [worth_append_zero r x]
theorem worth_replicate : ∀ (n : Nat) (x : Int), worth (List.replicate n 0) x = 0
  | 0, x => rfl
  | n + 1, x => by
    rw [List.replicate_succ]
    show worth (List.replicate n 0) x * x + 0 = 0
    rw [worth_replicate n x]; simp
theorem worth_append_zeros : ∀ (l : List Int) (n : Nat) (x : Int), worth (l ++ List.replicate n 0) x = worth l x
  | [], n, x => by rw [List.nil_append, worth_replicate]; rfl
  | a :: r, n, x => by
    show worth (r ++ List.replicate n 0) x * x + a = worth r x * x + a
    rw [worth_append_zeros r n x]
theorem worth_zipSub : ∀ (a b : List Int) (x : Int), a.length = b.length → worth (List.zipWith (· - ·) a b) x = worth a x - worth b x
  | [], [], x, _ => by simp [worth]
  | a :: r, b :: s, x, h => by
    have ih := worth_zipSub r s x (by simpa using h)
    show worth (List.zipWith (· - ·) r s) x * x + (a - b) = worth r x * x + a - (worth s x * x + b)
    rw [ih, Int.sub_mul]; omega
  | [], _ :: _, _, h => by simp at h
  | _ :: _, [], _, h => by simp at h
theorem worth_zipAdd : ∀ (a b : List Int) (x : Int), a.length = b.length → worth (List.zipWith (· + ·) a b) x = worth a x + worth b x
  | [], [], x, _ => by simp [worth]
  | a :: r, b :: s, x, h => by
    have ih := worth_zipAdd r s x (by simpa using h)
    show worth (List.zipWith (· + ·) r s) x * x + (a + b) = worth r x * x + a + (worth s x * x + b)
    rw [ih, Int.add_mul]; omega
  | [], _ :: _, _, h => by simp at h
  | _ :: _, [], _, h => by simp at h

def pad (n : Nat) (a : List Int) : List Int := a ++ List.replicate (n - a.length) 0
theorem pad_length {n : Nat} {a : List Int} (h : a.length ≤ n) : (pad n a).length = n := by
  unfold pad; rw [List.length_append, List.length_replicate]; omega
def rowLess (a b : List Int) : List Int := List.zipWith (· - ·) (pad (max a.length b.length) a) (pad (max a.length b.length) b)
theorem rowLess_length (a b : List Int) : (rowLess a b).length = max a.length b.length := by
  unfold rowLess
  rw [List.length_zipWith, pad_length (by omega), pad_length (by omega)]; omega
theorem worth_rowLess (a b : List Int) (x : Int) : worth (rowLess a b) x = worth a x - worth b x := by
  unfold rowLess
  rw [worth_zipSub _ _ _ (by rw [pad_length (by omega), pad_length (by omega)])]
  unfold pad
  rw [worth_append_zeros, worth_append_zeros]

/-! ### a row at one size more -/
def sh : List Int → List Int
  | [] => []
  | a :: r => List.zipWith (· + ·) (sh r ++ [0]) (a :: sh r)
theorem sh_length : ∀ r : List Int, (sh r).length = r.length
  | [] => rfl
  | a :: r => by
    show (List.zipWith (· + ·) (sh r ++ [0]) (a :: sh r)).length = r.length + 1
    rw [List.length_zipWith, List.length_append, List.length_cons, List.length_cons, sh_length r]
    show min (r.length + 1) (r.length + 1) = r.length + 1
    omega
theorem worth_sh : ∀ (r : List Int) (x : Int), worth (sh r) x = worth r (x + 1)
  | [], x => rfl
  | a :: r, x => by
    show worth (List.zipWith (· + ·) (sh r ++ [0]) (a :: sh r)) x = worth r (x + 1) * (x + 1) + a
    rw [worth_zipAdd _ _ _ (by simp), worth_append_zero]
    show worth (sh r) x + (worth (sh r) x * x + a) = _
    rw [worth_sh r x, Int.mul_add]; omega
theorem zip_last {f : Int → Int → Int} : ∀ (a b : List Int) (u v : Int), a.length = b.length → a.getLast? = some u → b.getLast? = some v → (List.zipWith f a b).getLast? = some (f u v)
  | [], _, _, _, _, h, _ => by simp at h
  | _ :: _, [], _, _, h, _, _ => by simp at h
  | [a], [b], u, v, _, h1, h2 => by
    simp at h1 h2; subst h1; subst h2; rfl
  | [a], b :: c :: s, _, _, h, _, _ => by simp at h
  | a :: c :: s, [b], _, _, h, _, _ => by simp at h
  | a :: c :: r, b :: d :: s, u, v, h, h1, h2 => by
    have ih := zip_last (f := f) (c :: r) (d :: s) u v (by simpa using h) (by simpa using h1) (by simpa using h2)
    show (f a b :: f c d :: List.zipWith f r s).getLast? = _
    rw [List.getLast?_cons_cons]
    exact ih
theorem sh_last : ∀ r : List Int, (sh r).getLast? = r.getLast?
  | [] => rfl
  | [a] => by simp [sh]
  | a :: b :: r => by
    have ih := sh_last (b :: r)
    have hne : (b :: r).getLast? = some ((b :: r).getLast (by simp)) := List.getLast?_eq_some_getLast (by simp)
    rw [hne] at ih
    rw [List.getLast?_cons_cons, hne]
    show (List.zipWith (· + ·) (sh (b :: r) ++ [0]) (a :: sh (b :: r))).getLast? = _
    have hcons : (a :: sh (b :: r)).getLast? = some ((b :: r).getLast (by simp)) := by
      cases e : sh (b :: r) with
      | nil => rw [e] at ih; simp at ih
      | cons c s => rw [List.getLast?_cons_cons, ← e]; exact ih
    have h := zip_last (f := (· + ·)) (sh (b :: r) ++ [0]) (a :: sh (b :: r)) 0 _ (by simp) (by simp) hcons
    rw [h]; simp
def growth (r : List Int) : List Int := (rowLess (sh r) r).dropLast
theorem growth_length (r : List Int) : (growth r).length = r.length - 1 := by
  unfold growth
  rw [List.length_dropLast, rowLess_length, sh_length]; simp
theorem rowLess_same_last {a b : List Int} {u v : Int} (hl : a.length = b.length) (h1 : a.getLast? = some u) (h2 : b.getLast? = some v) : (rowLess a b).getLast? = some (u - v) := by
  have e1 : pad (max a.length b.length) a = a := by unfold pad; rw [show max a.length b.length - a.length = 0 by omega]; simp
  have e2 : pad (max a.length b.length) b = b := by unfold pad; rw [show max a.length b.length - b.length = 0 by omega]; simp
  unfold rowLess
  rw [e1, e2]
  exact zip_last a b u v hl h1 h2
theorem worth_growth (r : List Int) (x : Int) : worth (growth r) x = worth r (x + 1) - worth r x := by
  rw [← worth_sh r x, ← worth_rowLess]
  unfold growth
  cases r with
  | nil => rfl
  | cons a s =>
    have hne : (a :: s).getLast? = some ((a :: s).getLast (by simp)) := List.getLast?_eq_some_getLast (by simp)
    have h1 := sh_last (a :: s)
    rw [hne] at h1
    have h2 := rowLess_same_last (sh_length (a :: s)) h1 hne
    rw [Int.sub_self] at h2
    have hn : rowLess (sh (a :: s)) (a :: s) ≠ [] := by
      intro e; rw [e] at h2; simp at h2
    have h3 : (rowLess (sh (a :: s)) (a :: s)).getLast hn = 0 := by
      have := List.getLast?_eq_some_getLast hn
      rw [this] at h2; exact Option.some.inj h2
    have h4 := List.dropLast_concat_getLast hn
    rw [h3] at h4
    rw [← worth_append_zero (rowLess (sh (a :: s)) (a :: s)).dropLast x, h4]

/-! ### behind the sum of all numbers no sign turns -/
def asum : List Int → Int
  | [] => 0
  | a :: r => (if a < 0 then -a else a) + asum r
theorem asum_nonneg : ∀ r : List Int, 0 ≤ asum r
  | [] => by decide
  | a :: r => by
    have := asum_nonneg r
    show 0 ≤ (if a < 0 then -a else a) + asum r
    split <;> omega
def lead : List Int → Int
  | [] => 0
  | a :: r => if lead r = 0 then sgn a else lead r
theorem lead_range : ∀ r : List Int, -1 ≤ lead r ∧ lead r ≤ 1
  | [] => by decide
  | a :: r => by
    show -1 ≤ (if lead r = 0 then sgn a else lead r) ∧ (if lead r = 0 then sgn a else lead r) ≤ 1
    have h1 := lead_range r
    have h2 := sgn_range a
    split <;> omega
theorem sgn_far : ∀ (r : List Int) (x : Int), asum r < x → sgn (worth r x) = lead r
  | [], x, _ => by simp [worth, lead, sgn_zero]
  | a :: r, x, h => by
    have hs : asum (a :: r) = (if a < 0 then -a else a) + asum r := rfl
    have h0 := asum_nonneg r
    have hr : asum r < x := by rw [hs] at h; split at h <;> omega
    have ih := sgn_far r x hr
    show sgn (worth r x * x + a) = if lead r = 0 then sgn a else lead r
    rcases sgn_cases (worth r x) with ⟨p, e⟩ | ⟨p, e⟩ | ⟨p, e⟩
    · rw [if_neg (by omega), ← ih, e]
      refine sgn_pos ?_
      have h1 : 1 * x ≤ worth r x * x := Int.mul_le_mul_of_nonneg_right (by omega) (by omega)
      rw [hs] at h
      split at h <;> omega
    · rw [if_neg (by omega), ← ih, e]
      refine sgn_neg ?_
      have h1 : worth r x * x ≤ (-1) * x := Int.mul_le_mul_of_nonneg_right (by omega) (by omega)
      rw [hs] at h
      split at h <;> omega
    · rw [if_pos (by omega), p]; simp

/-! ### turns -/
/-- at x the sign is another one than just ahead -/
def Turn (f : Int → Int) (x : Int) : Prop := sgn (f x) ≠ sgn (f (x - 1))
theorem no_turn_far {r : List Int} {x : Int} (h : asum r + 1 < x) : ¬ Turn (worth r) x := by
  unfold Turn
  rw [sgn_far r x (by omega), sgn_far r (x - 1) (by omega)]
  exact fun z => z rfl
/-- between lo and hi the function goes one way -/
def Mono (f : Int → Int) (lo hi : Int) : Prop :=
  (∀ x y, lo ≤ x → x ≤ y → y ≤ hi → f x ≤ f y) ∨ (∀ x y, lo ≤ x → x ≤ y → y ≤ hi → f y ≤ f x)
theorem step_up {f : Int → Int} {lo hi : Int} (h : ∀ x, lo ≤ x → x < hi → f x ≤ f (x + 1)) : ∀ (n : Nat) (x : Int), lo ≤ x → x + n ≤ hi → f x ≤ f (x + n)
  | 0, x, _, _ => by simp
  | n + 1, x, h1, h2 => by
    have a := step_up h n x h1 (by omega)
    have b := h (x + n) (by omega) (by omega)
    have e : x + ((n + 1 : Nat) : Int) = x + n + 1 := by omega
    rw [e]; omega
theorem step_down {f : Int → Int} {lo hi : Int} (h : ∀ x, lo ≤ x → x < hi → f (x + 1) ≤ f x) : ∀ (n : Nat) (x : Int), lo ≤ x → x + n ≤ hi → f (x + n) ≤ f x
  | 0, x, _, _ => by simp
  | n + 1, x, h1, h2 => by
    have a := step_down h n x h1 (by omega)
    have b := h (x + n) (by omega) (by omega)
    have e : x + ((n + 1 : Nat) : Int) = x + n + 1 := by omega
    rw [e]; omega
theorem same_sign {g : Int → Int} {lo hi : Int} (h : ∀ x, lo < x → x < hi → ¬ Turn g x) : ∀ (n : Nat) (x : Int), x = lo + n → x < hi → sgn (g x) = sgn (g lo)
  | 0, x, e, _ => by
    have : x = lo := by omega
    rw [this]
  | n + 1, x, e, hx => by
    have ih := same_sign h n (x - 1) (by omega) (by omega)
    have ht := h x (by omega) hx
    unfold Turn at ht
    have : sgn (g x) = sgn (g (x - 1)) := Classical.byContradiction ht
    rw [this, ih]
/-- where the growth keeps its sign the function goes one way -/
theorem mono_of {f g : Int → Int} (hg : ∀ x, g x = f (x + 1) - f x) {lo hi : Int} (h : ∀ x, lo < x → x < hi → ¬ Turn g x) : Mono f lo hi := by
  have hs : ∀ x, lo ≤ x → x < hi → sgn (g x) = sgn (g lo) := fun x h1 h2 => same_sign h (x - lo).toNat x (by omega) h2
  have up : ∀ f' : Int → Int, (∀ x, lo ≤ x → x < hi → f' x ≤ f' (x + 1)) → ∀ x y, lo ≤ x → x ≤ y → y ≤ hi → f' x ≤ f' y := fun f' h' x y h1 h2 h3 => by
    have := step_up h' (y - x).toNat x h1 (by omega)
    have e : x + ((y - x).toNat : Int) = y := by omega
    rw [e] at this; exact this
  have down : ∀ f' : Int → Int, (∀ x, lo ≤ x → x < hi → f' (x + 1) ≤ f' x) → ∀ x y, lo ≤ x → x ≤ y → y ≤ hi → f' y ≤ f' x := fun f' h' x y h1 h2 h3 => by
    have := step_down h' (y - x).toNat x h1 (by omega)
    have e : x + ((y - x).toNat : Int) = y := by omega
    rw [e] at this; exact this
  rcases sgn_cases (g lo) with ⟨p, e⟩ | ⟨p, e⟩ | ⟨p, e⟩
  · refine .inl (up f fun x h1 h2 => ?_)
    have a := hs x h1 h2
    have b := hg x
    rcases sgn_cases (g x) with ⟨q, e'⟩ | ⟨q, e'⟩ | ⟨q, e'⟩ <;> omega
  · refine .inr (down f fun x h1 h2 => ?_)
    have a := hs x h1 h2
    have b := hg x
    rcases sgn_cases (g x) with ⟨q, e'⟩ | ⟨q, e'⟩ | ⟨q, e'⟩ <;> omega
  · refine .inl (up f fun x h1 h2 => ?_)
    have a := hs x h1 h2
    have b := hg x
    rcases sgn_cases (g x) with ⟨q, e'⟩ | ⟨q, e'⟩ | ⟨q, e'⟩ <;> omega
theorem Mono.sub {f : Int → Int} {lo hi lo' hi' : Int} (h : Mono f lo hi) (h1 : lo ≤ lo') (h2 : hi' ≤ hi) : Mono f lo' hi' := by
  rcases h with h | h
  · exact .inl fun x y a b c => h x y (by omega) b (by omega)
  · exact .inr fun x y a b c => h x y (by omega) b (by omega)
/-- a sign that is met at both ends stands throughout -/
theorem Mono.same {f : Int → Int} {lo hi : Int} (h : Mono f lo hi) {u v : Int} (hu : lo ≤ u) (huv : u ≤ v) (hv : v ≤ hi) (e : sgn (f u) = sgn (f v)) {x : Int} (h1 : u ≤ x) (h2 : x ≤ v) : sgn (f x) = sgn (f u) := by
  rcases h with h | h
  · have a := sgn_mono (h u x hu h1 (by omega))
    have b := sgn_mono (h x v (by omega) h2 hv)
    omega
  · have a := sgn_mono (h u x hu h1 (by omega))
    have b := sgn_mono (h x v (by omega) h2 hv)
    omega
theorem Mono.noturn {f : Int → Int} {lo hi : Int} (h : Mono f lo hi) {u v : Int} (hu : lo ≤ u) (huv : u ≤ v) (hv : v ≤ hi) (e : sgn (f u) = sgn (f v)) {x : Int} (h1 : u < x) (h2 : x ≤ v) : ¬ Turn f x := by
  unfold Turn
  rw [h.same hu huv hv e (x := x) (by omega) h2, h.same hu huv hv e (x := x - 1) (by omega) (by omega)]
  exact fun z => z rfl

/-! ### the first of the least -/
def best : List Int → Nat
  | [] => 0
  | a :: l => if ∀ y ∈ l, a ≤ y then 0 else best l + 1
theorem best_spec : ∀ l : List Int, l ≠ [] → ∃ m, l[best l]? = some m ∧ (∀ y ∈ l, m ≤ y) ∧ ∀ i, i < best l → ∀ y, l[i]? = some y → m < y
  | [], h => absurd rfl h
  | a :: l, _ => by
    by_cases h : ∀ y ∈ l, a ≤ y
    · have e : best (a :: l) = 0 := by unfold best; rw [if_pos h]
      rw [e]
      refine ⟨a, rfl, fun y hy => ?_, fun i hi => absurd hi (by omega)⟩
      rcases List.mem_cons.mp hy with z | z
      · omega
      · exact h y z
    · have e : best (a :: l) = best l + 1 := by show (if ∀ y ∈ l, a ≤ y then 0 else best l + 1) = _; rw [if_neg h]
      have hl : l ≠ [] := fun z => h (by rw [z]; intro y hy; simp at hy)
      obtain ⟨m, h1, h2, h3⟩ := best_spec l hl
      have hma : m < a := by
        apply Classical.byContradiction
        intro z
        exact h fun y hy => by have := h2 y hy; omega
      rw [e]
      refine ⟨m, h1, fun y hy => ?_, fun i hi y hy => ?_⟩
      · rcases List.mem_cons.mp hy with z | z
        · omega
        · exact h2 y z
      · cases i with
        | zero =>
          have : a = y := Option.some.inj hy
          omega
        | succ j => exact h3 j (by omega) y hy
theorem best_uniq {l : List Int} {j : Nat} {m : Int} (h1 : l[j]? = some m) (h2 : ∀ y ∈ l, m ≤ y) (h3 : ∀ i, i < j → ∀ y, l[i]? = some y → m < y) : best l = j := by
  have hl : l ≠ [] := fun e => by rw [e] at h1; simp at h1
  obtain ⟨m', k1, k2, k3⟩ := best_spec l hl
  have a := h2 m' (List.mem_of_getElem? k1)
  have b := k2 m (List.mem_of_getElem? h1)
  rcases Nat.lt_trichotomy (best l) j with z | z | z
  · have := h3 _ z _ k1; omega
  · exact z
  · have := k3 _ z _ h1; omega
theorem best_lt {l : List Int} (h : l ≠ []) : best l < l.length := by
  obtain ⟨m, h1, _⟩ := best_spec l h
  exact (List.getElem?_eq_some_iff.mp h1).1
/-- two lists in the same order have their first least at the same place -/
theorem best_congr {l l' : List Int} (hl : l.length = l'.length) (h : ∀ (i j : Nat) (a b a' b' : Int), l[i]? = some a → l[j]? = some b → l'[i]? = some a' → l'[j]? = some b' → (a ≤ b ↔ a' ≤ b')) : best l = best l' := by
  by_cases e : l = []
  · have e' : l' = [] := by
      rw [e] at hl; exact List.eq_nil_of_length_eq_zero hl.symm
    rw [e, e']
  · obtain ⟨m, h1, h2, h3⟩ := best_spec l e
    have hb := best_lt e
    have hb' : best l < l'.length := by omega
    have g1 : l'[best l]? = some l'[best l] := List.getElem?_eq_getElem hb'
    refine (best_uniq g1 (fun y hy => ?_) (fun i hi y hy => ?_)).symm
    · obtain ⟨k, hk⟩ := List.getElem?_of_mem hy
      have hkl : k < l.length := by
        have := (List.getElem?_eq_some_iff.mp hk).1; omega
      have hk' : l[k]? = some l[k] := List.getElem?_eq_getElem hkl
      exact (h _ _ _ _ _ _ h1 hk' g1 hk).mp (h2 _ (List.mem_of_getElem? hk'))
    · have hil : i < l.length := by omega
      have hi' : l[i]? = some l[i] := List.getElem?_eq_getElem hil
      have q := h3 i hi _ hi'
      apply Classical.byContradiction
      intro z
      have := (h _ _ _ _ _ _ hi' h1 hy g1).mpr (by omega)
      omega

/-- the row of the fewest steps at a size -/
def bst (rows : List (List Int)) (x : Int) : Nat := best (rows.map (worth · x))
/-- some two rows turn at x -/
def AnyTurn (rows : List (List Int)) (x : Int) : Prop := ∃ i j : Nat, j < i ∧ ∃ a b, rows[i]? = some a ∧ rows[j]? = some b ∧ Turn (worth (rowLess a b)) x
theorem le_iff_sgn {a b : Int} : a ≤ b ↔ sgn (a - b) ≤ 0 := by
  rcases sgn_cases (a - b) with ⟨p, e⟩ | ⟨p, e⟩ | ⟨p, e⟩ <;> omega
theorem bst_same {rows : List (List Int)} {x : Int} (h : ¬ AnyTurn rows x) : bst rows x = bst rows (x - 1) := by
  have key : ∀ (i j : Nat) (a b : List Int), j < i → rows[i]? = some a → rows[j]? = some b → sgn (worth a x - worth b x) = sgn (worth a (x - 1) - worth b (x - 1)) := fun i j a b hij ha hb => by
    apply Classical.byContradiction
    intro z
    refine h ⟨i, j, hij, a, b, ha, hb, ?_⟩
    unfold Turn
    rw [worth_rowLess, worth_rowLess]
    exact z
  unfold bst
  refine best_congr (by simp) fun i j a b a' b' h1 h2 h3 h4 => ?_
  rw [List.getElem?_map, Option.map_eq_some_iff] at h1 h2 h3 h4
  obtain ⟨r, hr, rfl⟩ := h1
  obtain ⟨s, hs, rfl⟩ := h2
  obtain ⟨r', hr', rfl⟩ := h3
  obtain ⟨s', hs', rfl⟩ := h4
  rw [hr] at hr'; cases hr'
  rw [hs] at hs'; cases hs'
  rcases Nat.lt_trichotomy i j with z | z | z
  · have q := key j i s r z hs hr
    rw [le_iff_sgn, le_iff_sgn (a := worth r (x - 1)), sgn_sub, sgn_sub (worth r (x - 1)), q]
  · subst z
    rw [hr] at hs; cases hs
    exact ⟨fun _ => Int.le_refl _, fun _ => Int.le_refl _⟩
  · have q := key i j r s z hr hs
    rw [le_iff_sgn, le_iff_sgn (a := worth r (x - 1)), q]

/-! ### from which size on which row -/
/-- the due pairs, in order -/
structure IsDue (b : Int → Nat) (l : List (Int × Nat)) : Prop where
  asc : l.Pairwise (fun p q => p.1 < q.1)
  mem : ∀ s n, (s, n) ∈ l ↔ 0 ≤ s ∧ n = b s ∧ (s = 0 ∨ b s ≠ b (s - 1))
theorem asc_ext : ∀ (l l' : List (Int × Nat)), l.Pairwise (fun p q => p.1 < q.1) → l'.Pairwise (fun p q => p.1 < q.1) → (∀ p, p ∈ l ↔ p ∈ l') → l = l'
  | [], [], _, _, _ => rfl
  | [], q :: l', _, _, h => absurd ((h q).mpr List.mem_cons_self) (by simp)
  | p :: l, [], _, _, h => absurd ((h p).mp List.mem_cons_self) (by simp)
  | p :: l, q :: l', h1, h2, h => by
    have a1 := List.pairwise_cons.mp h1
    have a2 := List.pairwise_cons.mp h2
    have e : p = q := by
      rcases List.mem_cons.mp ((h p).mp List.mem_cons_self) with z | z
      · exact z
      · rcases List.mem_cons.mp ((h q).mpr List.mem_cons_self) with y | y
        · exact y.symm
        · have b1 := a2.1 p z
          have b2 := a1.1 q y
          omega
    subst e
    refine congrArg (p :: ·) (asc_ext l l' a1.2 a2.2 fun r => ⟨fun hr => ?_, fun hr => ?_⟩)
    · rcases List.mem_cons.mp ((h r).mp (List.mem_cons_of_mem _ hr)) with z | z
      · subst z; have := a1.1 _ hr; omega
      · exact z
    · rcases List.mem_cons.mp ((h r).mpr (List.mem_cons_of_mem _ hr)) with z | z
      · subst z; have := a2.1 _ hr; omega
      · exact z
theorem IsDue.uniq {b : Int → Nat} {l l' : List (Int × Nat)} (h : IsDue b l) (h' : IsDue b l') : l = l' :=
  asc_ext l l' h.asc h'.asc fun p => by
    obtain ⟨s, n⟩ := p
    rw [h.mem, h'.mem]

/-- what a loop over ascending sizes has found behind some of them: all turns of b up to `top`, the last number being b of `top` -/
structure Found (b : Int → Nat) (l : List (Int × Nat)) (top : Int) : Prop where
  asc : l.Pairwise (fun p q => p.1 < q.1)
  mem : ∀ s n, (s, n) ∈ l ↔ 0 ≤ s ∧ s ≤ top ∧ n = b s ∧ (s = 0 ∨ b s ≠ b (s - 1))
  last : ∃ p, l.getLast? = some p ∧ p.2 = b top
theorem Found.first (b : Int → Nat) : Found b [(0, b 0)] 0 := by
  refine ⟨List.pairwise_singleton _ _, fun s n => ?_, ⟨(0, b 0), rfl, rfl⟩⟩
  rw [List.mem_singleton, Prod.mk.injEq]
  constructor
  · rintro ⟨rfl, rfl⟩; exact ⟨by omega, by omega, rfl, .inl rfl⟩
  · rintro ⟨h1, h2, h3, _⟩
    have : s = 0 := by omega
    subst this; exact ⟨rfl, h3⟩
theorem const_between {b : Int → Nat} {top t : Int} (hq : ∀ x, top < x → x < t → b x = b (x - 1)) : ∀ (n : Nat) (x : Int), x = top + n → x < t → b x = b top
  | 0, x, e, _ => by rw [show x = top by omega]
  | n + 1, x, e, h => by rw [hq x (by omega) h, const_between hq n (x - 1) (by omega) (by omega)]
theorem Found.next {b : Int → Nat} {l : List (Int × Nat)} {top t : Int} (F : Found b l top) (h0 : 0 ≤ top) (ht : top < t) (hq : ∀ x, top < x → x < t → b x = b (x - 1)) :
    Found b (if ∃ p, l.getLast? = some p ∧ p.2 ≠ b t then l ++ [(t, b t)] else l) t := by
  obtain ⟨p, hp, hpb⟩ := F.last
  have hb : b (t - 1) = b top := const_between hq (t - 1 - top).toNat (t - 1) (by omega) (by omega)
  have hmid : ∀ s, top < s → s < t → b s = b (s - 1) := hq
  by_cases h : b t = b top
  · rw [if_neg (by
      rintro ⟨p', e, ne⟩
      rw [hp] at e; cases e
      exact ne (by rw [hpb, h]))]
    refine ⟨F.asc, fun s n => ?_, ⟨p, hp, by rw [hpb, h]⟩⟩
    rw [F.mem]
    constructor
    · rintro ⟨h1, h2, h3, h4⟩; exact ⟨h1, by omega, h3, h4⟩
    · rintro ⟨h1, h2, h3, h4⟩
      refine ⟨h1, ?_, h3, h4⟩
      apply Classical.byContradiction
      intro z
      rcases h4 with h4 | h4
      · omega
      · by_cases hst : s = t
        · subst hst; exact h4 (by rw [hb, h])
        · exact h4 (hmid s (by omega) (by omega))
  · rw [if_pos ⟨p, hp, by rw [hpb]; exact fun z => h z.symm⟩]
    refine ⟨?_, fun s n => ?_, ⟨(t, b t), by simp, rfl⟩⟩
    · rw [List.pairwise_append]
      refine ⟨F.asc, List.pairwise_singleton _ _, fun q hq' r hr => ?_⟩
      rw [List.mem_singleton] at hr
      subst hr
      have := (F.mem q.1 q.2).mp hq'
      show q.1 < t
      omega
    · rw [List.mem_append, List.mem_singleton, F.mem, Prod.mk.injEq]
      constructor
      · rintro (⟨h1, h2, h3, h4⟩ | ⟨rfl, rfl⟩)
        · exact ⟨h1, by omega, h3, h4⟩
        · exact ⟨by omega, by omega, rfl, .inr (by rw [hb]; exact h)⟩
      · rintro ⟨h1, h2, h3, h4⟩
        by_cases hst : s = t
        · subst hst; exact .inr ⟨rfl, h3⟩
        · refine .inl ⟨h1, ?_, h3, h4⟩
          apply Classical.byContradiction
          intro z
          rcases h4 with h4 | h4
          · omega
          · exact h4 (hmid s (by omega) (by omega))
theorem Found.due {b : Int → Nat} {l : List (Int × Nat)} {top : Int} (F : Found b l top) (h : ∀ x, top < x → b x = b (x - 1)) (h0 : 0 ≤ top) : IsDue b l := by
  refine ⟨F.asc, fun s n => ?_⟩
  rw [F.mem]
  constructor
  · rintro ⟨h1, h2, h3, h4⟩; exact ⟨h1, h3, h4⟩
  · rintro ⟨h1, h3, h4⟩
    refine ⟨h1, ?_, h3, h4⟩
    apply Classical.byContradiction
    intro z
    rcases h4 with h4 | h4
    · omega
    · exact h4 (h s (by omega))
end Rw
namespace Rw
/-! ### the shift, place by place -/
def bump (old : List Int) (a : Int) : List Int := List.zipWith (· + ·) old (a :: old.dropLast)
theorem bump_length (old : List Int) (a : Int) (h : old ≠ []) : (bump old a).length = old.length := by
  unfold bump
  rw [List.length_zipWith, List.length_cons, List.length_dropLast]
  have : old.length ≠ 0 := fun e => h (List.eq_nil_of_length_eq_zero e)
  omega
theorem bump_sh (s : List Int) (a : Int) (k : Nat) : bump (sh s ++ List.replicate (k + 1) 0) a = sh (a :: s) ++ List.replicate k 0 := by
  have e1 : sh s ++ List.replicate (k + 1) 0 = (sh s ++ [0]) ++ List.replicate k 0 := by
    rw [List.replicate_succ, List.append_assoc]; rfl
  have e2 : (sh s ++ List.replicate (k + 1) (0 : Int)).dropLast = sh s ++ List.replicate k 0 := by
    rw [List.replicate_succ', ← List.append_assoc, List.dropLast_concat]
  unfold bump
  rw [e2, e1, ← List.cons_append, List.zipWith_append (by simp), List.zipWith_replicate]
  simp [sh]
/-- behind j turns of the inner loop, from the end -/
def inner (old : List Int) (j : Nat) : List Int := (List.range old.length).map fun k => if old.length - 1 - j < k then old.getD k 0 + old.getD (k - 1) 0 else old.getD k 0
theorem inner_length (old : List Int) (j : Nat) : (inner old j).length = old.length := by unfold inner; simp
theorem inner_get {old : List Int} {j k : Nat} (h : k < old.length) : (inner old j)[k]? = some (if old.length - 1 - j < k then old.getD k 0 + old.getD (k - 1) 0 else old.getD k 0) := by
  unfold inner
  rw [List.getElem?_map, List.getElem?_range h]; rfl
theorem inner_zero (old : List Int) : inner old 0 = old := by
  refine List.ext_getElem? fun k => ?_
  by_cases h : k < old.length
  · rw [inner_get h, if_neg (by omega), List.getD_eq_getElem?_getD, List.getElem?_eq_getElem h]; rfl
  · rw [List.getElem?_eq_none (by rw [inner_length]; omega), List.getElem?_eq_none (by omega)]
theorem inner_next {old : List Int} {j : Nat} (h : j < old.length - 1) :
    (inner old j).set (old.length - 1 - j) (old.getD (old.length - 1 - j) 0 + old.getD (old.length - 1 - j - 1) 0) = inner old (j + 1) := by
  refine List.ext_getElem? fun k => ?_
  by_cases hk : k < old.length
  · rw [inner_get hk]
    by_cases e : k = old.length - 1 - j
    · rw [← e, List.getElem?_set_self (by rw [inner_length]; exact hk), if_pos (by omega)]
    · rw [List.getElem?_set_ne (Ne.symm e), inner_get hk]
      by_cases q : old.length - 1 - j < k
      · rw [if_pos q, if_pos (by omega)]
      · rw [if_neg q, if_neg (by omega)]
  · rw [List.getElem?_eq_none (by rw [List.length_set, inner_length]; omega), List.getElem?_eq_none (by rw [inner_length]; omega)]
theorem inner_last {old : List Int} {a : Int} (h : old ≠ []) : (inner old (old.length - 1)).set 0 (old.getD 0 0 + a) = bump old a := by
  have h0 : 0 < old.length := Nat.pos_of_ne_zero fun e => h (List.eq_nil_of_length_eq_zero e)
  refine List.ext_getElem? fun k => ?_
  by_cases hk : k < old.length
  · have hb : (bump old a)[k]? = some (old.getD k 0 + (if k = 0 then a else old.getD (k - 1) 0)) := by
      unfold bump
      rw [List.getElem?_zipWith, List.getElem?_eq_getElem hk]
      cases k with
      | zero => rw [List.getD_eq_getElem?_getD, List.getElem?_eq_getElem hk]; rfl
      | succ i =>
        rw [List.getElem?_cons_succ, List.getElem?_dropLast, if_pos (by omega), List.getElem?_eq_getElem (show i < old.length by omega)]
        rw [List.getD_eq_getElem?_getD, List.getElem?_eq_getElem hk, if_neg (by omega), Nat.add_sub_cancel, List.getD_eq_getElem?_getD, List.getElem?_eq_getElem (show i < old.length by omega)]; rfl
    rw [hb]
    by_cases e : k = 0
    · subst e
      rw [List.getElem?_set_self (by rw [inner_length]; exact h0), if_pos rfl]
    · rw [List.getElem?_set_ne (Ne.symm e), inner_get hk, if_pos (by omega), if_neg e]
  · rw [List.getElem?_eq_none (by rw [List.length_set, inner_length]; omega), List.getElem?_eq_none (by rw [bump_length _ _ h]; omega)]
end Rw
namespace Rw
theorem mono_step {f : Int → Int} {lo hi c x : Int} (h : Mono f lo hi) (h1 : lo ≤ c) (h2 : c < x) (h3 : x ≤ hi) (ne : sgn (f x) ≠ sgn (f c)) : (sgn (f c) - sgn (f lo)).natAbs + 1 ≤ (sgn (f x) - sgn (f lo)).natAbs := by
  rcases h with h | h
  · have a := sgn_mono (h lo c (by omega) h1 (by omega))
    have b := sgn_mono (h c x h1 (by omega) h3)
    omega
  · have a := sgn_mono (h lo c (by omega) h1 (by omega))
    have b := sgn_mono (h c x h1 (by omega) h3)
    omega
theorem sgn_two (m n : Int) : (sgn m - sgn n).natAbs ≤ 2 := by
  have a := sgn_range m
  have b := sgn_range n
  omega
/-- the turns up to x, where the sign stands from c to x - 1 and turns at x -/
theorem turns_next {f : Int → Int} {lo hi c x : Int} (h : Mono f lo hi) (h1 : lo ≤ c) (h2 : c < x) (h3 : x ≤ hi) (ne : sgn (f x) ≠ sgn (f c)) (e : sgn (f (x - 1)) = sgn (f c)) {l : List Int} (hl : ∀ y, y ∈ l ↔ lo < y ∧ y ≤ c ∧ Turn f y) (y : Int) :
    y ∈ l ++ [x] ↔ lo < y ∧ y ≤ x ∧ Turn f y := by
  rw [List.mem_append, List.mem_singleton, hl]
  constructor
  · rintro (⟨a, b, t⟩ | rfl)
    · exact ⟨a, by omega, t⟩
    · exact ⟨by omega, Int.le_refl _, by unfold Turn; rw [e]; exact ne⟩
  · rintro ⟨a, b, t⟩
    by_cases q : y ≤ c
    · exact .inl ⟨a, q, t⟩
    · by_cases z : y = x
      · exact .inr z
      · exact absurd t (h.noturn h1 (show c ≤ x - 1 by omega) (by omega) e.symm (by omega) (by omega))
theorem turns_done {f : Int → Int} {lo hi c : Int} (h : Mono f lo hi) (h1 : lo ≤ c) (h3 : c ≤ hi) (e : sgn (f hi) = sgn (f c)) {l : List Int} (hl : ∀ y, y ∈ l ↔ lo < y ∧ y ≤ c ∧ Turn f y) (y : Int) :
    y ∈ l ↔ lo < y ∧ y ≤ hi ∧ Turn f y := by
  rw [hl]
  constructor
  · rintro ⟨a, b, t⟩; exact ⟨a, by omega, t⟩
  · rintro ⟨a, b, t⟩
    refine ⟨a, ?_, t⟩
    apply Classical.byContradiction
    intro q
    exact h.noturn h1 h3 (Int.le_refl _) e.symm (by omega) b t
def grow : Nat → List Int → List Int
  | 0, ns => ns
  | i + 1, ns => growth (grow i ns)
theorem grow_length (ns : List Int) : ∀ i : Nat, (grow i ns).length = ns.length - i
  | 0 => rfl
  | i + 1 => by
    show (growth (grow i ns)).length = _
    rw [growth_length, grow_length ns i]; omega
theorem gap {l : List Int} (h : l.Pairwise (· < ·)) {j : Nat} {u v x : Int} (hu : l[j]? = some u) (hv : l[j + 1]? = some v) (h1 : u < x) (h2 : x < v) : x ∉ l := fun hx => by
  obtain ⟨k, hk⟩ := List.getElem?_of_mem hx
  obtain ⟨hkl, ek⟩ := List.getElem?_eq_some_iff.mp hk
  obtain ⟨hjl, ej⟩ := List.getElem?_eq_some_iff.mp hu
  obtain ⟨hvl, ev⟩ := List.getElem?_eq_some_iff.mp hv
  rw [List.pairwise_iff_getElem] at h
  rcases Nat.lt_trichotomy k j with q | q | q
  · have := h k j hkl hjl q; omega
  · subst q; omega
  · by_cases e : k = j + 1
    · subst e; omega
    · have := h (j + 1) k hvl hkl (by omega); omega
theorem asc_next {l : List Int} (h : l.Pairwise (· < ·)) {j : Nat} {u v : Int} (hu : l[j]? = some u) (hv : l[j + 1]? = some v) : u < v := by
  obtain ⟨hjl, ej⟩ := List.getElem?_eq_some_iff.mp hu
  obtain ⟨hvl, ev⟩ := List.getElem?_eq_some_iff.mp hv
  rw [List.pairwise_iff_getElem] at h
  have := h j (j + 1) hjl hvl (by omega)
  omega
/-- the bounds: 0, the turns below most, most -/
def bnds (l : List Int) (most : Int) : List Int := [0] ++ l.filter (fun t => decide (t < most)) ++ [most]
theorem bnds_asc {l : List Int} {most : Int} (h : l.Pairwise (· < ·)) (h0 : ∀ x ∈ l, 0 < x) (hm : 0 < most) : (bnds l most).Pairwise (· < ·) := by
  unfold bnds
  rw [List.pairwise_append]
  refine ⟨?_, List.pairwise_singleton _ _, fun a ha b hb => ?_⟩
  · rw [List.pairwise_append]
    refine ⟨List.pairwise_singleton _ _, h.filter _, fun a ha b hb => ?_⟩
    rw [List.mem_singleton] at ha
    have := h0 b (List.mem_filter.mp hb).1
    omega
  · rw [List.mem_singleton] at hb
    rcases List.mem_append.mp ha with q | q
    · rw [List.mem_singleton] at q; omega
    · have := of_decide_eq_true (List.mem_filter.mp q).2; omega
theorem bnds_length (l : List Int) (most : Int) : (bnds l most).length = (l.filter (fun t => decide (t < most))).length + 2 := by
  unfold bnds; simp
theorem bnds_first (l : List Int) (most : Int) : (bnds l most)[0]? = some 0 := by unfold bnds; simp
theorem bnds_last (l : List Int) (most : Int) : (bnds l most)[(bnds l most).length - 1]? = some most := by
  rw [bnds_length]
  unfold bnds
  rw [List.getElem?_append_right (by simp), List.length_append, List.length_singleton]
  rw [show (l.filter (fun t => decide (t < most))).length + 2 - 1 - (1 + (l.filter (fun t => decide (t < most))).length) = 0 by omega]
  rfl
theorem bnds_mem {l : List Int} {most x : Int} (h : x ∈ l) (hx : x < most) : x ∈ bnds l most := by
  unfold bnds
  exact List.mem_append_left _ (List.mem_append_right _ (List.mem_filter.mpr ⟨h, decide_eq_true hx⟩))
theorem bnds_range {l : List Int} {most : Int} (h : l.Pairwise (· < ·)) (h0 : ∀ x ∈ l, 0 < x) (hm : 0 < most) {j : Nat} {u : Int} (hu : (bnds l most)[j]? = some u) : 0 ≤ u ∧ u ≤ most := by
  have hx := List.mem_of_getElem? hu
  unfold bnds at hx
  rcases List.mem_append.mp hx with q | q
  · rcases List.mem_append.mp q with q | q
    · rw [List.mem_singleton] at q; omega
    · have a := h0 u (List.mem_filter.mp q).1
      have b := of_decide_eq_true (List.mem_filter.mp q).2
      omega
  · rw [List.mem_singleton] at q; omega
theorem const_no_turn {ns : List Int} (h : ns.length ≤ 1) (x : Int) : ¬ Turn (worth ns) x := by
  unfold Turn
  match ns, h with
  | [], _ => exact fun z => z rfl
  | [a], _ => show ¬ sgn (0 * x + a) ≠ sgn (0 * (x - 1) + a); rw [Int.zero_mul, Int.zero_mul]; exact fun z => z rfl
/-- on each stretch of the bounds of its growth's turns a row goes one way -/
theorem stretch_mono {g : List Int} {l : List Int} {most : Int} (hl : g.length ≤ 1 ∨ ∀ x, x ∈ l ↔ 0 < x ∧ x ≤ most ∧ Turn (worth (growth g)) x) (h : l.Pairwise (· < ·)) (h0 : ∀ x ∈ l, 0 < x) (hm : 0 < most)
    {j : Nat} {u v : Int} (hu : (bnds l most)[j]? = some u) (hv : (bnds l most)[j + 1]? = some v) : Mono (worth g) u v := by
  refine mono_of (g := worth (growth g)) (fun x => worth_growth g x) fun x h1 h2 ht => ?_
  have a := (bnds_range h h0 hm hu).1
  have b := (bnds_range h h0 hm hv).2
  rcases hl with q | q
  · exact const_no_turn (by rw [growth_length]; omega) x ht
  · exact gap (bnds_asc h h0 hm) hu hv h1 h2 (bnds_mem ((q x).mpr ⟨by omega, by omega, ht⟩) (by omega))
end Rw
namespace Rw
def ab (a : Int) : Int := if a < 0 then -a else a
theorem asum_sum : ∀ l : List Int, (l.map ab).sum = asum l
  | [] => rfl
  | a :: r => by rw [List.map_cons, List.sum_cons, asum_sum r]; rfl
theorem asum_append : ∀ a b : List Int, asum (a ++ b) = asum a + asum b
  | [], b => by show asum b = 0 + asum b; omega
  | x :: a, b => by
    show ab x + asum (a ++ b) = ab x + asum a + asum b
    rw [asum_append a b]; omega
theorem asum_zeros : ∀ n : Nat, asum (List.replicate n 0) = 0
  | 0 => rfl
  | n + 1 => by
    rw [List.replicate_succ]
    show ab 0 + asum (List.replicate n 0) = 0
    rw [asum_zeros n]; rfl
theorem asum_zip : ∀ a b : List Int, asum (List.zipWith (· - ·) a b) ≤ asum a + asum b
  | [], b => by
    have := asum_nonneg b
    show (0 : Int) ≤ 0 + asum b; omega
  | a :: r, [] => by
    have := asum_nonneg (a :: r)
    show (0 : Int) ≤ asum (a :: r) + 0; omega
  | a :: r, b :: s => by
    have ih := asum_zip r s
    show ab (a - b) + asum (List.zipWith (· - ·) r s) ≤ ab a + asum r + (ab b + asum s)
    have : ab (a - b) ≤ ab a + ab b := by unfold ab; split <;> split <;> split <;> omega
    omega
theorem asum_rowLess (a b : List Int) : asum (rowLess a b) ≤ asum a + asum b := by
  unfold rowLess
  have h := asum_zip (pad (max a.length b.length) a) (pad (max a.length b.length) b)
  unfold pad at h ⊢
  rw [asum_append, asum_append, asum_zeros, asum_zeros] at h
  omega
def tri : Nat → Nat
  | 0 => 0
  | n + 1 => tri n + n
theorem tri_mono : ∀ {m n : Nat}, m ≤ n → tri m ≤ tri n
  | m, 0, h => by rw [Nat.le_zero.mp h]; exact Nat.le_refl _
  | m, n + 1, h => by
    rcases Nat.lt_or_ge m (n + 1) with z | z
    · exact Nat.le_trans (tri_mono (show m ≤ n by omega)) (Nat.le_add_right _ _)
    · rw [show m = n + 1 by omega]; exact Nat.le_refl _
/-- some two rows below i, or the i-th and one below j, turn at x -/
def TurnTo (rows : List (List Int)) (i j : Nat) (x : Int) : Prop :=
  ∃ k m : Nat, m < k ∧ (k < i ∨ (k = i ∧ m < j)) ∧ ∃ a b, rows[k]? = some a ∧ rows[m]? = some b ∧ Turn (worth (rowLess a b)) x
theorem TurnTo.zero (rows : List (List Int)) (x : Int) : ¬ TurnTo rows 0 0 x := by
  rintro ⟨k, m, h1, h2, _⟩; omega
theorem TurnTo.row {rows : List (List Int)} {i : Nat} {x : Int} : TurnTo rows i i x ↔ TurnTo rows (i + 1) 0 x := by
  constructor
  · rintro ⟨k, m, h1, h2, h3⟩; exact ⟨k, m, h1, by omega, h3⟩
  · rintro ⟨k, m, h1, h2, h3⟩; exact ⟨k, m, h1, by omega, h3⟩
theorem TurnTo.next {rows : List (List Int)} {i j : Nat} {a b : List Int} (ha : rows[i]? = some a) (hb : rows[j]? = some b) (hij : j < i) {x : Int} : TurnTo rows i (j + 1) x ↔ TurnTo rows i j x ∨ Turn (worth (rowLess a b)) x := by
  constructor
  · rintro ⟨k, m, h1, h2, a', b', e1, e2, t⟩
    by_cases c : k = i ∧ m = j
    · obtain ⟨rfl, rfl⟩ := c
      rw [ha] at e1; cases e1
      rw [hb] at e2; cases e2
      exact .inr t
    · exact .inl ⟨k, m, h1, by omega, a', b', e1, e2, t⟩
  · rintro (⟨k, m, h1, h2, h3⟩ | t)
    · exact ⟨k, m, h1, by omega, h3⟩
    · exact ⟨i, j, hij, .inr ⟨rfl, by omega⟩, a, b, ha, hb, t⟩
theorem TurnTo.all {rows : List (List Int)} {x : Int} : TurnTo rows rows.length 0 x ↔ AnyTurn rows x := by
  constructor
  · rintro ⟨k, m, h1, h2, h3⟩; exact ⟨k, m, h1, h3⟩
  · rintro ⟨k, m, h1, a, b, e1, e2, t⟩
    exact ⟨k, m, h1, .inl (List.getElem?_eq_some_iff.mp e1).1, a, b, e1, e2, t⟩
end Rw
set_option maxRecDepth 100000
set_option maxHeartbeats 4000000
namespace EaR
open PySem PySem.Spec PyProof.Rows L2
/-! t * k for k of 1 and of nothing -/
section
variable {X : Cx}
theorem mulOne (l : Addr) (items : Array Value) (n : Nat) (dd : Option Addr) (sl : Array (Option Value)) (u : Tok) :
    Meets (Builtin.«tuple.__mul__» ⟨[.ref l, .int 1 u], []⟩) (fun _ R s => s.heap.get? l = some { cls := .type "tuple", dict := dd, data := .seq items n, slots := sl } ∧ R (.ok (.ret (Value.ref l))) s) :=
  .of_wp fun prog w A R s h => by
    obtain ⟨hp, g, d, tk, os⟩ := s
    obtain ⟨hl, h⟩ := h
    have hix := AutoSeq1.idx_int
    have hty : (⟨hp, g, d, tk, os⟩ : Shared).TypeIs (.ref l) "tuple" := ⟨_, hl, rfl⟩
    wp_walk using wpAny_loadPart' hl
    exact ⟨_, rfl, h⟩
theorem mulNone (l : Addr) (items : Array Value) (n : Nat) (dd : Option Addr) (sl : Array (Option Value)) (x : Int) (u : Tok) (c0 : (decide (x < -(2 ^ 63)) || decide (x ≥ 2 ^ 63)) = false) (c1 : (items.isEmpty || x == 1) = false) (c2 : (decide (x ≤ 0) || items.isEmpty) = true) :
    Meets (Builtin.«tuple.__mul__» ⟨[.ref l, .int x u], []⟩) (fun _ R s => s.heap.get? l = some { cls := .type "tuple", dict := dd, data := .seq items n, slots := sl } ∧
      R (.ok (.ret (Value.ref s.heap.objs.size))) { s with heap := s.heap.push { cls := Value.type "tuple", data := Data.seq #[] } }) :=
  .of_wp fun prog w A R s h => by
    obtain ⟨hp, g, d, tk, os⟩ := s
    obtain ⟨hl, h⟩ := h
    have hix := AutoSeq1.idx_int
    wp_walk using wpAny_loadPart' hl
    refine wpAny_ite_false (decide_eq_false (by rw [c0]; exact Bool.false_ne_true)) ?_
    wp_walk using wpAny_loadPart' hl
    exact ⟨_, rfl, h⟩
/-- t * k, k not above a thousand -/
def rRepA (K : PySem.W.Frag) : R2 := fun x y H Q => ∃ l k xs, x = .ref l ∧ y = .int k ∧ SqT K H l xs ∧ xs ≠ [] ∧ -(2 ^ 63) ≤ k ∧ k ≤ 1000 ∧ xs.length ≤ 1000 ∧ (k = 1 → Q (.ref l) H) ∧
  (k ≠ 1 → ∀ p, H p = none → Q (.ref p) (upd H p (.tup (List.replicate k.toNat xs).flatten)))
theorem op_repA : OpR X (binaryOp .Mult) (rRepA X.K) := by
  intro pins s σ H x y v u Q I rx ry h
  obtain ⟨l, k, xs, rfl, rfl, hT, hne, h1, h2, hz, q1, q2⟩ := h
  by_cases hk : 2 ≤ k
  · exact op_repT pins s σ H _ _ v u Q I rx ry ⟨l, k, xs, rfl, rfl, hT, hne, hk, h2, hz, q2 (by omega)⟩
  · cases rx
    obtain ⟨t, rfl⟩ := ry
    obtain ⟨its, r, ⟨⟨cls, dd, data, sl⟩, ho, hc, n, hd⟩, hs⟩ := I.tuple hT
    simp only at hc hd
    subst hc hd
    have hle : its.length = xs.length := r.length.symm
    have hi : its.toArray.isEmpty = false := by
      cases its with
      | nil => exact absurd (List.eq_nil_of_length_eq_zero hle.symm) hne
      | cons a b => rfl
    refine wpAny_binaryOp_repeat_ref (T := "tuple") (U := "int") (by decide) ⟨_, ho, rfl⟩ (fun s' => typeIs_int s' k t) noFill_tuple_mul F.fills_int_mul F.slot_int_rmul repeat_tuple F.slot_int_index.lookup
      (call_meets F.slot_int_rmul (typeIs_int s k t) F.entry_int_rmul (F.args_int_rmul_2 _ _) (int_rmul_tuple k t l its.toArray n dd sl) ⟨ho, rfl, ⟨_, ho, rfl⟩, ?_⟩)
    by_cases k1 : k = 1
    · subst k1
      exact call_meets F.slot_tuple_mul ⟨_, ho, rfl⟩ F.entry_tuple_mul (F.args_tuple_mul_2 _ _) (mulOne l its.toArray n dd sl t) ⟨ho, ⟨.ref l, H, I, rfl, q1 rfl⟩⟩
    · have c0 : (decide (k < -(2 ^ 63)) || decide (k ≥ 2 ^ 63)) = false := by
        rw [decide_eq_false (by omega), decide_eq_false (by omega)] <;> rfl
      have c1 : (its.toArray.isEmpty || k == 1) = false := by
        rw [hi, Bool.false_or]
        exact beq_eq_false_iff_ne.mpr k1
      have c2 : (decide (k ≤ 0) || its.toArray.isEmpty) = true := by rw [decide_eq_true (by omega)] <;> rfl
      refine call_meets F.slot_tuple_mul ⟨_, ho, rfl⟩ F.entry_tuple_mul (F.args_tuple_mul_2 _ _) (mulNone l its.toArray n dd sl k t c0 c1 c2) ⟨ho, ?_⟩
      have e0 : (List.replicate k.toNat xs).flatten = [] := by rw [show k.toNat = 0 by omega]; rfl
      have q3 := q2 k1
      rw [e0] at q3
      exact ⟨.ref s.heap.objs.size, _, I.laid (t' := s.toks) (o := .tup []) (fun b ob q => Heap.get?_push_of_some _ q) (Nat.le_refl _) ⟨Nat.zero_le _, [], .nil, IsTup.new _ _⟩, rfl, q3 _ (I.hok.fresh (Nat.le_refl _))⟩
end
end EaR
set_option maxRecDepth 100000
set_option maxHeartbeats 4000000
namespace EaR
open PySem PySem.Spec PyProof.Rows L2
/-! t[::-1] of a tuple -/
theorem back_adjust (n : Nat) : Builtin.Slice.sliceAdjust none none (-1) (n : Int) = ((n : Int) - 1, -1) := rfl
theorem back_places (n : Nat) : Builtin.Slice.slicePlaces ((n : Int) - 1) (-1) (-1) = n := by
  unfold Builtin.Slice.slicePlaces
  have h1 : ¬ ((-1 : Int) > 0) := by decide
  simp only [h1, if_false]
  split
  · rw [show (- -1 : Int) = 1 by decide, Int.ediv_one]; omega
  · omega
theorem filterMap_some {α β : Type} {f : α → Option β} {g : α → β} : ∀ {l : List α}, (∀ k ∈ l, f k = some (g k)) → l.filterMap f = l.map g
  | [], _ => rfl
  | a :: l, h => by
    rw [List.filterMap_cons, h a List.mem_cons_self]
    show g a :: l.filterMap f = g a :: l.map g
    rw [filterMap_some fun k hk => h k (List.mem_cons_of_mem _ hk)]
theorem back_pick (xs : Array Value) : ((List.range xs.size).filterMap fun (k : Nat) => xs[(((xs.size : Int) - 1) + (k : Int) * (-1)).toNat]?) = xs.toList.reverse := by
  have e : xs.toList.reverse = (List.range xs.size).map fun k => xs.toList.reverse.getD k .none := by
    refine List.ext_getElem (by simp) fun i h1 h2 => ?_
    rw [List.getElem_map, List.getElem_range, List.getD_eq_getElem?_getD, List.getElem?_eq_getElem h1]
    rfl
  rw [e]
  refine filterMap_some fun k hk => ?_
  have hk' : k < xs.size := List.mem_range.mp hk
  have h2 : k < xs.toList.reverse.length := by simpa using hk'
  have h3 : (((xs.size : Int) - 1) + (k : Int) * (-1)).toNat = xs.size - 1 - k := by omega
  rw [h3]
  rw [List.getD_eq_getElem?_getD, List.getElem?_eq_getElem h2, List.getElem_reverse]
  have h4 : xs.size - 1 - k < xs.size := by omega
  rw [Array.getElem?_eq_getElem h4]
  simp
section
variable {prog : Program} {w : World} {A : Around} {E : Value → Shared → Prop} {s : Shared}
theorem back_applied {sl : Addr} {vs : Value} {n : Nat} {Q : Int × Int × Nat → Shared → Prop} (hs : s.heap.IsSliceOf sl .none .none vs) (ps : IsPart vs (some (-1)))
    (h : Q ((n : Int) - 1, -1, n) s) : wpAny (model prog w) A (Builtin.Slice.sliceApplied (.ref sl) (pure (n : Int))) Q E s := by
  obtain ⟨os, hos, _, hds⟩ := id hs
  unfold Builtin.Slice.sliceApplied Builtin.Slice.sliceFields
  refine wpAny_bind (wpAny_bind (wpAny_field hos hds (x := .none) rfl (wpAny_bind (wpAny_field hos hds (x := .none) rfl (wpAny_bind (wpAny_field hos hds (x := vs) rfl (wpAny_pure ?_)))))))
  refine wpAny_bind (HT.slicePart_ ps ?_)
  show wpAny _ _ (if ((-1 : Int) == 0) = true then _ else _) _ _ s
  rw [if_neg (by decide)]
  refine wpAny_bind (HT.slicePart_ .none (wpAny_bind (HT.slicePart_ .none (wpAny_bind (wpAny_pure ?_)))))
  show wpAny _ _ (match Builtin.Slice.sliceAdjust none none (-1) (n : Int) with | (lo, hi) => pure (lo, (-1 : Int), Builtin.Slice.slicePlaces lo hi (-1))) _ _ s
  rw [back_adjust]
  show wpAny _ _ (pure ((n : Int) - 1, (-1 : Int), Builtin.Slice.slicePlaces ((n : Int) - 1) (-1) (-1))) _ _ s
  rw [back_places]
  exact wpAny_pure h
theorem back_item {t sl : Addr} {items : Array Value} {vs : Value} {Q : Value → Shared → Prop} (ht : IsTup s.heap t items) (hs : s.heap.IsSliceOf sl .none .none vs) (ps : IsPart vs (some (-1)))
    (h : Q (.ref s.heap.objs.size) { s with heap := s.heap.push { cls := .type "tuple", data := .seq items.toList.reverse.toArray } }) (hsz : items.size ≤ sizeLine) : wpAny (model prog w) A (getItem (.ref t) (.ref sl)) Q E s := by
  have hfit : sizeOk (.seq items.toList.reverse.toArray) := by
    show items.toList.reverse.toArray.size ≤ sizeLine
    simpa using hsz
  have hTs : s.TypeIs (.ref sl) "slice" := let ⟨os, hos, hcs, _⟩ := hs; ⟨os, hos, hcs⟩
  unfold getItem
  try with_reducible refine wpAny_holding ?_
  first | refine wpAny_bind (wpAny_pure ?_) | skip
  refine wpAny_bind (wpAny_sequenceKey ht.typeIs (by decide) ?_)
  refine wpAny_bind (wpAny_callSpecial?_slot (name := Str.ofString "__getitem__") ht.typeIs PyProof.Rows.slot_tuple_getitem
    (wpAny_call_entry PyProof.Rows.slot_tuple_getitem ht.typeIs entry_tuple_getitem ?_ (args_tuple_getitem _ _)))
  show wpAny _ _ (Builtin.Tuple.tupleItemsOf (.ref t) >>= _) _ _ s
  refine wpAny_bind (tupleItemsOf_ ht (wpAny_bind (wpAny_typeOf hTs ?_)))
  rw [if_pos (by decide)]
  refine wpAny_bind (back_applied hs ps ?_)
  have hno : ¬ ((((items.size : Int) - 1) == 0 && (-1 : Int) == 1 && items.size == items.size) = true) := by simp
  show wpAny _ _ (if (((items.size : Int) - 1) == 0 && (-1 : Int) == 1 && items.size == items.size) = true then _ else _) _ _ s
  rw [if_neg hno, back_pick]
  first
    | exact wpAny_bind (m := Builtin.Tuple.tupleExact _) (wpAny_newObj_type (wpAny_pure ⟨_, rfl, wpAny_pure h⟩) hfit)
    | exact wpAny_bind (m := Builtin.Tuple.tupleExact _) (wpAny_newObj_type (wpAny_bind (wpAny_pure (wpAny_pure ⟨_, rfl, wpAny_pure h⟩))) hfit)
    | exact wpAny_bind (wpAny_bind (m := Builtin.Tuple.tupleExact _) (wpAny_newObj_type (wpAny_pure (wpAny_pure ⟨_, rfl, wpAny_pure h⟩)) hfit))
    | exact wpAny_bind (wpAny_bind (m := Builtin.Tuple.tupleExact _) (wpAny_newObj_type (wpAny_pure ⟨_, rfl, wpAny_pure h⟩) hfit))
end
section
variable {X : Cx}
def tBackT (K : PySem.W.Frag) (te : TE) : TE := fun σ H Q => te σ H fun x H1 => ∃ a xs, x = .ref a ∧ SqT K H1 a xs ∧ ∀ p, H1 p = none → Q (.ref p) (upd H1 p (.tup xs.reverse))
theorem pe_backT {e : Expr} {te : TE} {k : Nat} {p1 p2 p3 pos : Pos} (he : PE X e te) : PE X (.Subscript e (.Slice none none (some (.UnaryOp .USub (.Constant (.int 1) k p1) p2)) p3) pos) (tBackT X.K te) := by
  refine ⟨fun pins s σ H Q I h => Subscript_ (thn (he.run pins s σ H _ I h) fun v s1 ⟨x, H1, I1, r1, q1⟩ => ?_)⟩
  obtain ⟨a, xs, ex, hx, q⟩ := q1
  subst ex
  cases r1
  have hst : PO X (some (.UnaryOp .USub (.Constant (.int 1) k p1) p2)) (tPart (tUn (rU fun i => .int (-i)) (tC (.int 1)))) := po_some (pe_un un_neg pe_int)
  refine wpAny_Slice (thn (po_none.run pins s1 σ H1 (fun o H2 => o = none ∧ H2 = H1) I1 ⟨rfl, rfl⟩) fun vl s2 ⟨l, H2, I2, pl, el, e2⟩ => ?_)
  subst el e2
  refine thn (po_none.run pins s2 σ H2 (fun o H3 => o = none ∧ H3 = H2) I2 ⟨rfl, rfl⟩) fun vu s3 ⟨u, H3, I3, pu, eu, e3⟩ => ?_
  subst eu e3
  refine thn (hst.run pins s3 σ H3 (fun o H4 => o = some (-1) ∧ H4 = H3) I3 ⟨1, rfl, -1, rfl, rfl, rfl⟩) fun vs s4 ⟨o, H4, I4, ps, eo, e4⟩ => ?_
  subst eo e4
  cases pl
  cases pu
  have I5 : Inv X pins σ H4 { s4 with heap := s4.heap.push { cls := .type "slice", data := .fields #[.none, .none, vs] } } := I4.kept (t' := s4.toks) fun b ob q => Heap.get?_push_of_some _ q
  obtain ⟨its, r, ht, hz⟩ := I5.tuple hx
  refine tail_any (ops := [.ref a, .ref s4.heap.objs.size]) ht.typeIs PyProof.Rows.slot_tuple_getitem.lookup ?_ (by with_unfolding_all rfl)
  refine back_item ht (Heap.IsSliceOf.new _ .none .none vs) ps ?_ (by rw [List.size_toArray, ← r.length]; exact hz)
  exact ⟨.ref _, _, I5.laid (t' := s4.toks) (o := .tup xs.reverse) (fun b ob q => Heap.get?_push_of_some _ q) (Nat.le_refl _) ⟨by rw [List.length_reverse]; exact hz, _, r.reverse, IsTup.new _ _⟩, rfl, q _ (I5.hok.fresh (Nat.le_refl _))⟩
/-! a bool less a bool -/
theorem PI.or {tg it : Expr} {w w' : TI} (h : PI X tg it w) (h' : PI X tg it w') : PI X tg it (fun σ H R => w σ H R ∨ w' σ H R) :=
  ⟨fun pins s σ H R I q => q.elim (fun z => h.run pins s σ H R I z) fun z => h'.run pins s σ H R I z⟩
theorem PE.or {e : Expr} {t t' : TE} (h : PE X e t) (h' : PE X e t') : PE X e (fun σ H Q => t σ H Q ∨ t' σ H Q) :=
  ⟨fun pins s σ H Q I q => q.elim (fun z => h.run pins s σ H Q I z) fun z => h'.run pins s σ H Q I z⟩
end
end EaR
namespace EaR
open PySem PySem.Spec PyProof.Rows L2
section
variable {X : Cx}
/-- an expression that no way reaches -/
theorem pe_never {e : Expr} : PE X e (fun _ _ _ => False) := ⟨fun _ _ _ _ _ _ h => h.elim⟩
/-- x is True, x is False, whatever x is -/
theorem op_isBlA : OpR X (compareOp .Is) (fun x y H Q => ∃ b : Bool, y = .bl b ∧ Q (.bl (decide (x = .bl b))) H) := by
  intro pins s σ H x y v u Q I rx ry h
  obtain ⟨b, rfl, q⟩ := h
  cases (show u = Value.bool b from ry)
  have fin : ∀ {k : Bool}, decide (x = .bl b) = k → EP X pins σ Q (.bool k) s := fun {k} e => ⟨.bl k, H, I, rfl, by rw [← e]; exact q⟩
  cases x with
  | bl a =>
    cases (show v = Value.bool a from rx)
    by_cases e : a = b
    · subst e
      exact wpAny_is_self rfl (fin (decide_eq_true rfl))
    · exact wpAny_is_other rfl (fun z => e (Value.bool.inj z)) (fin (decide_eq_false fun z => e (V.bl.inj z)))
  | non => cases (show v = Value.none from rx); exact wpAny_is_other rfl (fun z => nomatch z) (fin (decide_eq_false fun z => nomatch z))
  | int i => obtain ⟨t, rfl⟩ := (show ∃ t, v = Value.int i t from rx); exact wpAny_is_other rfl (fun z => nomatch z) (fin (decide_eq_false fun z => nomatch z))
  | str i => obtain ⟨t, rfl⟩ := (show ∃ t, v = Value.str i t from rx); exact wpAny_is_other rfl (fun z => nomatch z) (fin (decide_eq_false fun z => nomatch z))
  | byt i => obtain ⟨t, rfl⟩ := (show ∃ t, v = Value.bytes i t from rx); exact wpAny_is_other rfl (fun z => nomatch z) (fin (decide_eq_false fun z => nomatch z))
  | flt i => obtain ⟨t, rfl⟩ := (show ∃ t, v = Value.float i t from rx); exact wpAny_is_other rfl (fun z => nomatch z) (fin (decide_eq_false fun z => nomatch z))
  | ref a => cases (show v = Value.ref a from rx); exact wpAny_is_other rfl (fun z => nomatch z) (fin (decide_eq_false fun z => nomatch z))
  | ty n => cases (show v = Value.type n from rx); exact wpAny_is_other rfl (fun z => nomatch z) (fin (decide_eq_false fun z => nomatch z))
end
end EaR
namespace EaR
open PySem PySem.Spec PyProof.Rows L2
section
variable {X : Cx}
/-- a tuple as a comprehension's target, the written part named -/
theorem pg_tupK {K : PySem.W.Frag} {es : List Expr} {k : Nat} {pos : Pos} {t : TGs} {n : Nat} (hK : X.K = K) (hc : X.calm = true) (h : PGs X es t)
    (hn : (assignEach es X.env).length = n := by rfl) (hst : (assignEach es X.env).findIdx? (·.1) = none := by rfl) : PG X (.Tuple es k pos) (gTup K n t) := by
  subst hK
  exact pg_tup hc h hn hst
end
end EaR
set_option maxRecDepth 100000
set_option maxHeartbeats 4000000
namespace EaR
open PySem PySem.Spec PyProof.Rows L2
/-! set(xs) of a list of ints, and sorted of it, any number below the set's bound -/
section
variable {P : Program} {w : World} {A : Around} {E : Value → Shared → Prop} {s : Shared}
abbrev emptySet (w : World) : Obj := { cls := .type "set", dict := none, data := .set #[] 0 (.fresh 0 0 (!w.params.followText "set-order")) }
theorem set_of_list {l : Addr} {items : Array Value} (ns : List Int) {Q : Value → Shared → Prop} (hh : A.handled = none) (hl : s.heap.IsList l items) (hit : IntsAre items.toList ns) (hb : ns.length + 1 < scanBound)
    (h : ∀ (h' : Heap) (tk c : Nat), SetR w h' s.heap.objs.size (fun j => decide (j ∈ ns)) c → c ≤ ns.length → (∀ b o, s.heap.get? b = some o → h'.get? b = some o) → Q (.ref s.heap.objs.size) { s with heap := h', toks := tk }) :
    wpAny (model P w) A (call (.type "set") [.ref l]) Q E s := by
  have hisz : items.size = ns.length := by rw [← IntsAre.length hit, Array.length_toList]
  obtain ⟨c, tl, hmro⟩ := F.called_set.mro
  have hmade := F.called_set.made
  have hsub := F.called_set.sub
  refine wpAny_call (codeAny_of_tree ?_)
  show wpAny _ _ (callAny (.type "set") _) _ _ _
  refine wpAny_pure ⟨Code.quiet_builtin _ (by decide +kernel), codeAny_builtin F.entry_type_call ?_⟩
  rw [Around.under_plain (weight_type_call_type "set" [.ref l] []) rfl]
  have h1 := F.called_set.notType
  have h2 := F.called_set.canCreate
  have hct := F.typeCall_set_1 (.ref l)
  repeat (any_goals (first | assumption | wp_step))
  refine codeAny_mono (code_set_led1 (.ref l) (E := E) (Q₁ := fun obj s₁ => obj = .ref s.heap.objs.size ∧ s₁ = { s with heap := s.heap.push (emptySet w) }) ⟨rfl, rfl⟩) fun r s₁ hr => ?_
  cases r with
  | error e => exact hr
  | ok fl =>
    cases fl with
    | ret obj =>
      obtain ⟨rfl, rfl⟩ := hr
      have hS : (s.heap.push (emptySet w)).get? s.heap.objs.size = some (emptySet w) := Heap.get?_push_size _ rfl
      have hT : Shared.TypeIs { s with heap := s.heap.push (emptySet w) } (.ref s.heap.objs.size) "set" := ⟨_, hS, rfl⟩
      have hli := F.called_set.init.lookup
      have hbi := F.called_set.init.bind (.ref s.heap.objs.size)
      repeat (any_goals (first | assumption | wp_step))
      refine codeAny_mono (codeAny_call_builtin (R := wants (fun r s₂ => r = .none ∧ ∃ h' tk c, s₂ = { s with heap := h', toks := tk } ∧ SetR w h' s.heap.objs.size (fun j => decide (j ∈ ns)) c ∧ c ≤ ns.length ∧
          (∀ b o, s.heap.get? b = some o → h'.get? b = some o)) E) F.called_set.init.plain F.entry_set_init (check_set_init_1 hT ?_)) fun r₂ s₂ hr₂ => ?_
      · obtain ⟨ol, hol, hcl, nl, hdl⟩ := hl
        obtain ⟨ocls, odict, odata, oslots⟩ := ol
        simp only at hcl hdl
        subst hcl; subst hdl
        have hol' : (s.heap.push (emptySet w)).get? l = some { cls := .type "list", dict := odict, data := .seq items nl, slots := oslots } := Heap.get?_push_of_some _ hol
        have hsls := F.sub_list_set
        have hslf := F.sub_list_frozenset
        have hne : (Value.type "list" == Value.type "dict") = false := by decide
        have hl1 : (s.heap.push (emptySet w)).IsList l items := ⟨_, hol', rfl, nl, rfl⟩
        unfold Builtin.«set.__init__» noKeywords Builtin.Frozenset.updateFrom
        generalize hPI : pyIter = PI
        wp_walk
        subst hPI
        refine wpAny_pyIter_list hl1 (wpAny_bind (wpAny_runValue ?_))
        have hlS : l < s.heap.objs.size := Heap.lt_size hol
        have hh3 : A.in1.in1.in1.handled = none := by simp [hh]
        have hz1 : (s.heap.push (emptySet w)).objs.size = s.heap.objs.size + 1 := Heap.size_push ..
        have hneI : l ≠ (s.heap.push (emptySet w)).objs.size := by rw [hz1]; exact Nat.ne_of_lt (Nat.lt_succ_of_lt hlS)
        have hSf : s.heap.objs.size ∉ [(s.heap.push (emptySet w)).objs.size, l] := by
          rw [hz1]
          intro z
          rcases List.mem_cons.mp z with z | z
          · exact absurd z (Nat.ne_of_lt (Nat.lt_succ_self _))
          · exact absurd (List.mem_singleton.mp z) (Nat.ne_of_gt hlS)
        have hval : ∀ (i : Nat) (v : Value), items[i]? = some v → ∃ k t, ns[i]? = some k ∧ v = .int k t := fun i v hv => by
          have hi : i < ns.length := by rw [← hisz]; exact (Array.getElem?_eq_some_iff.mp hv).1
          obtain ⟨t, e⟩ := PyProof.Rows.IntsAre.int_at hit i v (by rw [Array.getElem?_toList]; exact hv)
          exact ⟨ns[i], t, List.getElem?_eq_getElem hi, by rw [e, List.getD_eq_getElem?_getD, List.getElem?_eq_getElem hi] <;> rfl⟩
        refine set_update_ints ((Walks.list hh3 _ l hneI items).toS) s.heap.objs.size hSf ns hisz hb hval (items.size - 0) 0 _ (by omega) (Nat.zero_le _) ⟨⟨_, Heap.get?_push_size _ rfl, rfl, rfl⟩, (hl1.push _)⟩ ?hS0 ?hR
        case hS0 =>
          exact ⟨0, Nat.le_refl 0, setR_new_at (Heap.get?_push_of_some _ hS)⟩
        case hR =>
          intro s' c' hm hc' hS'
          obtain ⟨h', g2, d', tk', os'⟩ := s'
          have eg : g2 = s.gens := hm.gens
          have ed : d' = s.drawn := hm.drawn
          have eo : os' = s.os := hm.os
          subst eg; subst ed; subst eo
          refine wpAny_pure ?_
          show wpAny _ _ (ret Value.none) _ _ _
          refine wpAny_pure ⟨rfl, h', tk', c', rfl, hS', by rw [← hisz]; exact hc', fun b o e => ?_⟩
          have hb0 : b < s.heap.objs.size := Heap.lt_size e
          refine hm.heap b o (fun z => ?_) (Heap.get?_push_of_some _ (Heap.get?_push_of_some _ e))
          rcases List.mem_cons.mp z with z | z
          · exact absurd z (Nat.ne_of_lt hb0)
          · exact absurd ((List.mem_singleton.mp z).trans hz1) (Nat.ne_of_lt (Nat.lt_succ_of_lt hb0))
      · cases r₂ with
        | error e => exact hr₂
        | ok fl₂ =>
          cases fl₂ with
          | ret r =>
            obtain ⟨rfl, h', tk, c', rfl, hS', hc', hk'⟩ := hr₂
            repeat (any_goals (first | assumption | wp_step))
            exact h _ _ _ hS' hc' hk'
          | _ => exact hr₂.elim
    | _ => exact hr.elim
theorem sorted_any {a : Addr} {S : Int → Bool} {n : Nat} {Q : Value → Shared → Prop} (R : SetR w s.heap a S n) (hh : A.handled = none)
    (hQ : ∀ s' p (out : List Value) (c : Nat) (ns : List Int), (∀ b o, s.heap.get? b = some o → s'.heap.get? b = some o) → s'.gens = s.gens → s'.os = s.os → s.heap.objs.size ≤ p →
      s'.heap.get? p = some (seqObj "list" out.toArray c) → IntsAre out ns → ns.Pairwise (· < ·) → (∀ k, k ∈ ns ↔ S k = true) → ns.length = n → Q (.ref p) s') :
    wpAny (model P w) A (call (.builtin "sorted") [.ref a]) Q E s := by
  obtain ⟨o, es, ep, t, ho, hex, hd, g, nd, hm, hb, hf, hn, hr, hl⟩ := R
  refine Calls.call_function_entry kind_sorted plain_sorted entry_sorted (args_sorted1 _) ?_
  unfold Builtin.«sorted»
  refine wpAny_bind (m := checkCount "sorted" 1 1 _) (wpAny_pure (wpAny_bind (collect_set (A := A.in1) hh ⟨o, ho, hex.1, hd⟩ hf hb hr hl fun s1 vs k1 hz g1 o1 pm => ?_)))
  have hvl : vs.length = n := by rw [pm.length_eq, List.length_map, Array.length_toList]; exact hn
  have hI : IntsAre vs (vs.map Builtin.Re.reRawOf) := ints_of vs fun v hv => by
    obtain ⟨e, he, q⟩ := List.mem_map.mp (pm.mem_iff.mp hv)
    obtain ⟨k, tk, h1, _⟩ := g e he
    exact ⟨k, tk, by rw [← q]; exact h1⟩
  have pk : (vs.map Builtin.Re.reRawOf).Perm (es.toList.map keyOf) := by
    have q := pm.map Builtin.Re.reRawOf
    rw [List.map_map] at q
    exact q
  have hsl : vs.length ≤ sizeLine := by
    have q : n < scanBound := hn ▸ hb
    have q2 : scanBound = 4096 := rfl
    rw [hvl, sizeLine_eq]; omega
  refine wpAny_bind (wpAny_newList ?_ hsl)
  have hoL : (s1.heap.push (seqObj "list" vs.toArray 0)).get? s1.heap.objs.size = some (seqObj "list" vs.toArray 0) := Heap.get?_push_size _ rfl
  refine wpAny_bind (wpAny_holding (wpAny_call_entry slot_list_sort ⟨_, hoL, rfl⟩ entry_list_sort
    (SrtO.list_sort_ord SrtO.swo_int hoL hsl (fun h2 => SrtO.ints_sortable hI h2) fun out h1 h2 => ⟨_, rfl, ?_⟩) (args_list_sort _)))
  obtain ⟨q1, q2, q3⟩ := SrtO.ints_out hI h1 h2
  obtain ⟨c, hc⟩ := sortedHeap_at (vs := vs) (out := out.toArray) hoL
  have pn : (out.map SrtO.iv).Perm (es.toList.map keyOf) := q2.trans pk
  refine wpAny_pure ⟨_, rfl, hQ _ s1.heap.objs.size out c _ (fun b u e => ?_) g1 o1 hz hc q1 (lt_of_le_nodup _ q3 (pn.nodup_iff.mpr nd)) (fun k => by rw [pn.mem_iff, ← hm k]) ?_⟩
  · have hlt := Heap.lt_size (k1 b u e)
    show (sortedHeap (s1.heap.push (seqObj "list" vs.toArray 0)) s1.heap.objs.size vs out.toArray).get? b = some u
    rw [sortedHeap_old (Nat.ne_of_lt hlt) (by rw [size_push']; exact Nat.lt_succ_of_lt hlt)]
    exact Heap.get?_push_of_some _ (k1 b u e)
  · rw [pn.length_eq, List.length_map, Array.length_toList]; exact hn
end
section
variable {X : Cx}
/-- set(xs), xs a list of ints -/
def rSetOfL (K : PySem.W.Frag) (w : World) : List V → Hp → VK → Prop := fun xs H Q => ∃ (l : Addr) (ns : List Int), xs = [V.ref l] ∧ SqL K H l (ns.map V.int) ∧ ns.length + 1 < scanBound ∧
  ∀ p n, H p = none → n ≤ ns.length → Q (.ref p) (upd H p (SetO w p (fun j => decide (j ∈ ns)) n))
theorem cr_setOfL (hc : X.calm = true) : CallR X (.type "set") (rSetOfL X.K X.w) := by
  intro pins s σ H xs us Q I r h
  obtain ⟨l, ns, rfl, hs, hb, q⟩ := h
  obtain ⟨its, rv, hl, hz⟩ := I.list hs
  rw [Vals.ref1 r]
  refine set_of_list ns (I.ok.hd hc) hl.isList rv.ints hb fun h' tk c R hc' k => ?_
  exact ⟨.ref s.heap.objs.size, _, I.laid (t' := tk) k (Nat.le_refl _) (setO_new R), rfl, q _ c (I.hok.fresh (Nat.le_refl _)) hc'⟩
/-- sorted of a set of ints, any number -/
def rSortedSetA (w : World) : List V → Hp → VK → Prop := fun vs H Q => ∃ (a : Addr) (S : Int → Bool) (n : Nat), vs = [V.ref a] ∧ H a = some (SetO w a S n) ∧
  ∀ (ns : List Int) (p : Addr), ns.Pairwise (· < ·) → (∀ k : Int, k ∈ ns ↔ S k = true) → ns.length = n → H p = none → Q (.ref p) (upd H p (.lst (ns.map V.int)))
theorem cr_sortedSetA (hc : X.calm = true) : CallR X (.builtin "sorted") (rSortedSetA X.w) := by
  intro pins s σ H vs us Q I r h
  obtain ⟨a, S, n, rfl, ha, q⟩ := h
  have R := setO_get I ha
  rw [Vals.ref1 r]
  have hb : n < scanBound := by
    obtain ⟨o, es, ep, t, ho, hex, hd, g, nd, hm, hb, hf, hn, _⟩ := id R
    rw [← hn]; exact hb
  refine sorted_any R (I.ok.hd hc) fun s' p out c ns k g o hp hg hi hs hm hl => ?_
  have hlen : (ns.map V.int).length ≤ sizeLine := by
    have q2 : scanBound = 4096 := rfl
    rw [List.length_map, hl, sizeLine_eq]; omega
  have hn : H p = none := I.hok.fresh hp
  have J : Inv X pins σ (upd H p (.lst (ns.map V.int))) { s with heap := s'.heap, gens := s'.gens, drawn := s'.drawn, toks := s'.toks } :=
    I.call (ch := []) (Un.laid k hp hn) (I.hok.laid k hp ⟨hlen, out, c, vals_of_ints hi, hg⟩) (by rw [g]; exact I.bare) (fun _ z => nomatch z)
  have e : s' = { s with heap := s'.heap, gens := s'.gens, drawn := s'.drawn, toks := s'.toks } := by
    cases s'
    cases s
    cases o
    rfl
  rw [e]
  exact ⟨.ref p, _, J, rfl, q ns p hs hm hl hn⟩
theorem op_subB : OpR X (binaryOp .Sub) (fun x y H Q => ∃ a b : Bool, x = .bl a ∧ y = .bl b ∧ Q (.int (b2i a - b2i b)) H) := by
  intro pins s σ H x y v u Q I rx ry h
  obtain ⟨a, b, rfl, rfl, q⟩ := h
  cases rx
  cases ry
  exact sub_bool ⟨.int (b2i a - b2i b), H, I.tok _, ⟨_, rfl⟩, q⟩
end
end EaR
set_option maxRecDepth 100000
set_option maxHeartbeats 4000000
namespace EaZ
open PySem PySem.Spec PyProof.Rows L2
/-! list(zip(t, u)) of two tuples -/
theorem zip_len : typeLookup (.type "zip") "__len__" = pure none := PySem.am_miss_of_fast (by decide +kernel)
theorem zip_hint : typeLookup (.type "zip") "__length_hint__" = pure none := PySem.am_miss_of_fast (by decide +kernel)
section
variable {prog : Program} {w : World} {A : Around} {E : Value → Shared → Prop} {s : Shared}
theorem held_item {z TI TO T i1 i2 l1 l2 : Addr} {f : Bool} {oT : Obj} {k1 k2 : Nat} {xs ys : Array Value} {x y : Value} {Q : Option Value → Shared → Prop} (D : ZipApart z TI TO i1 i2 l1 l2)
    (hz : PySem.IsZipHeld s.heap z TI TO T f) (hT : s.heap.get? T = some oT) (hTI : IsPair s.heap TI (.ref i1) (.ref i2))
    (h1 : s.heap.IsTupleIter i1 l1 k1) (h2 : s.heap.IsTupleIter i2 l2 k2) (hl1 : s.heap.IsTuple l1 xs) (hl2 : s.heap.IsTuple l2 ys) (hx : xs[k1]? = some x) (hy : ys[k2]? = some y)
    (hQ : ∀ h', PySem.IsZipHeld h' z TI TO T true → h'.IsTupleIter i1 l1 (k1 + 1) → h'.IsTupleIter i2 l2 (k2 + 1) → IsPair h' s.heap.objs.size x y → h'.objs.size = s.heap.objs.size + 1 →
      (∀ c o, c ≠ z → c ≠ i1 → c ≠ i2 → s.heap.get? c = some o → h'.get? c = some o) → Q (some (.ref s.heap.objs.size)) { s with heap := h' }) :
    wpAny (model prog w) A (pyNext (.ref z)) Q E s := by
  have hTy : s.TypeIs (.ref z) "zip" := ⟨_, hz, rfl⟩
  unfold pyNext
  refine wpAny_bind (wpAny_attempt (wpAny_callSpecial?_slot (name := Str.ofString "__next__") hTy F.slot_zip_next (wpAny_call_entry F.slot_zip_next hTy F.entry_zip_next ?_ (F.args_zip_next_1 _))))
  show wpAny _ _ (field (.ref z) 2 >>= _) _ _ _
  refine wpAny_bind (wpAny_field hz rfl (x := .bool false) rfl ?_)
  show wpAny _ _ (field (.ref z) 3 >>= _) _ _ _
  refine wpAny_bind (wpAny_field hz rfl (x := .ref TI) rfl (wpAny_bind (wpAny_seqItems hTI rfl ?_)))
  show wpAny _ _ (Builtin.SmallTypes.ownedTupleIsFree (.ref z) >>= _) _ _ _
  refine wpAny_bind (PySem.wpAny_tupleHeld_zip hz hT fun ha hza hsa => ?_)
  simp only [Bool.false_eq_true, if_false]
  refine wpAny_bind ?_
  rw [← Array.forIn_toList]
  simp only [List.forIn_cons, List.forIn_nil]
  refine wpAny_bind (wpAny_bind (wpAny_holding ?_))
  show wpAny _ _ (Builtin.SmallTypes.nextOf (.ref i1) >>= _) _ _ _
  refine wpAny_bind (RZ.nextOf_tuple_item (s := { s with heap := ha }) (h1.extBut hsa.extBut D.i1z) (hl1.extBut hsa.extBut D.l1z) hx fun hb h1b hsb => wpAny_pure (wpAny_pure ?_))
  refine wpAny_bind (wpAny_bind (wpAny_holding ?_))
  show wpAny _ _ (Builtin.SmallTypes.nextOf (.ref i2) >>= _) _ _ _
  refine wpAny_bind (RZ.nextOf_tuple_item (s := { s with heap := hb }) ((h2.extBut hsa.extBut D.i2z).extBut hsb.extBut D.i12.symm) ((hl2.extBut hsa.extBut D.l2z).extBut hsb.extBut D.l2i1) hy fun hc h2c hsc => wpAny_pure (wpAny_pure (wpAny_pure ?_)))
  show wpAny _ _ (newTuple [x, y] >>= _) _ _ _
  refine wpAny_bind (wpAny_newTuple ?_)
  have hsz : hc.objs.size = s.heap.objs.size := by rw [hsc.1, hsb.1, hsa.1]
  have hzc : PySem.IsZipHeld hc z TI TO T true := hsc.extBut _ _ D.i2z.symm (hsb.extBut _ _ D.i1z.symm hza)
  have hk : ∀ c o, c ≠ z → c ≠ i1 → c ≠ i2 → s.heap.get? c = some o → hc.get? c = some o := fun c o c1 c2 c3 e => hsc.extBut _ _ c3 (hsb.extBut _ _ c2 (hsa.extBut _ _ c1 e))
  have h1c : hc.IsTupleIter i1 l1 (k1 + 1) := h1b.extBut hsc.extBut D.i12
  refine wpAny_pure ⟨_, rfl, wpAny_pure ?_⟩
  have hp : IsPair (hc.push { cls := .type "tuple", data := .seq #[x, y] }) hc.objs.size x y := Heap.get?_push_size _ rfl
  have hz4 : (hc.push { cls := .type "tuple", data := .seq #[x, y] }).objs.size = hc.objs.size + 1 := Heap.size_push ..
  show Q (some (.ref hc.objs.size)) _
  rw [hsz] at hp hz4 ⊢
  exact hQ _ (Heap.get?_push_of_some _ hzc) (h1c.at fun o e => Heap.get?_push_of_some _ e) (h2c.at fun o e => Heap.get?_push_of_some _ e) hp hz4 fun c o c1 c2 c3 e => Heap.get?_push_of_some _ (hk c o c1 c2 c3 e)
theorem held_end {z TI TO T i1 i2 l1 l2 : Addr} {f : Bool} {oT : Obj} {k1 k2 : Nat} {xs ys : Array Value} {Q : Option Value → Shared → Prop} (hh : A.handled = none) (D : ZipApart z TI TO i1 i2 l1 l2)
    (hz : PySem.IsZipHeld s.heap z TI TO T f) (hT : s.heap.get? T = some oT) (hTI : IsPair s.heap TI (.ref i1) (.ref i2))
    (h1 : s.heap.IsTupleIter i1 l1 k1) (h2 : s.heap.IsTupleIter i2 l2 k2) (hl1 : s.heap.IsTuple l1 xs) (hl2 : s.heap.IsTuple l2 ys) (hend : xs[k1]? = none ∨ ys[k2]? = none)
    (hQ : ∀ h', (∀ c o, c ≠ z → c ≠ i1 → c ≠ i2 → s.heap.get? c = some o → h'.get? c = some o) → Q none { s with heap := h' }) : wpAny (model prog w) A (pyNext (.ref z)) Q E s := by
  have hTy : s.TypeIs (.ref z) "zip" := ⟨_, hz, rfl⟩
  have fin : ∀ h' e, (∀ c o, c ≠ z → c ≠ i1 → c ≠ i2 → s.heap.get? c = some o → h'.get? c = some o) → (∃ o, h'.get? e = some o ∧ o.cls = .type "StopIteration") →
      wpAny (model prog w) A (do if ← isInstance (.ref e) (.type "StopIteration") then pure none else throw (.ref e)) Q E { s with heap := h' } := fun h' e hk he => by
    obtain ⟨o, ho, hc⟩ := he
    refine wpAny_bind (wpAny_isInstance (T := "StopIteration") (b := true) ⟨o, ho, hc⟩ isSubtype_stop ?_)
    exact wpAny_pure (hQ _ hk)
  unfold pyNext
  refine wpAny_bind (wpAny_attempt (wpAny_callSpecial?_slot (name := Str.ofString "__next__") hTy F.slot_zip_next (wpAny_call_entry F.slot_zip_next hTy F.entry_zip_next ?_ (F.args_zip_next_1 _))))
  show wpAny _ _ (field (.ref z) 2 >>= _) _ _ _
  refine wpAny_bind (wpAny_field hz rfl (x := .bool false) rfl ?_)
  show wpAny _ _ (field (.ref z) 3 >>= _) _ _ _
  refine wpAny_bind (wpAny_field hz rfl (x := .ref TI) rfl (wpAny_bind (wpAny_seqItems hTI rfl ?_)))
  show wpAny _ _ (Builtin.SmallTypes.ownedTupleIsFree (.ref z) >>= _) _ _ _
  refine wpAny_bind (PySem.wpAny_tupleHeld_zip hz hT fun ha hza hsa => ?_)
  simp only [Bool.false_eq_true, if_false]
  refine wpAny_bind ?_
  rw [← Array.forIn_toList]
  simp only [List.forIn_cons, List.forIn_nil]
  refine wpAny_bind (wpAny_bind (wpAny_holding ?_))
  show wpAny _ _ (Builtin.SmallTypes.nextOf (.ref i1) >>= _) _ _ _
  cases hx : xs[k1]? with
  | none =>
    refine wpAny_bind (RZ.nextOf_tuple_end (s := { s with heap := ha }) hh (h1.extBut hsa.extBut D.i1z) (hl1.extBut hsa.extBut D.l1z) hx fun hb e hsb he => ?_)
    exact fin hb e (fun c o c1 c2 _ x => hsb _ _ c2 (hsa.extBut _ _ c1 x)) he
  | some x =>
    have hy : ys[k2]? = none := hend.elim (fun h => by rw [hx] at h; cases h) id
    refine wpAny_bind (RZ.nextOf_tuple_item (s := { s with heap := ha }) (h1.extBut hsa.extBut D.i1z) (hl1.extBut hsa.extBut D.l1z) hx fun hb h1b hsb => wpAny_pure (wpAny_pure ?_))
    refine wpAny_bind (wpAny_bind (wpAny_holding ?_))
    show wpAny _ _ (Builtin.SmallTypes.nextOf (.ref i2) >>= _) _ _ _
    refine wpAny_bind (RZ.nextOf_tuple_end (s := { s with heap := hb }) hh ((h2.extBut hsa.extBut D.i2z).extBut hsb.extBut D.i12.symm) ((hl2.extBut hsa.extBut D.l2z).extBut hsb.extBut D.l2i1) hy fun hc e hsc he => ?_)
    exact fin hc e (fun c o c1 c2 c3 x => hsc _ _ c3 (hsb.extBut _ _ c2 (hsa.extBut _ _ c1 x))) he
/-- a zip of two tuples ahead of its i-th pair: nothing given out, or a tuple that stands elsewhere -/
structure ZSt (S : Addr) (h : Heap) (z TI TO i1 i2 l1 l2 : Addr) (xs ys : Array Value) (i : Nat) : Prop where
  out : (IsZip h z TI TO .none ∧ ∃ a b, IsPair h TO a b) ∨ ∃ T f oT, PySem.IsZipHeld h z TI TO T f ∧ h.get? T = some oT ∧ T ≠ z ∧ T ≠ i1 ∧ T ≠ i2 ∧ T ≠ S
  TI : IsPair h TI (.ref i1) (.ref i2)
  i1 : h.IsTupleIter i1 l1 i
  i2 : h.IsTupleIter i2 l2 i
  l1 : h.IsTuple l1 xs
  l2 : h.IsTuple l2 ys
theorem zip_step {S z TI TO i1 i2 l1 l2 : Addr} {i : Nat} {xs ys : Array Value} {x y : Value} {Q : Option Value → Shared → Prop} (D : ZipApart z TI TO i1 i2 l1 l2) (st : ZSt S s.heap z TI TO i1 i2 l1 l2 xs ys i) (hS : S < s.heap.objs.size) (hx : xs[i]? = some x) (hy : ys[i]? = some y)
    (hQ : ∀ h', ZSt S h' z TI TO i1 i2 l1 l2 xs ys (i + 1) → IsPair h' s.heap.objs.size x y → h'.objs.size = s.heap.objs.size + 1 →
      (∀ c o, c ≠ z → c ≠ TO → c ≠ i1 → c ≠ i2 → s.heap.get? c = some o → h'.get? c = some o) → Q (some (.ref s.heap.objs.size)) { s with heap := h' }) :
    wpAny (model prog w) A (pyNext (.ref z)) Q E s := by
  obtain ⟨ho, hTI, h1, h2, hl1, hl2⟩ := st
  have new : ∀ c o, s.heap.get? c = some o → s.heap.objs.size ≠ c := fun c o e => Nat.ne_of_gt (Heap.lt_size e)
  have n1 : s.heap.objs.size ≠ i1 := let ⟨_, e, _⟩ := h1; new _ _ e
  have n2 : s.heap.objs.size ≠ i2 := let ⟨_, e, _⟩ := h2; new _ _ e
  rcases ho with ⟨hz, a, b, hTO⟩ | ⟨T, f, oT, hz, hT, t1, t2, t3, t4⟩
  · refine RZ.pyNext_zipT_item D hz hTI hTO h1 h2 hl1 hl2 hx hy fun h' a1 a2 a3 a4 a5 a6 a7 => ?_
    have tup : ∀ l xs, l ≠ z → l ≠ TO → l ≠ i1 → l ≠ i2 → s.heap.IsTuple l xs → h'.IsTuple l xs := fun l xs c1 c2 c3 c4 ⟨o, e, r⟩ => ⟨o, a7 l o c1 c2 c3 c4 e, r⟩
    exact hQ h' ⟨.inr ⟨s.heap.objs.size, false, _, a1, a5, new _ _ hz, n1, n2, Nat.ne_of_gt hS⟩, a7 _ _ D.TIz D.TITO D.TIi1 D.TIi2 hTI, a3, a4, tup _ _ D.l1z D.l1TO D.l1i1 D.l1i2 hl1, tup _ _ D.l2z D.l2TO D.l2i1 D.l2i2 hl2⟩ a5 a6 a7
  · refine held_item D hz hT hTI h1 h2 hl1 hl2 hx hy fun h' a1 a3 a4 a5 a6 a7 => ?_
    have tup : ∀ l xs, l ≠ z → l ≠ i1 → l ≠ i2 → s.heap.IsTuple l xs → h'.IsTuple l xs := fun l xs c1 c3 c4 ⟨o, e, r⟩ => ⟨o, a7 l o c1 c3 c4 e, r⟩
    exact hQ h' ⟨.inr ⟨T, true, oT, a1, a7 _ _ t1 t2 t3 hT, t1, t2, t3, t4⟩, a7 _ _ D.TIz D.TIi1 D.TIi2 hTI, a3, a4, tup _ _ D.l1z D.l1i1 D.l1i2 hl1, tup _ _ D.l2z D.l2i1 D.l2i2 hl2⟩ a5 a6 fun c o c1 _ c3 c4 e => a7 c o c1 c3 c4 e
theorem zip_stop {S z TI TO i1 i2 l1 l2 : Addr} {i : Nat} {xs ys : Array Value} {Q : Option Value → Shared → Prop} (hh : A.handled = none) (D : ZipApart z TI TO i1 i2 l1 l2) (st : ZSt S s.heap z TI TO i1 i2 l1 l2 xs ys i) (hend : xs[i]? = none ∨ ys[i]? = none)
    (hQ : ∀ h', (∀ c o, c ≠ z → c ≠ TO → c ≠ i1 → c ≠ i2 → s.heap.get? c = some o → h'.get? c = some o) → Q none { s with heap := h' }) : wpAny (model prog w) A (pyNext (.ref z)) Q E s := by
  obtain ⟨ho, hTI, h1, h2, hl1, hl2⟩ := st
  rcases ho with ⟨hz, a, b, hTO⟩ | ⟨T, f, oT, hz, hT, t1, t2, t3, t4⟩
  · exact RZ.pyNext_zipT_end hh D hz hTI hTO h1 h2 hl1 hl2 hend hQ
  · exact held_end hh D hz hT hTI h1 h2 hl1 hl2 hend fun h' k => hQ h' fun c o c1 _ c3 c4 e => k c o c1 c3 c4 e
theorem ZSt.keep {h h' : Heap} {S z TI TO i1 i2 l1 l2 : Addr} {xs ys : Array Value} {i : Nat} (st : ZSt S h z TI TO i1 i2 l1 l2 xs ys i) (k : ∀ c o, c ≠ S → h.get? c = some o → h'.get? c = some o)
    (hS : S ≠ z ∧ S ≠ TI ∧ S ≠ TO ∧ S ≠ i1 ∧ S ≠ i2 ∧ S ≠ l1 ∧ S ≠ l2) : ZSt S h' z TI TO i1 i2 l1 l2 xs ys i := by
  obtain ⟨ho, hTI, h1, h2, hl1, hl2⟩ := st
  obtain ⟨s1, s2, s3, s4, s5, s6, s7⟩ := hS
  have tup : ∀ l xs, l ≠ S → h.IsTuple l xs → h'.IsTuple l xs := fun l xs c1 ⟨o, e, r⟩ => ⟨o, k l o c1 e, r⟩
  have itr : ∀ a l n, a ≠ S → h.IsTupleIter a l n → h'.IsTupleIter a l n := fun a l n c1 ⟨o, e, r⟩ => ⟨o, k a o c1 e, r⟩
  refine ⟨?_, k _ _ s2.symm hTI, itr _ _ _ s4.symm h1, itr _ _ _ s5.symm h2, tup _ _ s6.symm hl1, tup _ _ s7.symm hl2⟩
  rcases ho with ⟨hz, a, b, hTO⟩ | ⟨T, f, oT, hz, hT', t1, t2, t3, t4⟩
  · exact .inl ⟨k _ _ s1.symm hz, a, b, k _ _ s3.symm hTO⟩
  · exact .inr ⟨T, f, oT, k _ _ s1.symm hz, k _ _ t4 hT', t1, t2, t3, t4⟩
/-- the addresses as hold the pairs so far, all above lo, rising -/
structure ZGot (xs ys : Array Value) (lo : Addr) (h : Heap) (as : List Addr) : Prop where
  rise : as.Pairwise (· < ·)
  above : ∀ a ∈ as, lo < a
  pairs : ∀ (j : Nat) (a : Addr), as[j]? = some a → ∃ x y, xs[j]? = some x ∧ ys[j]? = some y ∧ IsPair h a x y
theorem zip_loop {R : Result → Shared → Prop} {S z TI TO i1 i2 l1 l2 : Addr} {xs ys : Array Value} (hh : A.handled = none) (D : ZipApart z TI TO i1 i2 l1 l2) (sep : S ≠ z ∧ S ≠ TI ∧ S ≠ TO ∧ S ≠ i1 ∧ S ≠ i2 ∧ S ≠ l1 ∧ S ≠ l2) (lo : Addr)
    (hlo : S ≤ lo ∧ z ≤ lo ∧ TO ≤ lo ∧ i1 ≤ lo ∧ i2 ≤ lo) (hn : min xs.size ys.size ≤ sizeLine) (res : Value) {h0 : Heap}
    (hR : ∀ h' tk acc c as, (∀ b o, b ≠ S → b ≠ z → b ≠ TO → b ≠ i1 → b ≠ i2 → h0.get? b = some o → h'.get? b = some o) → h'.get? S = some { cls := .type "list", dict := none, data := .seq acc c, slots := #[] } → as.length = min xs.size ys.size → ZGot xs ys lo h' as →
      acc.toList = as.map Value.ref → R (.ok (.ret res)) { s with heap := h', toks := tk }) :
    ∀ (k i : Nat) (h : Heap) (tk c : Nat) (acc : Array Value) (as : List Addr), min xs.size ys.size - i = k → i ≤ min xs.size ys.size → ZSt S h z TI TO i1 i2 l1 l2 xs ys i →
      (∀ b o, b ≠ S → b ≠ z → b ≠ TO → b ≠ i1 → b ≠ i2 → h0.get? b = some o → h.get? b = some o) →
      h.get? S = some { cls := .type "list", dict := none, data := .seq acc c, slots := #[] } → acc.toList = as.map Value.ref → as.length = i → ZGot xs ys lo h as → lo < h.objs.size →
      codeAny (model prog w) A (.builtin "list.extend.loop" ⟨[.ref S, .ref z, res], []⟩) R { s with heap := h, toks := tk } := by
  obtain ⟨s1, s2, s3, s4, s5, s6, s7⟩ := id sep
  obtain ⟨g1, g2, g3, g4, g5⟩ := hlo
  intro k
  induction k with
  | zero =>
    intro i h tk c acc as hk hi st hkeep hS hacc hal hG hIs
    have hend : xs[i]? = none ∨ ys[i]? = none := by
      rcases Nat.lt_or_ge i xs.size with q | q
      · exact .inr (Array.getElem?_eq_none (by omega))
      · exact .inl (Array.getElem?_eq_none q)
    refine codeAny_builtin PySem.F.entry_extend_loop ?_
    rw [Around.under_plainId PySem.F.plain_extend_loop _]
    show wpAny _ A.in1 (pyNext (.ref z) >>= _) _ _ _
    refine wpAny_bind (zip_stop (s := { s with heap := h, toks := tk }) (A := A.in1) hh D st hend fun h' he => ?_)
    have ab : ∀ a ∈ as, a ≠ z ∧ a ≠ TO ∧ a ≠ i1 ∧ a ≠ i2 := fun a ha => by
      have := hG.above a ha
      exact ⟨Nat.ne_of_gt (Nat.lt_of_le_of_lt g2 this), Nat.ne_of_gt (Nat.lt_of_le_of_lt g3 this), Nat.ne_of_gt (Nat.lt_of_le_of_lt g4 this), Nat.ne_of_gt (Nat.lt_of_le_of_lt g5 this)⟩
    refine wpAny_pure (hR h' tk acc c as (fun b o b1 b2 b3 b4 b5 e => he b o b2 b3 b4 b5 (hkeep b o b1 b2 b3 b4 b5 e)) (he S _ s1 s3 s4 s5 hS) (by omega) ⟨hG.rise, hG.above, fun j a hj => ?_⟩ hacc)
    obtain ⟨x, y, e1, e2, e3⟩ := hG.pairs j a hj
    obtain ⟨a1, a2, a3, a4⟩ := ab a (List.mem_of_getElem? hj)
    exact ⟨x, y, e1, e2, he a _ a1 a2 a3 a4 e3⟩
  | succ k ih =>
    intro i h tk c acc as hk hi st hkeep hS hacc hal hG hIs
    have hltx : i < xs.size := by omega
    have hlty : i < ys.size := by omega
    have hsz : acc.size = i := by rw [← Array.length_toList, hacc, List.length_map, hal]
    refine codeAny_builtin PySem.F.entry_extend_loop ?_
    rw [Around.under_plainId PySem.F.plain_extend_loop _]
    show wpAny _ A.in1 (pyNext (.ref z) >>= _) _ _ _
    refine wpAny_bind (zip_step (s := { s with heap := h, toks := tk }) D st (Heap.lt_size hS) (Array.getElem?_eq_getElem hltx) (Array.getElem?_eq_getElem hlty) fun h' st' ht hz hkp => ?_)
    dsimp only at ht hz hkp ⊢
    have hS' := hkp S _ s1 s3 s4 s5 hS
    have hSl : S < h.objs.size := Heap.lt_size hS
    have up : ∀ b o, b ≠ S → h'.get? b = some o → (h'.update S (Obj.mapSeq (·.push (Value.ref h.objs.size)))).get? b = some o := fun b o hb e => (Heap.get?_update_other _ _ (Ne.symm hb)).trans e
    show wpAny _ A.in1 (updateSeq S (·.push (Value.ref h.objs.size)) >>= _) _ _ _
    refine wpAny_bind ?_
    refine wpAny_updateSeq hS' rfl (wpAny_pure ⟨plainId_quiet PySem.F.plain_extend_loop _, ih (i + 1) _ tk _ (acc.push (Value.ref h.objs.size)) (as ++ [h.objs.size]) (by omega) (by omega) (st'.keep up sep) (fun b o b1 b2 b3 b4 b5 e => up b o b1 (hkp b o b2 b3 b4 b5 (hkeep b o b1 b2 b3 b4 b5 e))) (Heap.get?_update_self _ hS' rfl) (by rw [Array.toList_push, hacc, List.map_append]; rfl) (by rw [List.length_append, hal]; rfl) ⟨?_, ?_, ?_⟩ ?_⟩) (by rw [hsz]; omega) (by show (acc.push (Value.ref h.objs.size)).size ≤ sizeLine + 1; rw [Array.size_push, hsz]; omega)
    · refine List.pairwise_append.mpr ⟨hG.rise, List.pairwise_singleton _ _, fun a ha b hb => ?_⟩
      obtain ⟨j, hj⟩ := List.getElem?_of_mem ha
      obtain ⟨_, _, _, _, e⟩ := hG.pairs j a hj
      rw [List.mem_singleton.mp hb]
      exact Heap.lt_size e
    · intro a ha
      rcases List.mem_append.mp ha with ha | ha
      · exact hG.above a ha
      · rw [List.mem_singleton.mp ha]; exact hIs
    · intro j b hj
      have hSb : ∀ b, lo < b → b ≠ S ∧ b ≠ z ∧ b ≠ TO ∧ b ≠ i1 ∧ b ≠ i2 := fun b q =>
        ⟨Nat.ne_of_gt (Nat.lt_of_le_of_lt g1 q), Nat.ne_of_gt (Nat.lt_of_le_of_lt g2 q), Nat.ne_of_gt (Nat.lt_of_le_of_lt g3 q), Nat.ne_of_gt (Nat.lt_of_le_of_lt g4 q), Nat.ne_of_gt (Nat.lt_of_le_of_lt g5 q)⟩
      rcases Nat.lt_trichotomy j as.length with q | q | q
      · rw [List.getElem?_append_left q] at hj
        obtain ⟨x, y, e1, e2, e3⟩ := hG.pairs j b hj
        obtain ⟨b1, b2, b3, b4, b5⟩ := hSb b (hG.above b (List.mem_of_getElem? hj))
        exact ⟨x, y, e1, e2, up b _ b1 (hkp b _ b2 b3 b4 b5 e3)⟩
      · have hb : h.objs.size = b := by rw [q] at hj; simpa using hj
        rw [← hb, q, hal]
        exact ⟨_, _, Array.getElem?_eq_getElem hltx, Array.getElem?_eq_getElem hlty, up _ _ (Nat.ne_of_gt hSl) ht⟩
      · rw [List.getElem?_eq_none (by rw [List.length_append, List.length_singleton]; omega)] at hj
        cases hj
    · have e := Heap.lt_size (up _ _ (Nat.ne_of_gt hSl) ht)
      exact Nat.lt_trans hIs e
theorem no_hint {r : Addr} (hT : s.TypeIs (.ref r) "zip") {Q : Bool → Shared → Prop} (h : Q true s) : wpAny (model prog w) A (Builtin.List.listLengthHint (.ref r)) Q E s := by
  unfold Builtin.List.listLengthHint
  refine wpAny_bind (wpAny_specialOf hT zip_len ?_)
  refine wpAny_ite_split (fun hab => absurd hab (by decide)) (fun _ => ?_)
  refine wpAny_ite_split (fun hab => absurd hab (by decide)) (fun _ => ?_)
  exact wpAny_bind (wpAny_specialOf hT zip_hint (wpAny_pure h))
theorem nat_lt5 {N k : Nat} (h : k < 5) : N + k < N + 5 := by omega
theorem nat_lo5 {N k : Nat} (h : k < N) : k < N + 5 := by omega
theorem nat_le5 {N M k : Nat} (e : M = N + 5) (h : k < 5) : N + k ≤ M := by omega
theorem nat_z5 {N M : Nat} (e : M = N + 5) : N ≤ M := by omega
theorem nat_ne5 {N b k : Nat} (h : b < N) : b ≠ N + k := by omega
/-- the list S takes in the zip z that was just made -/
theorem zip_take {R : Result → Shared → Prop} {S z TI TO i1 i2 l1 l2 : Addr} {xs ys : Array Value} (hh : A.handled = none) (D : ZipApart z TI TO i1 i2 l1 l2) (sep : S ≠ z ∧ S ≠ TI ∧ S ≠ TO ∧ S ≠ i1 ∧ S ≠ i2 ∧ S ≠ l1 ∧ S ≠ l2) (lo : Addr)
    (hlo : S ≤ lo ∧ z ≤ lo ∧ TO ≤ lo ∧ i1 ≤ lo ∧ i2 ≤ lo) (hn : min xs.size ys.size ≤ sizeLine) (res : Value) (hz : IsZip s.heap z TI TO .none) (st : ZSt S s.heap z TI TO i1 i2 l1 l2 xs ys 0) (hlt : lo < s.heap.objs.size) (c₀ : Nat)
    (hS : s.heap.get? S = some { cls := .type "list", data := .seq #[] c₀ })
    (hR : ∀ h' tk acc c as, (∀ b o, b ≠ S → b ≠ z → b ≠ TO → b ≠ i1 → b ≠ i2 → s.heap.get? b = some o → h'.get? b = some o) → h'.get? S = some { cls := .type "list", dict := none, data := .seq acc c, slots := #[] } → as.length = min xs.size ys.size → ZGot xs ys lo h' as →
      acc.toList = as.map Value.ref → R (.ok (.ret res)) { s with heap := h', toks := tk }) :
    wpAny (model prog w) A.in1 (Builtin.List.listExtendWith (.ref S) (.ref z) res)
      (fun fin s' => match fin with | .done f => R (.ok f) s' | .again c' => c'.quiet = true ∧ codeAny (model prog w) A c' R s') (fun e s' => R (.error e) s') s := by
  have hTz : s.TypeIs (.ref z) "zip" := ⟨_, hz, rfl⟩
  obtain ⟨s1, s2, s3, s4, s5, s6, s7⟩ := id sep
  unfold Builtin.List.listExtendWith
  refine wpAny_bind (wpAny_typeOf (T := "zip") hTz ?_)
  have e1 : Builtin.List.listSameRef (.ref S) (.ref z) = false := by simp [Builtin.List.listSameRef, s1]
  have e2 : (Value.type "zip" == Value.type "list") = false := by decide
  have e3 : (Value.type "zip" == Value.type "tuple") = false := by decide
  simp only [e1, e2, e3, Bool.or_false, Bool.false_eq_true, if_false]
  refine wpAny_bind (wpAny_pyIter_zip hz (wpAny_bind (wpAny_holding (no_hint hTz ?_))))
  refine wpAny_ite_split (fun _ => ?_) (fun h => absurd rfl h)
  refine wpAny_bind (wpAny_rule (wpAny_bind ?_))
  show wpAny _ _ (updateSeq S (·.push .none) >>= fun _ => updateSeq S (·.pop)) _ _ _
  refine wpAny_bind (wpAny_updateSeq hS rfl ?_)
  have hS2 := Heap.get?_update_self (Obj.mapSeq (·.push Value.none)) hS rfl
  refine wpAny_updateSeq (hz := by seq_fits) hS2 rfl ?_
  have hS3 := Heap.get?_update_self (Obj.mapSeq (·.pop)) hS2 rfl
  have up : ∀ b o, b ≠ S → s.heap.get? b = some o → ((s.heap.update S (Obj.mapSeq (·.push Value.none))).update S (Obj.mapSeq (·.pop))).get? b = some o :=
    fun b o hb e => (Heap.get?_update_other _ _ (Ne.symm hb)).trans ((Heap.get?_update_other _ _ (Ne.symm hb)).trans e)
  refine wpAny_pure ⟨plainId_quiet PySem.F.plain_extend_loop _, zip_loop (s := s) (h0 := s.heap) hh D sep lo hlo hn res hR (min xs.size ys.size) 0 _ s.toks _ #[] [] (Nat.sub_zero _) (Nat.zero_le _) (st.keep up sep) (fun b o b1 _ _ _ _ e => up b o b1 e) hS3 rfl rfl
    ⟨List.Pairwise.nil, (fun _ ha => nomatch ha), (fun j a hj => by simp at hj)⟩ ?_⟩
  rw [Heap.size_update, Heap.size_update]
  exact hlt
theorem list_zip {l1 l2 : Addr} {xs ys : Array Value} {Q : Value → Shared → Prop} (hh : A.handled = none) (hl1 : s.heap.IsTuple l1 xs) (hl2 : s.heap.IsTuple l2 ys) (z : Addr) (hzz : z = s.heap.objs.size + 4) {h1 : Heap}
    (hz : IsZip h1 z (s.heap.objs.size + 2) (s.heap.objs.size + 3) .none) (hTI : IsPair h1 (s.heap.objs.size + 2) (.ref s.heap.objs.size) (.ref (s.heap.objs.size + 1)))
    (hTO : IsPair h1 (s.heap.objs.size + 3) .none .none) (hi1 : h1.IsTupleIter s.heap.objs.size l1 0) (hi2 : h1.IsTupleIter (s.heap.objs.size + 1) l2 0) (hsz : h1.objs.size = s.heap.objs.size + 5)
    (hk : ∀ c o, s.heap.get? c = some o → h1.get? c = some o) (hn : min xs.size ys.size ≤ sizeLine)
    (hQ : ∀ h' tk acc c as, (∀ b o, s.heap.get? b = some o → h'.get? b = some o) → h'.get? h1.objs.size = some { cls := .type "list", dict := none, data := .seq acc c, slots := #[] } → as.length = min xs.size ys.size → ZGot xs ys h1.objs.size h' as →
      acc.toList = as.map Value.ref → Q (.ref h1.objs.size) { s with heap := h', toks := tk }) :
    wpAny (model prog w) A (call (.type "list") [.ref z]) Q E { s with heap := h1 } := by
  subst hzz
  have lt1 : l1 < s.heap.objs.size := let ⟨_, e, _⟩ := hl1; Heap.lt_size e
  have lt2 : l2 < s.heap.objs.size := let ⟨_, e, _⟩ := hl2; Heap.lt_size e
  have D := PySem.W.ktu_apart s.heap.objs.size l1 l2 lt1 lt2
  refine callType_codes (Q₁ := fun obj s₁ => obj = .ref h1.objs.size ∧ s₁ = { s with heap := h1.push { cls := .type "list", data := .seq #[] } }) PySem.F.called_list (PySem.F.typeCall_list_1 _) PySem.F.entry_list_init
    (PySem.code_list_new _ ⟨rfl, rfl⟩) fun obj s₁ hs₁ => ?_
  obtain ⟨rfl, rfl⟩ := hs₁
  have hS : (h1.push { cls := .type "list", data := .seq #[] }).get? h1.objs.size = some { cls := .type "list", data := .seq #[] } := Heap.get?_push_size _ rfl
  have pu : ∀ b o, h1.get? b = some o → (h1.push { cls := .type "list", data := .seq #[] }).get? b = some o := fun b o e => Heap.get?_push_of_some _ e
  refine ⟨⟨_, hS, rfl⟩, PySem.F.args_list_init_2 _ _, ?_⟩
  show wpAny _ _ (do let old ← Builtin.List.listItems (.ref h1.objs.size); Builtin.List.listUpdate (.ref h1.objs.size) (fun _ => #[]); letGo old.toList.reverse; Builtin.List.listExtendWith (.ref h1.objs.size) (.ref (s.heap.objs.size + 4)) .none) _ _ _
  refine wpAny_bind ?_
  unfold Builtin.List.listItems
  refine wpAny_bind (wpAny_seqItems hS rfl (wpAny_pure ?_))
  show wpAny _ _ (updateSeq h1.objs.size (fun _ => #[]) >>= fun _ => letGo (#[] : Array Value).toList.reverse >>= fun _ => Builtin.List.listExtendWith (.ref h1.objs.size) (.ref (s.heap.objs.size + 4)) .none) _ _ _
  refine wpAny_bind (wpAny_updateSeq hS rfl ?_)
  have hS2 := Heap.get?_update_self (Obj.mapSeq (fun _ => (#[] : Array Value))) hS rfl
  have oth : ∀ b o, b ≠ h1.objs.size → h1.get? b = some o → ((h1.push { cls := .type "list", data := .seq #[] }).update h1.objs.size (Obj.mapSeq (fun _ => (#[] : Array Value)))).get? b = some o :=
    fun b o hb e => (Heap.get?_update_other _ _ (Ne.symm hb)).trans (pu b o e)
  refine wpAny_bind (wpAny_letGo ?_)
  have nS : ∀ b o, h1.get? b = some o → b ≠ h1.objs.size := fun b o e => Nat.ne_of_lt (Heap.lt_size e)
  have tup : ∀ l zs, s.heap.IsTuple l zs → ((h1.push { cls := .type "list", data := .seq #[] }).update h1.objs.size (Obj.mapSeq (fun _ => (#[] : Array Value)))).IsTuple l zs := fun l zs ⟨o, e, r⟩ => ⟨o, oth l o (nS _ _ (hk _ _ e)) (hk _ _ e), r⟩
  have itr : ∀ a l n, h1.IsTupleIter a l n → ((h1.push { cls := .type "list", data := .seq #[] }).update h1.objs.size (Obj.mapSeq (fun _ => (#[] : Array Value)))).IsTupleIter a l n := fun a l n ⟨o, e, r⟩ => ⟨o, oth a o (nS _ _ e) e, r⟩
  have far : ∀ n, n < s.heap.objs.size + 5 → h1.objs.size ≠ n := fun n h e => by rw [hsz] at e; rw [e] at h; exact Nat.lt_irrefl _ h
  refine zip_take (A := A.in1) (S := h1.objs.size) hh D ⟨far _ (nat_lt5 (by decide)), far _ (nat_lt5 (by decide)), far _ (nat_lt5 (by decide)), far _ (nat_lt5 (k := 0) (by decide)), far _ (nat_lt5 (by decide)), far _ (nat_lo5 lt1), far _ (nat_lo5 lt2)⟩ h1.objs.size
    ⟨Nat.le_refl _, nat_le5 hsz (by decide), nat_le5 hsz (by decide), nat_z5 hsz, nat_le5 hsz (by decide)⟩ hn .none (oth _ _ (nS _ _ hz) hz)
    ⟨.inl ⟨oth _ _ (nS _ _ hz) hz, _, _, oth _ _ (nS _ _ hTO) hTO⟩, oth _ _ (nS _ _ hTI) hTI, itr _ _ _ hi1, itr _ _ _ hi2, tup _ _ hl1, tup _ _ hl2⟩ (by rw [Heap.size_update, Heap.size_push]; exact Nat.lt_succ_self _) _ hS2 fun h' tk acc c as k' hS' hl hG hacc => ?_
  refine ⟨rfl, hQ h' tk acc c as (fun b o e => ?_) hS' hl hG hacc⟩
  have hb := Heap.lt_size e
  exact k' b o (by rw [hsz]; exact nat_ne5 hb) (nat_ne5 hb) (nat_ne5 hb) (Nat.ne_of_lt hb) (nat_ne5 hb) (oth b o (nS _ _ (hk _ _ e)) (hk _ _ e))
end
section
variable {X : Cx} {pins : List (Addr × Obj)} {σ : L2.St} {H : Hp} {s : Shared}
/-- the new tuples and the new list tracked -/
def zipHp (H : Hp) (p : Addr) (ts : List Addr) (xs ys : List V) : Hp := fun b => if b = p then some (.lst (ts.map V.ref)) else if b ∈ ts then some (.tup [xs.getD (ts.idxOf b) .non, ys.getD (ts.idxOf b) .non]) else H b
theorem zip_laid {h1 h' : Heap} {tk : Nat} {acc : Array Value} {c : Nat} {as : List Addr} {xs ys : List V} {its its2 : List Value} {p : Addr} (I : Inv X pins σ H s) (rv : Vals xs its) (rv2 : Vals ys its2) (hz : xs.length ≤ sizeLine)
    (hp : s.heap.objs.size ≤ p) (hk : ∀ b o, s.heap.get? b = some o → h'.get? b = some o) (hS : h'.get? p = some { cls := .type "list", dict := none, data := .seq acc c, slots := #[] }) (hl : as.length = min xs.length ys.length)
    (hG : ZGot its.toArray its2.toArray p h' as) (hacc : acc.toList = as.map Value.ref) :
    (∀ (j : Nat) (t : Addr), as[j]? = some t → ∃ x y, xs[j]? = some x ∧ ys[j]? = some y ∧ zipHp H p as xs ys t = some (.tup [x, y])) ∧ Same H (zipHp H p as xs ys) ∧ H p = none ∧ zipHp H p as xs ys p = some (.lst (as.map V.ref)) ∧ (∀ t ∈ as, H t = none ∧ t ≠ p) ∧
      Inv X pins σ (zipHp H p as xs ys) { s with heap := h', toks := tk } := by
  have nd : as.Nodup := List.Pairwise.imp (fun {a b} (h : a < b) => Nat.ne_of_lt h) hG.rise
  have newp : H p = none := I.hok.fresh hp
  have new : ∀ t ∈ as, H t = none ∧ t ≠ p := fun t ht => ⟨I.hok.fresh (Nat.le_trans hp (Nat.le_of_lt (hG.above t ht))), Nat.ne_of_gt (hG.above t ht)⟩
  have atp : zipHp H p as xs ys p = some (.lst (as.map V.ref)) := by unfold zipHp; rw [if_pos rfl]
  have off : ∀ b, b ≠ p → b ∉ as → zipHp H p as xs ys b = H b := fun b h1 h2 => by unfold zipHp; rw [if_neg h1, if_neg h2]
  have kp : Same H (zipHp H p as xs ys) := fun b u e => by
    rw [off b (fun z => by rw [z, newp] at e; cases e) (fun z => by rw [(new b z).1] at e; cases e)]
    exact e
  have att : ∀ (j : Nat) (t : Addr), as[j]? = some t → ∃ x y, xs[j]? = some x ∧ ys[j]? = some y ∧ zipHp H p as xs ys t = some (.tup [x, y]) := fun j t hj => by
    have hjl : j < as.length := (List.getElem?_eq_some_iff.mp hj).1
    have hx : j < xs.length := by omega
    have hy : j < ys.length := by omega
    have hm : t ∈ as := List.mem_of_getElem? hj
    have ei : as.idxOf t = j := by
      have e := (List.getElem?_eq_some_iff.mp hj).2
      rw [← e]
      exact nd.idxOf_getElem j hjl
    refine ⟨xs[j], ys[j], List.getElem?_eq_getElem hx, List.getElem?_eq_getElem hy, ?_⟩
    unfold zipHp
    rw [if_neg (new t hm).2, if_pos hm, ei, List.getD_eq_getElem?_getD, List.getD_eq_getElem?_getD, List.getElem?_eq_getElem hx, List.getElem?_eq_getElem hy]
    rfl
  refine ⟨att, kp, newp, atp, new, ?_⟩
  refine I.call' (ch := []) rfl ⟨fun b o q _ _ _ => hk b o q, fun b o q _ _ _ => ⟨o.slots, hk b o q⟩, fun b o q n _ => ?_, fun b o q _ => ⟨o, hk b o q⟩, fun b xs q => kp b _ q, fun b o u q => kp b _ q, fun b ps q => ⟨#[], by rw [kp b _ q]; simp⟩⟩ (fun b u q => ?_) I.bare fun b z => by simp at z
  · have hb := Heap.lt_size q
    rw [off b (fun z => absurd hb (by rw [z]; exact Nat.not_lt_of_le hp)) (fun z => absurd hb (Nat.not_lt_of_le (Nat.le_trans hp (Nat.le_of_lt (hG.above b z)))))]
    exact n
  · by_cases hb : b ∈ as
    · obtain ⟨j, hj⟩ := List.getElem?_of_mem hb
      obtain ⟨x, y, e1, e2, e3⟩ := att j b hj
      rw [e3] at q
      cases q
      obtain ⟨u, v, f1, f2, f3⟩ := hG.pairs j b hj
      obtain ⟨u', g1, r1⟩ := rv.get e1
      obtain ⟨v', g2, r2⟩ := rv2.get e2
      have q1 : its[j]? = some u := by simpa using f1
      have q2 : its2[j]? = some v := by simpa using f2
      rw [q1] at g1; cases g1
      rw [q2] at g2; cases g2
      exact ⟨by show 2 ≤ sizeLine; decide, [u, v], .cons r1 (.cons r2 .nil), ⟨_, f3, rfl, _, rfl⟩⟩
    · by_cases hb2 : b = p
      · rw [hb2] at q ⊢
        rw [atp] at q
        cases q
        refine ⟨by rw [List.length_map]; omega, acc.toList, c, by rw [hacc]; exact LiI.vals_refs as, ?_⟩
        rw [Array.toArray_toList]
        exact hS
      · rw [off b hb2 hb] at q
        exact (I.hok b u q).stay (fun d v _ y => hk d v y) (fun d y => kp d _ y) fun d xs y => kp d _ y
def tListZip (K : PySem.W.Frag) (ta : TA) : TE := fun σ H Q => ta σ H fun vs H1 => ∃ a b xs ys, vs = [.ref a, .ref b] ∧ SqT K H1 a xs ∧ SqT K H1 b ys ∧
  ∀ (H' : Hp) (p : Addr) (ts : List Addr), Same H1 H' → H1 p = none → H' p = some (.lst (ts.map V.ref)) → ts.length = min xs.length ys.length → (∀ t ∈ ts, H1 t = none ∧ t ≠ p) → (∀ (j : Nat) (t : Addr), ts[j]? = some t → ∃ x y, xs[j]? = some x ∧ ys[j]? = some y ∧ H' t = some (.tup [x, y])) → Q (.ref p) H'
theorem pe_listZip {e e2 : Expr} {ta : TA} {p p2 cpos pos : Pos} (hc : X.calm = true) (hg : Gl X "list") (hm : X.mg "list" = none) (hg2 : Gl X "zip") (hm2 : X.mg "zip" = none) (ha : PA X [e, e2] ta)
    (hs : starEach [.Call (.Name "zip" p2) [e, e2] [] cpos] X.env = (false, eval (.Call (.Name "zip" p2) [e, e2] [] cpos) X.env) :: starEach [] X.env := by rfl)
    (hs2 : starEach [e, e2] X.env = (false, eval e X.env) :: starEach [e2] X.env := by rfl) (hpl : (backTo cpos (starEach [e2] X.env)).any (·.1) = false := by rfl) :
    PE X (.Call (.Name "list" p) [.Call (.Name "zip" p2) [e, e2] [] cpos] [] pos) (tListZip X.K ta) := by
  refine ⟨fun pins s σ H Q I h => ?_⟩
  refine wpAny_Call_Name_kw (ld_blt I hg hm boot_list ?_)
  refine PyProof.Rows.callWith_type1 ?_ hs rfl
  rw [hs]
  show wpAny _ _ (spliced ((false, eval (.Call (.Name "zip" p2) [e, e2] [] cpos) X.env) :: backTo pos (starEach [] X.env))) _ _ s
  refine Calls.spliced_cons ?_
  refine Call_ (ld_blt I hg2 hm2 PyProof.Rows.boot_zip (PyProof.Rows.callWith_type1 (thn (ha.run cpos pins s σ H _ I h) fun us s1 ⟨vs, H1, I1, r1, q1⟩ => ?_) hs2 hpl))
  obtain ⟨a, b, xs, ys, ex, hx, hy, q⟩ := q1
  subst ex
  obtain ⟨u1, u2, rfl, ra, rb⟩ := vals2 r1
  cases ra
  cases rb
  obtain ⟨its, rv, pa, hzx⟩ := I1.tuple hx
  obtain ⟨its2, rv2, pb, hzy⟩ := I1.tuple hy
  have l1 := rv.length
  have l2 := rv2.length
  refine RZ.call_zipT (show s1.heap.IsTuple a its.toArray from pa) (show s1.heap.IsTuple b its2.toArray from pb) fun h' hz hTI hTO h1 h2 hsz hk => ?_
  refine Calls.spliced_nil ?_
  refine list_zip (s := s1) (I1.ok.hd hc) (show s1.heap.IsTuple a its.toArray from pa) (show s1.heap.IsTuple b its2.toArray from pb) _ rfl hz hTI hTO h1 h2 hsz hk (by rw [List.size_toArray]; omega) fun h2' tk acc c as k2 hS hl hG hacc => ?_
  have hl' : as.length = min xs.length ys.length := by rw [hl, List.size_toArray, List.size_toArray, l1, l2]
  obtain ⟨c1, c2, c3, c4, c5, J⟩ := zip_laid (tk := tk) (h1 := h') I1 rv rv2 hzx (nat_z5 hsz) k2 hS hl' hG hacc
  exact ⟨.ref _, _, J, rfl, q _ _ as c2 c3 c4 hl' c5 c1⟩
end
end EaZ
namespace EaZ
open PySem PySem.Spec PyProof.Rows L2
/-- a comprehension over zip of two tuples of one length -/
theorem lc_zipT {K : PySem.W.Frag} {a b : Addr} {xs ys : List V} {g : TG} {tt : TT} {te : TE} {vs : List Nat} {σ : L2.St} {H1 : Hp} {D : Addr} {Qd : Hp → Prop} (hl : xs.length = ys.length) (Pv : Nat → Hp → Prop) (h0 : Pv 0 (upd H1 D (.lst [])))
    (hq : ∀ i H, Pv i H → SqT K H a xs ∧ SqT K H b ys)
    (hs : ∀ (i : Nat) (x y : V) (T : Addr) (H : Hp), xs[i]? = some x → ys[i]? = some y → Pv i H → H T = none → g (.ref T) (wipe σ vs) (upd H T (.tup [x, y])) fun σ2 H2 => wipe σ2 vs = wipe σ vs ∧ tt σ2 H2 fun b H3 =>
      if b = true then te σ2 H3 fun y H4 => ∃ acc, H4 D = some (.lst acc) ∧ acc.length < sizeLine ∧ Pv (i + 1) (upd H4 D (.lst (acc ++ [y]))) else Pv (i + 1) H3) (hd : ∀ H, Pv xs.length H → Qd H) :
    ∃ W : Nat → Nat → Hp → Prop, (∃ m, W 0 m (upd H1 D (.lst []))) ∧ ∀ i m H, W i m H →
      ((RZ.ItzT K a b).stop i H ∧ Qd H) ∨ ((RZ.ItzT K a b).go i H ∧ ∃ Nx : Hp → Prop, (∀ H', Nx H' → ∃ m', m' < m ∧ W (i + 1) m' H') ∧ ∀ x H', (RZ.ItzT K a b).yld i H x H' → g x (wipe σ vs) H' fun σ2 H2 => wipe σ2 vs = wipe σ vs ∧ tt σ2 H2 fun b H3 =>
        if b = true then te σ2 H3 fun y H4 => ∃ acc, H4 D = some (.lst acc) ∧ acc.length < sizeLine ∧ Nx (upd H4 D (.lst (acc ++ [y]))) else Nx H3) := by
  refine ⟨fun i m H => m = xs.length - i ∧ i ≤ xs.length ∧ Pv i H, ⟨xs.length, by simp, Nat.zero_le _, h0⟩, ?_⟩
  rintro i m H ⟨rfl, hi, p⟩
  obtain ⟨qx, qy⟩ := hq i H p
  by_cases hlt : i < xs.length
  · have hlt2 : i < ys.length := by omega
    refine .inr ⟨⟨xs, ys, xs[i], ys[i], qx, qy, List.getElem?_eq_getElem hlt, List.getElem?_eq_getElem hlt2⟩, Pv (i + 1), fun H' p' => ⟨xs.length - (i + 1), by omega, rfl, hlt, p'⟩, fun v H' yy => ?_⟩
    obtain ⟨T, x, y, rfl, hT, rfl, f1, f2⟩ := yy
    exact hs i x y T H (f1 xs qx) (f2 ys qy) p hT
  · have e : i = xs.length := by omega
    subst e
    exact .inl ⟨⟨xs, ys, qx, qy, .inl (Nat.le_refl _)⟩, hd H p⟩
end EaZ
namespace EaZ
open PySem PySem.Spec PyProof.Rows L2
/-- a loop over zip of two lists of any lengths: n turns, the lesser one -/
theorem for_zipM {K : PySem.W.Frag} {a b : Addr} {xs ys : List V} {n : Nat} {g : TG} {tb : TS} {D : Ends} {σ : L2.St} {H : Hp} (hn : n = min xs.length ys.length) (Pv : Nat → L2.St → Hp → Prop) (h0 : Pv 0 σ H)
    (hq : ∀ i σ H, Pv i σ H → SqL K H a xs ∧ SqL K H b ys)
    (hs : ∀ (i : Nat) (x y : V) (T : Addr) (σ : L2.St) (H : Hp), xs[i]? = some x → ys[i]? = some y → Pv i σ H → H T = none → g (.ref T) σ (upd H T (.tup [x, y])) fun σ2 H2 => tb { D with nx := Pv (i + 1), ct := Pv (i + 1), bk := D.nx } σ2 H2) (hd : ∀ σ H, Pv n σ H → D.nx σ H) :
    ∃ W : Nat → Nat → L2.St → Hp → Prop, (∃ m, W 0 m σ H) ∧ ∀ i m σ H, W i m σ H →
      ((Itz K a b).stop i H ∧ D.nx σ H) ∨ ((Itz K a b).go i H ∧ ∃ N : L2.St → Hp → Prop, (∀ σ' H', N σ' H' → ∃ m', m' < m ∧ W (i + 1) m' σ' H') ∧ ∀ v H', (Itz K a b).yld i H v H' → g v σ H' fun σ2 H2 => tb { D with nx := N, ct := N, bk := D.nx } σ2 H2) := by
  refine ⟨fun i m σ H => m = n - i ∧ i ≤ n ∧ Pv i σ H, ⟨n, rfl, Nat.zero_le _, h0⟩, ?_⟩
  rintro i m σ H ⟨rfl, hi, p⟩
  obtain ⟨qx, qy⟩ := hq i σ H p
  by_cases hlt : i < n
  · have h1 : i < xs.length := by omega
    have h2 : i < ys.length := by omega
    refine .inr ⟨⟨xs, ys, xs[i], ys[i], qx, qy, List.getElem?_eq_getElem h1, List.getElem?_eq_getElem h2⟩, Pv (i + 1), fun σ' H' p' => ⟨n - (i + 1), by omega, rfl, hlt, p'⟩, fun v H' yy => ?_⟩
    obtain ⟨T, x, y, rfl, hT, rfl, f1, f2⟩ := yy
    exact hs i x y T σ H (f1 xs qx) (f2 ys qy) p hT
  · have e : i = n := by omega
    subst e
    exact .inl ⟨⟨xs, ys, qx, qy, by omega⟩, hd σ H p⟩
end EaZ
set_option maxRecDepth 100000
set_option maxHeartbeats 4000000
/-! lists and tuples alike: walked, read, cut -/
namespace EaS
open PySem PySem.Spec PyProof.Rows L2
/-- at a stands a list or a tuple of xs -/
def Sq (K : PySem.W.Frag) (H : Hp) (a : Addr) (xs : List V) : Prop := SqL K H a xs ∨ SqT K H a xs
theorem Sq.up {K : PySem.W.Frag} {H H' : Hp} {a : Addr} {xs : List V} (h : Sq K H a xs) (e : Same H H') : Sq K H' a xs := by
  rcases h with h | h
  · exact .inl (e.seq h)
  · refine .inr ?_
    rcases h with (h | ⟨o, h⟩) | h
    · exact .inl (.inl (e _ _ h))
    · exact .inl (.inr ⟨o, e _ _ h⟩)
    · exact .inr h
section
variable {X : Cx} {tg : Expr}
def iSeq (K : PySem.W.Frag) (tl : TE) : TI := fun σ H R => tl σ H fun x H1 => ∃ a xs, x = .ref a ∧ ((SqL K H1 a xs ∧ R (Itl K a) H1) ∨ (SqT K H1 a xs ∧ R (Itt K a) H1))
theorem pi_seq {l : Expr} {tl : TE} (hl : PE X l tl) : PI X tg l (iSeq X.K tl) := by
  refine ⟨fun pins s σ H R I h => thn (hl.run pins s σ H _ I h) fun v s1 ⟨x, H1, I1, r1, a, xs, e, q⟩ => ?_⟩
  subst e
  cases r1
  have fresh : ∀ b ∈ [s1.heap.objs.size], FpOk X pins H1 b := fun b hb => by
    rw [List.mem_singleton.mp hb]
    exact I1.fpOk (Nat.le_refl _) (I1.hok.fresh (Nat.le_refl _))
  have kept : ∀ o, Inv X pins σ H1 { s1 with heap := s1.heap.push o } := fun o => I1.kept (t' := s1.toks) fun b o e => Heap.get?_push_of_some _ e
  rcases q with ⟨hq, q⟩ | ⟨hq, q⟩
  · obtain ⟨its, rv, p, hz⟩ := I1.list hq
    exact wpAny_pyIter_list p.isList ⟨s1.heap.objs.size, [s1.heap.objs.size], _, _, H1, rfl, kept _, turn_list a _, ⟨_, Heap.get?_push_size _ rfl, rfl, rfl⟩, fresh, q⟩
  · obtain ⟨its, rv, p, hz⟩ := I1.tuple hq
    exact wpAny_pyIter_tuple (show s1.heap.IsTuple a its.toArray from p) ⟨s1.heap.objs.size, [s1.heap.objs.size], _, _, H1, rfl, kept _, turn_tuple a _, ⟨_, Heap.get?_push_size _ rfl, rfl, rfl⟩, fresh, q⟩
theorem for_seq {K : PySem.W.Frag} {a : Addr} {xs : List V} {g : TG} {tb : TS} {D : Ends} {σ : L2.St} {H : Hp} {B : Hp} (hq : Sq K B a xs) (Pv : Nat → L2.St → Hp → Prop) (h0 : Pv 0 σ H) (hl : ∀ i σ' H', i ≤ xs.length → Pv i σ' H' → Same B H')
    (hs : ∀ i x σ H, xs[i]? = some x → Pv i σ H → g x σ H fun σ2 H2 => tb { D with nx := Pv (i + 1), ct := Pv (i + 1), bk := D.nx } σ2 H2) (hd : ∀ σ H, Pv xs.length σ H → D.nx σ H) :
    (SqL K H a xs ∧ ∃ W : Nat → Nat → L2.St → Hp → Prop, (∃ m, W 0 m σ H) ∧ ∀ i m σ H, W i m σ H →
      ((Itl K a).stop i H ∧ D.nx σ H) ∨ ((Itl K a).go i H ∧ ∃ N : L2.St → Hp → Prop, (∀ σ' H', N σ' H' → ∃ m', m' < m ∧ W (i + 1) m' σ' H') ∧ ∀ x H', (Itl K a).yld i H x H' → g x σ H' fun σ2 H2 => tb { D with nx := N, ct := N, bk := D.nx } σ2 H2)) ∨
    (SqT K H a xs ∧ ∃ W : Nat → Nat → L2.St → Hp → Prop, (∃ m, W 0 m σ H) ∧ ∀ i m σ H, W i m σ H →
      ((Itt K a).stop i H ∧ D.nx σ H) ∨ ((Itt K a).go i H ∧ ∃ N : L2.St → Hp → Prop, (∀ σ' H', N σ' H' → ∃ m', m' < m ∧ W (i + 1) m' σ' H') ∧ ∀ x H', (Itt K a).yld i H x H' → g x σ H' fun σ2 H2 => tb { D with nx := N, ct := N, bk := D.nx } σ2 H2)) := by
  have hB := hl 0 σ H (Nat.zero_le _) h0
  rcases hq with h | h
  · exact .inl ⟨hB.seq h, for_list Pv h0 (fun i σ' H' hi p => (hl i σ' H' hi p).seq h) hs hd⟩
  · have up : ∀ {H' : Hp}, Same B H' → SqT K H' a xs := fun {H'} e => by
      rcases h with (h | ⟨o, h⟩) | h
      · exact .inl (.inl (e _ _ h))
      · exact .inl (.inr ⟨o, e _ _ h⟩)
      · exact .inr h
    exact .inr ⟨up hB, for_tup Pv h0 (fun i σ' H' hi p => up (hl i σ' H' hi p)) hs hd⟩
theorem lc_seq {K : PySem.W.Frag} {a : Addr} {xs : List V} {g : TG} {tt : TT} {te : TE} {vs : List Nat} {σ : L2.St} {H1 : Hp} {Q : VK} (hq : Sq K H1 a xs) (Pv : Addr → Nat → Hp → Prop) (h0 : ∀ D, H1 D = none → Pv D 0 (upd H1 D (.lst []))) (hl : ∀ D i H', i ≤ xs.length → Pv D i H' → Same H1 H')
    (hs : ∀ D i x H, H1 D = none → xs[i]? = some x → Pv D i H → g x (wipe σ vs) H fun σ2 H2 => wipe σ2 vs = wipe σ vs ∧ tt σ2 H2 fun b H3 =>
      if b = true then te σ2 H3 fun y H4 => ∃ acc, H4 D = some (.lst acc) ∧ acc.length < sizeLine ∧ Pv D (i + 1) (upd H4 D (.lst (acc ++ [y]))) else Pv D (i + 1) H3) (hd : ∀ D H, H1 D = none → Pv D xs.length H → Q (.ref D) H) :
    ∃ a' xs', (V.ref a) = .ref a' ∧ ((SqL K H1 a' xs' ∧ ∀ D, H1 D = none → ∃ W : Nat → Nat → Hp → Prop, (∃ m, W 0 m (upd H1 D (.lst []))) ∧ ∀ i m H, W i m H →
      ((Itl K a').stop i H ∧ Q (.ref D) H) ∨ ((Itl K a').go i H ∧ ∃ Nx : Hp → Prop, (∀ H', Nx H' → ∃ m', m' < m ∧ W (i + 1) m' H') ∧ ∀ x H', (Itl K a').yld i H x H' → g x (wipe σ vs) H' fun σ2 H2 => wipe σ2 vs = wipe σ vs ∧ tt σ2 H2 fun b H3 =>
        if b = true then te σ2 H3 fun y H4 => ∃ acc, H4 D = some (.lst acc) ∧ acc.length < sizeLine ∧ Nx (upd H4 D (.lst (acc ++ [y]))) else Nx H3)) ∨
     (SqT K H1 a' xs' ∧ ∀ D, H1 D = none → ∃ W : Nat → Nat → Hp → Prop, (∃ m, W 0 m (upd H1 D (.lst []))) ∧ ∀ i m H, W i m H →
      ((Itt K a').stop i H ∧ Q (.ref D) H) ∨ ((Itt K a').go i H ∧ ∃ Nx : Hp → Prop, (∀ H', Nx H' → ∃ m', m' < m ∧ W (i + 1) m' H') ∧ ∀ x H', (Itt K a').yld i H x H' → g x (wipe σ vs) H' fun σ2 H2 => wipe σ2 vs = wipe σ vs ∧ tt σ2 H2 fun b H3 =>
        if b = true then te σ2 H3 fun y H4 => ∃ acc, H4 D = some (.lst acc) ∧ acc.length < sizeLine ∧ Nx (upd H4 D (.lst (acc ++ [y]))) else Nx H3))) := by
  refine ⟨a, xs, rfl, ?_⟩
  rcases hq with h | h
  · exact .inl ⟨h, fun D hD => lc_list (Qd := fun H => Q (.ref D) H) (Pv D) (h0 D hD) (fun i H' hi p => (hl D i H' hi p).seq h) (fun i x H e p => hs D i x H hD e p) fun H p => hd D H hD p⟩
  · refine .inr ⟨h, fun D hD => lc_tup (Qd := fun H => Q (.ref D) H) (Pv D) (h0 D hD) (fun i H' hi p => ?_) (fun i x H e p => hs D i x H hD e p) fun H p => hd D H hD p⟩
    rcases h with (h | ⟨o, h⟩) | h
    · exact .inl (.inl (hl D i H' hi p _ _ h))
    · exact .inl (.inr ⟨o, hl D i H' hi p _ _ h⟩)
    · exact .inr h
theorem same_new' {H : Hp} {p : Addr} {o : HO} (h : H p = none) : Same H (upd H p o) := fun b x e => by
  rw [upd_ne (ne_of_none e h)]
  exact e
/-- the heap without what stands at p -/
def del (H : Hp) (p : Addr) : Hp := fun b => if b = p then none else H b
theorem same_del {H H' : Hp} {p : Addr} (h : H p = none) (e : Same H H') : Same H (del H' p) := fun b o q => by
  unfold del
  rw [if_neg (ne_of_none q h)]
  exact e b o q
theorem del_same {H H' : Hp} {p : Addr} (k : ∀ b o, b ≠ p → H b = some o → H' b = some o) : Same (del H p) H' := fun b o q => by
  unfold del at q
  by_cases e : b = p
  · rw [if_pos e] at q; cases q
  · rw [if_neg e] at q; exact k b o e q
theorem del_at {H : Hp} {p b : Addr} {o : HO} (h : H b = some o) (e : b ≠ p) : del H p b = some o := by
  unfold del; rw [if_neg e]; exact h
theorem del_self {H : Hp} {p : Addr} : del H p p = none := by unfold del; rw [if_pos rfl]
/-- x[lo:hi] of a list or a tuple: a list or a tuple -/
def rSlS (K : PySem.W.Frag) : V → Option Int → Option Int → Hp → VK → Prop := fun x lo hi H Q => ∃ a xs, x = .ref a ∧ Sq K H a xs ∧ ∀ t H', Same H H' → ((H t = none ∧ (H' t = some (.lst (cutV xs lo hi)) ∨ H' t = some (.tup (cutV xs lo hi)))) ∨ (t = a ∧ cutV xs lo hi = xs)) → Q (.ref t) H'
theorem sl_seq : SlR X (rSlS X.K) := by
  intro pins s σ H x v vl vu lo hi sl Q I rx hs pl pu h
  obtain ⟨a, xs, rfl, hx, q⟩ := h
  rcases hx with hx | hx
  · exact sl_list pins s σ H _ v vl vu lo hi sl Q I rx hs pl pu ⟨a, xs, rfl, hx, fun p hp => q p _ (same_new' hp) (.inl ⟨hp, .inl upd_same⟩)⟩
  · refine sl_tupA pins s σ H _ v vl vu lo hi sl Q I rx hs pl pu ⟨a, xs, rfl, hx, fun e => ?_, fun _ p hp => q p _ (same_new' hp) (.inl ⟨hp, .inr upd_same⟩)⟩
    refine q a H (Same.refl H) (.inr ⟨rfl, ?_⟩)
    unfold cutV
    rw [e.1, e.2]; simp
def rIxS2 (K : PySem.W.Frag) : R2 := fun x y H Q => ∃ p xs i v, x = .ref p ∧ y = .int i ∧ Sq K H p xs ∧ atI xs i = some v ∧ Q v H
theorem ix_seq2 : IxR X (rIxS2 X.K) := by
  intro value slice pins s σ H x y v u Q I rx ry h hs
  obtain ⟨p, xs, i, w, e1, e2, hx, hi, q⟩ := h
  rcases hx with hx | hx
  · exact ix_list value slice pins s σ H x y v u Q I rx ry ⟨p, xs, i, w, e1, e2, hx, hi, q⟩ hs
  · exact ix_tup value slice pins s σ H x y v u Q I rx ry ⟨p, xs, i, w, e1, e2, hx, hi, q⟩ hs
end
end EaS
set_option maxRecDepth 100000
set_option maxHeartbeats 4000000
namespace EaK
open PySem PySem.Spec PyProof.Rows L2
section
variable {X : Cx} {CX : CXT} {k : Nat} {f C : Addr} {fd : FuncData} {ps ks : List Str} {sp : Sp} {E : XK} {x m : Str} {p pos apos kpos : Pos} {e o : Expr} {es : List Expr} {kws : List Keyword} {te ta : TE} {t tk : TA} {nm : Option Str}
variable {g : List Value → List Value → List Value} {gV : List V → List V → List V}
/-- f(k = v, ..), with no place filled by its order -/
theorem pe_callK0 (F : FnOk X.prog X.w X.K X.mg X.base CX k f fd ps sp) (hr : Room k X.A) (hg : Gl X x) (hm : X.mg x = some (.ref f)) (hk : PySem.W.keepIn X.K (.ref f) = true) (hb : KBinds X.K fd ps ks g gV) (hx : Passes CX X E)
    (hkw : PK X kws tk) (hall : (backToKw pos (keywordEach kws X.env)).all (·.1.isSome) = true := by rfl) (hks : (backToKw pos (keywordEach kws X.env)).filterMap (·.1) = ks := by rfl)
    (hdb : (x == ("__debug__" : Str)) = false := by decide)
    (hpl : ((backTo pos (starEach [] X.env)).any (·.1) || (backToKw pos (keywordEach kws X.env)).any (·.1.isNone)) = false := by rfl) :
    PE X (.Call (.Name x p) [] kws pos) (tCallK sp gV E tNil tk) := by
  refine ⟨fun pins s σ H Q I h => ?_⟩
  refine wpAny_Call_Name_kw (ld_glob I hg hm ?_ hdb)
  refine PySem.W.callWith_KW0 (h₀ := X.base) I.ok.mod.kin hk hall (thn (hkw.run pos pins s σ H _ I h) fun ws s2 ⟨zs, H2, I2, rz, q2⟩ => ⟨I2.kIn, ?_⟩) hpl
  rw [hks]
  exact run_fnk F hr hb hx I2 .nil rz q2
end
/-- the one parameter of a def, told by its name -/
theorem kb_one {K : PySem.W.Frag} {qual y : Str} {st : Stmt} {f : Addr} {fd : FuncData} (F : Fun K qual qual st f fd)
    (h : ∀ (kV doc pm : Value) (an : Option Addr) (cdv ct : Value) (u : Value), bindArgs (PySem.W.fnOf qual qual (defArgs st) (defBody st) (defScope st) .none kV doc pm an cdv ct) ⟨[u], []⟩ = pure [(y, u)])
    (h2 : ∀ (kV doc pm : Value) (an : Option Addr) (cdv ct : Value) (u : Value), bindArgs (PySem.W.fnOf qual qual (defArgs st) (defBody st) (defScope st) .none kV doc pm an cdv ct) ⟨[], [(y, u)]⟩ = pure [(y, u)]) :
    KBinds K fd [y] [y] (fun us ws => us ++ ws) (fun vs zs => vs ++ zs) := by
  obtain ⟨oc, od, kV, doc, pm, an, cdv, ct, osl, rfl, lk, hcd⟩ := F.ex
  refine ⟨fun s us ws _ hl => ?_, fun r1 r2 => ?_⟩
  · match us, ws, hl with
    | [u], [], _ => exact .of_eq (h kV doc pm an cdv ct u)
    | [], [u], _ => exact .of_eq (h2 kV doc pm an cdv ct u)
  · exact r1.append r2
/-- either side of an `a if c else b` hands on what R says -/
theorem both {c : Bool} {tA tB : TE} {σ : L2.St} {H : Hp} {Q : VK} (R : V → Hp → Prop) (h : ∀ v H', R v H' → Q v H') (hA : c = true → ∀ Q' : VK, (∀ v H', R v H' → Q' v H') → tA σ H Q') (hB : ¬ c = true → ∀ Q' : VK, (∀ v H', R v H' → Q' v H') → tB σ H Q') : if c = true then tA σ H Q else tB σ H Q := by
  by_cases e : c = true
  · rw [if_pos e]; exact hA e Q h
  · rw [if_neg e]; exact hB e Q h
end EaK
namespace EaK
open PySem PySem.Spec PyProof.Rows L2
section
variable {X : Cx}
theorem tuple_ofK {K : PySem.W.Frag} (hK : X.K = K) : CallR X (.type "tuple") (fun xs H Q => ∃ p ys, xs = [.ref p] ∧ ((SqL K H p ys ∧ ∀ l, H l = none → Q (.ref l) (upd H l (.tup ys))) ∨ (SqT K H p ys ∧ Q (.ref p) H))) := by
  subst hK
  exact call_tuple_of
theorem pi_tupK {K : PySem.W.Frag} {tg l : Expr} {tl : TE} (hK : X.K = K) (hl : PE X l tl) : PI X tg l (iTup K tl) := by
  subst hK
  exact pi_tup hl
end
end EaK
namespace EaK
open PySem PySem.Spec PyProof.Rows L2
theorem ix_tupK {X : Cx} {K : PySem.W.Frag} (hK : X.K = K) : IxR X (rIxT K) := by
  subst hK
  exact ix_tup
end EaK
set_option maxRecDepth 100000
set_option maxHeartbeats 4000000
namespace Ea
open PySem PySem.Spec PyProof.Rows L2
def topS (i : Nat) : Stmt := PySem.Challenge.pw_eachtongue_k63_great_rows_turn_at_told_s.main.body.getD i (.Pass ⟨0, 0, 0, 0⟩)
/-- a def of the top as it stands behind it: its address, its name's worth, how it binds -/
structure DefAt (K : PySem.W.Frag) (mg : Str → Option Value) (x : Str) (st : Stmt) (ps : List Str) (f : Addr) (fd : FuncData) : Prop where
  F : Fun K x x st f fd
  g : mg x = some (.ref f)
  b : Binds K fd ps []
/-- the built-ins' names that nobody has taken -/
structure Txt (mg : Str → Option Value) : Prop where
  n_len : mg "len" = none
  n_max : mg "max" = none
  n_min : mg "min" = none
  n_sum : mg "sum" = none
  n_abs : mg "abs" = none
  n_int : mg "int" = none
  n_str : mg "str" = none
  n_bool : mg "bool" = none
  n_tuple : mg "tuple" = none
  n_list : mg "list" = none
  n_dict : mg "dict" = none
  n_zip : mg "zip" = none
  n_range : mg "range" = none
  n_sorted : mg "sorted" = none
  n_set : mg "set" = none
  n_isinstance : mg "isinstance" = none
/-! ### heaps -/
theorem same_new {H : Hp} {p : Addr} {o : HO} (h : H p = none) : Same H (upd H p o) := fun b x e => by
  rw [upd_ne (ne_of_none e h)]
  exact e
theorem upT {K : PySem.W.Frag} {H H' : Hp} {a : Addr} {xs : List V} (h : SqT K H a xs) (e : Same H H') : SqT K H' a xs := by
  rcases h with (h | ⟨o, h⟩) | h
  · exact .inl (.inl (e _ _ h))
  · exact .inl (.inr ⟨o, e _ _ h⟩)
  · exact .inr h
theorem upL {K : PySem.W.Frag} {H H' : Hp} {a : Addr} {xs : List V} (h : SqL K H a xs) (e : Same H H') : SqL K H' a xs := e.seq h
theorem get_mapI {ns : List Int} {i : Nat} {x : V} (h : (ns.map V.int)[i]? = some x) : ∃ n, ns[i]? = some n ∧ x = .int n := by
  rw [List.getElem?_map, Option.map_eq_some_iff] at h
  obtain ⟨n, h1, h2⟩ := h
  exact ⟨n, h1, h2.symm⟩
theorem lt_of_get {α : Type} {l : List α} {i : Nat} {x : α} (h : l[i]? = some x) : i < l.length := (List.getElem?_eq_some_iff.mp h).1
theorem take_get {α : Type} {l : List α} {i : Nat} {x : α} (h : l[i]? = some x) : l.take (i + 1) = l.take i ++ [x] := by
  rw [List.take_add_one, h]; rfl
end Ea
set_option maxRecDepth 100000
set_option maxHeartbeats 4000000
namespace Rw
def hstep (x : Int) (f a : Int) : Int := f * x + a
theorem worth_fold (x : Int) : ∀ r : List Int, r.reverse.foldl (hstep x) 0 = worth r x
  | [] => rfl
  | a :: r => by
    rw [List.reverse_cons, List.foldl_append, worth_fold x r]; rfl
theorem fold_next {x : Int} {l : List Int} {i : Nat} {n : Int} (h : l[i]? = some n) : (l.take (i + 1)).foldl (hstep x) 0 = (l.take i).foldl (hstep x) 0 * x + n := by
  rw [List.take_add_one, h, List.foldl_append]; rfl
end Rw
namespace Ea
open PySem PySem.Spec PyProof.Rows L2
section
variable {P : Program} {w : World} {K : PySem.W.Frag} {mg : Str → Option Value} {base : Heap}
abbrev s_worth : Stmt := topS 5
abbrev N_worth : List Str := ["row", "size", "found", "number"]
theorem S_worth : FnScope N_worth ["row", "size"] (defScope s_worth) := ⟨rfl, rfl, rfl, by decide +kernel, rfl, by decide +kernel, by decide +kernel⟩
def spWorth (K : PySem.W.Frag) : Sp := fun vs H Q _ => ∃ (a : Addr) (ns : List Int) (x : Int), vs = [.ref a, .int x] ∧ SqT K H a (ns.map V.int) ∧ -(2 ^ 64) < x ∧ x < 2 ^ 64 ∧ ∀ H', Same H H' → Q (.int (Rw.worth ns x)) H'
theorem ok_worth {f : Addr} {fd : FuncData} (D : DefAt K mg "worth" s_worth ["row", "size"] f fd) (T : Txt mg) : FnOk P w K mg base CX0 1 f fd ["row", "size"] (spWorth K) := by
  refine D.F.ok S_worth (fun vs H Q E h => ?_) (fun cdv A outer s H vs Q E hr h => ?_)
  · obtain ⟨a, ns, x, rfl, _⟩ := h
    rfl
  · obtain ⟨a, ns, x, rfl, hT, b1, b2, q⟩ := h
    refine ⟨_, (pss_cons (ps_set (i := 2) S_worth.nd rfl (Or.inl rfl) pe_int)
      (pss_cons (ps_for PassesOwn.never rfl (pi_tup (EaR.pe_backT (pv 0))) (pg_name (i := 3) S_worth.nd rfl (Or.inl rfl))
        (pss_one (ps_set (i := 2) S_worth.nd rfl (Or.inl rfl) (pe_op op_add (pe_op op_mul (pv 2) (pv 1)) (pv 3)))))
      (pss_one (ps_ret (pv 2))))), ?_⟩
    refine ⟨.ref a, rfl, a, _, rfl, hT, fun p hp => ⟨p, rfl, ⟨_, .inl (.inl upd_same)⟩, ?_⟩⟩
    rw [← List.map_reverse]
    refine for_tup (xs := ns.reverse.map V.int) (fun i σ H' => ∃ v, σ = [some (.ref a), some (.int x), some (.int ((ns.reverse.take i).foldl (Rw.hstep x) 0)), v] ∧ H' = upd H p (.tup (ns.reverse.map V.int)))
      ⟨none, rfl, rfl⟩ (fun i σ H' _ h => by obtain ⟨_, _, rfl⟩ := h; exact .inl (.inl upd_same)) ?_ ?_
    · rintro i y σ H' hy ⟨v, rfl, rfl⟩
      obtain ⟨n, hn, rfl⟩ := get_mapI hy
      refine ⟨_, rfl, _, rfl, _, _, rfl, rfl, .inr ⟨b1, b2⟩, _, rfl, _, _, rfl, rfl, ?_⟩
      exact ⟨_, by rw [Rw.fold_next hn]; rfl, rfl⟩
    · rintro σ H' ⟨v, rfl, rfl⟩
      refine ⟨_, rfl, ?_⟩
      rw [List.length_map, List.take_length, Rw.worth_fold]
      exact q _ (same_new hp)
end
end Ea
set_option maxRecDepth 100000
set_option maxHeartbeats 4000000
namespace Ea
open PySem PySem.Spec PyProof.Rows L2
section
variable {P : Program} {w : World} {K : PySem.W.Frag} {mg : Str → Option Value} {base : Heap}
/-! ### tuples put together: whichever object comes of it -/
theorem Same.upd1 {H : Hp} {p : Addr} {o : HO} (h : H p = none) : Same H (upd H p o) := same_new h
theorem cat_any {H : Hp} {a b : Addr} {xs ys : List V} {Q : VK} (ha : SqT K H a xs) (hb : SqT K H b ys) (hz : xs.length + ys.length ≤ sizeLine) (h : ∀ t H', Same H H' → SqT K H' t (xs ++ ys) → Q (.ref t) H') : rCatA K (.ref a) (.ref b) H Q := by
  refine ⟨a, b, xs, ys, rfl, rfl, ha, hb, hz, fun e => ?_, fun _ e => ?_, fun _ _ p hp => h p _ (same_new hp) (.inl (.inl upd_same))⟩
  · subst e; exact h b H (Same.refl H) hb
  · subst e; exact h a H (Same.refl H) (by rw [List.append_nil]; exact ha)
theorem rep_any {H : Hp} {l : Addr} {k : Int} {xs : List V} {Q : VK} (hl : SqT K H l xs) (hne : xs ≠ []) (h0 : 0 ≤ k) (h1 : k ≤ 1000) (hz : xs.length ≤ 1000) (h : ∀ t H', Same H H' → SqT K H' t (List.replicate k.toNat xs).flatten → Q (.ref t) H') : EaR.rRepA K (.ref l) (.int k) H Q := by
  refine ⟨l, k, xs, rfl, rfl, hl, hne, by omega, h1, hz, fun e => ?_, fun _ p hp => h p _ (same_new hp) (.inl (.inl upd_same))⟩
  subst e
  refine h l H (Same.refl H) ?_
  have e : (List.replicate (1 : Int).toNat xs).flatten = xs := by simp
  rw [e]; exact hl
theorem cut_whole (xs : List V) (lo hi : Option Int) (h : HT.sIx xs.length 0 lo = 0 ∧ HT.sIx xs.length xs.length hi = xs.length) : cutV xs lo hi = xs := by
  unfold cutV
  rw [h.1, h.2]; simp
theorem sl_any {H : Hp} {a : Addr} {lo hi : Option Int} {xs : List V} {Q : VK} (ha : SqT K H a xs) (h : ∀ t H', Same H H' → SqT K H' t (cutV xs lo hi) → Q (.ref t) H') : rSlA K (.ref a) lo hi H Q := by
  refine ⟨a, xs, rfl, ha, fun e => ?_, fun _ p hp => h p _ (same_new hp) (.inl (.inl upd_same))⟩
  refine h a H (Same.refl H) ?_
  rw [cut_whole xs lo hi e]; exact ha
theorem flat_zeros : ∀ k : Nat, (List.replicate k [V.int 0]).flatten = (List.replicate k (0 : Int)).map V.int
  | 0 => rfl
  | k + 1 => by
    rw [List.replicate_succ, List.replicate_succ, List.flatten_cons, flat_zeros k]; rfl
theorem pad_map (n : Nat) (ns : List Int) : ns.map V.int ++ (List.replicate (((n : Nat) : Int) - (ns.length : Nat)).toNat [V.int 0]).flatten = (Rw.pad n ns).map V.int := by
  unfold Rw.pad
  have e : (((n : Nat) : Int) - (ns.length : Nat)).toNat = n - ns.length := by omega
  rw [flat_zeros, List.map_append, e]
theorem max_int (a b : Nat) : (if ((b : Nat) : Int) > (a : Nat) then ((b : Nat) : Int) else (a : Nat)) = ((max a b : Nat) : Int) := by
  split <;> omega
theorem small_line {n : Nat} (h : n ≤ 2000) : n ≤ sizeLine := Nat.le_trans h (by decide)
/-! ### sign_of, row_less -/
abbrev s_sign_of : Stmt := topS 6
abbrev N_sign_of : List Str := ["number"]
theorem S_sign_of : FnScope N_sign_of ["number"] (defScope s_sign_of) := ⟨rfl, rfl, rfl, by decide +kernel, rfl, by decide +kernel, by decide +kernel⟩
def spSign : Sp := fun vs H Q _ => ∃ n : Int, vs = [.int n] ∧ Q (.int (Rw.sgn n)) H
theorem sgn_b (n : Int) : b2i (decide (0 < n)) - b2i (decide (n < 0)) = Rw.sgn n := by
  rcases Rw.sgn_cases n with ⟨h, e⟩ | ⟨h, e⟩ | ⟨h, e⟩
  · rw [e, decide_eq_true h, decide_eq_false (by omega)]; rfl
  · rw [e, decide_eq_true h, decide_eq_false (by omega)]; rfl
  · subst h; rfl
theorem ok_sign_of {f : Addr} {fd : FuncData} (D : DefAt K mg "sign_of" s_sign_of ["number"] f fd) : FnOk P w K mg base CX0 1 f fd ["number"] spSign := by
  refine D.F.ok S_sign_of (fun vs H Q E h => ?_) (fun cdv A outer s H vs Q E hr h => ?_)
  · obtain ⟨n, rfl, _⟩ := h
    rfl
  · obtain ⟨n, rfl, q⟩ := h
    refine ⟨_, (pss_one (ps_ret (pe_op EaR.op_subB (pe_cmpR op_gt (pv 0) pe_int (nomark _)) (pe_cmpR op_lt (pv 0) pe_int (nomark _))))), ?_⟩
    refine ⟨_, rfl, _, _, rfl, rfl, _, rfl, _, _, rfl, rfl, _, _, rfl, rfl, ?_⟩
    rw [sgn_b]
    exact q
abbrev s_row_less : Stmt := topS 7
abbrev N_row_less : List Str := ["one", "other", "many", "first", "second", "number", "late"]
theorem S_row_less : FnScope N_row_less ["one", "other"] (defScope s_row_less) := ⟨rfl, rfl, rfl, by decide +kernel, rfl, by decide +kernel, by decide +kernel⟩
def spRowLess (K : PySem.W.Frag) : Sp := fun vs H Q _ => ∃ (a b : Addr) (ns ms : List Int), vs = [.ref a, .ref b] ∧ SqT K H a (ns.map V.int) ∧ SqT K H b (ms.map V.int) ∧ ns.length ≤ 900 ∧ ms.length ≤ 900 ∧
  ∀ H' p, Same H H' → H' p = some (.tup ((Rw.rowLess ns ms).map V.int)) → Q (.ref p) H'
theorem ok_row_less {f : Addr} {fd : FuncData} (D : DefAt K mg "row_less" s_row_less ["one", "other"] f fd) (T : Txt mg) : FnOk P w K mg base CX0 1 f fd ["one", "other"] (spRowLess K) := by
  refine D.F.ok S_row_less (fun vs H Q E h => ?_) (fun cdv A outer s H vs Q E hr h => ?_)
  · obtain ⟨a, b, ns, ms, rfl, _⟩ := h
    rfl
  · obtain ⟨a, b, ns, ms, rfl, h1, h2, l1, l2, q⟩ := h
    refine ⟨_, (pss_cons (ps_set (i := 2) S_row_less.nd rfl (.inl rfl) (pe_callB (call_max2 rfl) (by rfl) T.n_max (by decide +kernel) (pa_cons (pe_callB call_len_seq (by rfl) T.n_len (by decide +kernel) (pa_cons (pv 0) pa_nil)) (pa_cons (pe_callB call_len_seq (by rfl) T.n_len (by decide +kernel) (pa_cons (pv 1) pa_nil)) pa_nil))))
      (pss_cons (ps_set (i := 3) S_row_less.nd rfl (.inl rfl) (pe_op op_catA (pe_callTy call_tuple_of (by rfl) T.n_tuple (by decide +kernel) (pa_cons (pv 0) pa_nil)) (pe_op EaR.op_repA (pe_tup (pa_cons pe_int pa_nil)) (pe_op op_sub (pv 2) (pe_callB call_len_seq (by rfl) T.n_len (by decide +kernel) (pa_cons (pv 0) pa_nil))))))
      (pss_cons (ps_set (i := 4) S_row_less.nd rfl (.inl rfl) (pe_op op_catA (pe_callTy call_tuple_of (by rfl) T.n_tuple (by decide +kernel) (pa_cons (pv 1) pa_nil)) (pe_op EaR.op_repA (pe_tup (pa_cons pe_int pa_nil)) (pe_op op_sub (pv 2) (pe_callB call_len_seq (by rfl) T.n_len (by decide +kernel) (pa_cons (pv 1) pa_nil))))))
      (pss_one (ps_ret (pe_callTy call_tuple_of (by rfl) T.n_tuple (by decide +kernel) (pa_cons (pe_lc (own := [("number", 5), ("late", 6)]) rfl S_row_less.nd (RZ.pi_zipA (by rfl) T.n_zip (pa_cons (pv 3) (pa_cons (pv 4) pa_nil))) (blkOk_by (own := [("number", 5), ("late", 6)]) (N := N_row_less) (sc := defScope s_row_less) (by decide +kernel)) (fun _ _ _ _ _ => (EaR.pg_tupK (K := K) (n := 2) rfl rfl (pgs_cons (pg_name (i := 5) S_row_less.nd rfl (.inl rfl)) (pgs_cons (pg_name (i := 6) S_row_less.nd rfl (.inl rfl)) pgs_nil)))) (fun _ _ _ _ _ => pts_nil) (fun _ _ _ _ _ => (pe_op op_sub (pv 5) (pv 6)))) pa_nil))))))), ?_⟩
    -- many
    refine ⟨.ref a, rfl, a, _, rfl, .inr h1, .ref b, rfl, b, _, rfl, .inr h2, _, _, rfl, ?_⟩
    rw [List.length_map, List.length_map, max_int]
    -- first
    refine ⟨.ref a, rfl, a, _, rfl, .inr ⟨h1, ?_⟩⟩
    refine ⟨by show 1 ≤ sizeLine; decide, fun z hz => ⟨_, rfl, .ref a, rfl, a, _, rfl, .inr (upT h1 (same_new hz)), _, _, rfl, rfl, ?_⟩⟩
    rw [List.length_map]
    refine rep_any (.inl (.inl upd_same)) (by simp) (by omega) (by omega) (by show 1 ≤ 1000; decide) fun t1 H1 s1 e1 => ?_
    have s1' := (same_new hz).trans s1
    refine cat_any (upT h1 s1') e1 (small_line ?_) fun t2 H2 s2 e2 => ?_
    · rw [flat_zeros, List.length_map, List.length_map, List.length_replicate]; omega
    rw [pad_map] at e2
    have s2' := s1'.trans s2
    -- second
    refine ⟨.ref b, rfl, b, _, rfl, .inr ⟨upT h2 s2', ?_⟩⟩
    refine ⟨by show 1 ≤ sizeLine; decide, fun y hy => ⟨_, rfl, .ref b, rfl, b, _, rfl, .inr (upT (upT h2 s2') (same_new hy)), _, _, rfl, rfl, ?_⟩⟩
    rw [List.length_map]
    refine rep_any (.inl (.inl upd_same)) (by simp) (by omega) (by omega) (by show 1 ≤ 1000; decide) fun t3 H3 s3 e3 => ?_
    have s3' := (same_new hy).trans s3
    refine cat_any (upT (upT h2 s2') s3') e3 (small_line ?_) fun t4 H4 s4 e4 => ?_
    · rw [flat_zeros, List.length_map, List.length_map, List.length_replicate]; omega
    rw [pad_map] at e4
    have s4' := s3'.trans s4
    have e2' := upT e2 s4'
    have s5 := s2'.trans s4'
    -- the list
    refine ⟨.ref t2, rfl, .ref t4, rfl, t2, t4, _, _, rfl, .inr ⟨e2', e4, fun d hd => ?_⟩⟩
    have hl : ((Rw.pad (max ns.length ms.length) ns).map V.int).length = ((Rw.pad (max ns.length ms.length) ms).map V.int).length := by
      rw [List.length_map, List.length_map, Rw.pad_length (by omega), Rw.pad_length (by omega)]
    refine EaZ.lc_zipT hl (fun i H' => Same H4 H' ∧ H' d = some (.lst (((Rw.rowLess ns ms).take i).map V.int))) ⟨same_new hd, upd_same⟩ (fun i H' h => ⟨upT e2' h.1, upT e4 h.1⟩) ?_ ?_
    · rintro i x y Tp H' hx hy ⟨sm, ed⟩ hT
      obtain ⟨n, hn, rfl⟩ := get_mapI hx
      obtain ⟨m, hm, rfl⟩ := get_mapI hy
      have hr' : (Rw.rowLess ns ms)[i]? = some (n - m) := by
        unfold Rw.rowLess
        rw [List.getElem?_zipWith, hn, hm]
      have hil := lt_of_get hr'
      rw [Rw.rowLess_length] at hil
      have ndT : d ≠ Tp := ne_of_none ed hT
      refine ⟨Tp, _, rfl, .inl (.inl upd_same), rfl, _, _, rfl, _, _, rfl, rfl, rfl, ?_⟩
      refine ⟨_, rfl, _, rfl, _, _, rfl, rfl, _, (upd_ne ndT).trans ed, ?_, ?_, ?_⟩
      · rw [List.length_map, List.length_take]
        exact Nat.lt_of_le_of_lt (Nat.min_le_left _ _) (small1000 (by omega))
      · intro b o e
        rw [upd_ne (ne_of_none e hd), upd_ne (ne_of_none (sm _ _ e) hT)]
        exact sm _ _ e
      · rw [upd_same, take_get hr', List.map_append]
        rfl
    · rintro H' ⟨sm, ed⟩
      refine ⟨d, _, rfl, .inl ⟨.inl (.inl ed), fun l hl => ?_⟩⟩
      refine q _ l (s5.trans (sm.trans (same_new hl))) ?_
      have el : (((Rw.pad (max ns.length ms.length) ns).map V.int).length) = (Rw.rowLess ns ms).length := by
        rw [List.length_map, Rw.pad_length (by omega), Rw.rowLess_length]
      rw [upd_same, el, List.take_length]
end
end Ea
set_option maxRecDepth 100000
set_option maxHeartbeats 4000000
namespace Ea
open PySem PySem.Spec PyProof.Rows L2
section
variable {P : Program} {w : World} {K : PySem.W.Frag} {mg : Str → Option Value} {base : Heap}
theorem getI {l : List Int} {k : Nat} (h : k < l.length) : (l.map V.int)[k]? = some (.int (l.getD k 0)) := by
  rw [List.getElem?_map, List.getD_eq_getElem?_getD, List.getElem?_eq_getElem h]; rfl
theorem atI_int {l : List Int} {z : Int} {k : Nat} (e : z = (k : Int)) (h : k < l.length) : atI (l.map V.int) z = some (.int (l.getD k 0)) := at_of e (getI h)
theorem ixN_nat {n k : Nat} {z : Int} (e : z = (k : Int)) (h : k < n) : ixN n z = some k := by
  subst e
  unfold ixN
  rw [if_pos (by omega), if_pos (by omega)]; simp
theorem inner_getD {old : List Int} {j k : Nat} (h : k < old.length) (hj : k ≤ old.length - 1 - j) : (Rw.inner old j).getD k 0 = old.getD k 0 := by
  rw [List.getD_eq_getElem?_getD, Rw.inner_get h, if_neg (by omega)]; rfl
abbrev s_shifted : Stmt := topS 8
abbrev N_shifted : List Str := ["row", "found", "number", "at"]
theorem S_shifted : FnScope N_shifted ["row"] (defScope s_shifted) := ⟨rfl, rfl, rfl, by decide +kernel, rfl, by decide +kernel, by decide +kernel⟩
def spShifted (K : PySem.W.Frag) : Sp := fun vs H Q _ => ∃ (a : Addr) (ns : List Int), vs = [.ref a] ∧ SqT K H a (ns.map V.int) ∧ ns.length ≤ 900 ∧ ∀ H' p, Same H H' → H' p = some (.tup ((Rw.sh ns).map V.int)) → Q (.ref p) H'
theorem ok_shifted {f : Addr} {fd : FuncData} (D : DefAt K mg "shifted" s_shifted ["row"] f fd) (T : Txt mg) : FnOk P w K mg base CX0 1 f fd ["row"] (spShifted K) := by
  refine D.F.ok S_shifted (fun vs H Q E h => ?_) (fun cdv A outer s H vs Q E hr h => ?_)
  · obtain ⟨a, ns, rfl, _⟩ := h
    rfl
  · obtain ⟨a, ns, rfl, hT, hl, q⟩ := h
    refine ⟨_, (pss_cons (ps_set (i := 1) S_shifted.nd rfl (.inl rfl) (pe_op op_rep (pe_lst (pa_cons pe_int pa_nil)) (pe_callB call_len_seq (by rfl) T.n_len (by decide +kernel) (pa_cons (pv 0) pa_nil))))
      (pss_cons (ps_for PassesOwn.never rfl (pi_tup (EaR.pe_backT (pv 0))) (pg_name (i := 2) S_shifted.nd rfl (.inl rfl))
        (pss_cons (ps_for PassesOwn.never rfl (pi_range3 (by rfl) T.n_range (pa_cons (pe_op op_sub (pe_callB call_len_seq (by rfl) T.n_len (by decide +kernel) (pa_cons (pv 0) pa_nil)) pe_int) (pa_cons pe_int (pa_cons (pe_un un_neg pe_int) pa_nil)))) (pg_name (i := 3) S_shifted.nd rfl (.inl rfl))
            (pss_one (ps_asg (pe_op op_add (pe_ix ix_list (pv 1) (pv 3) (fun _ _ => rfl)) (pe_ix ix_list (pv 1) (pe_op op_sub (pv 3) pe_int) (fun _ _ => rfl))) (pg_sub (pv 1) (pv 3) set_list))))
          (pss_one (ps_asg (pe_op op_add (pe_ix ix_list (pv 1) pe_int (fun _ _ => rfl)) (pv 2)) (pg_sub (pv 1) pe_int set_list)))))
      (pss_one (ps_ret (pe_callTy call_tuple_of (by rfl) T.n_tuple (by decide +kernel) (pa_cons (pv 1) pa_nil)))))), ?_⟩
    refine ⟨by show 1 ≤ sizeLine; decide, fun z hz => ⟨_, rfl, a, _, rfl, .inr (upT hT (same_new hz)), z, _, _, rfl, rfl, upd_same, by omega, by rw [List.length_map]; omega, ?_, fun l hl0 => ?_⟩⟩
    · rw [List.length_map]
      exact small_line (by show 1 * _ ≤ 2000; omega)
    have e0 : (List.replicate (((ns.map V.int).length : Nat) : Int).toNat [V.int 0]).flatten = (Rw.sh [] ++ List.replicate ns.length 0).map V.int := by
      rw [flat_zeros, List.length_map]; simp [Rw.sh]
    rw [e0]
    have hHl : H l = none := by
      have e := hl0
      rw [upd_ne] at e
      · exact e
      · intro z'; rw [z', upd_same] at e; cases e
    generalize hH1 : upd (upd H z (.lst [V.int 0])) l (.lst ((Rw.sh [] ++ List.replicate ns.length 0).map V.int)) = H1
    have s1 : Same H H1 := by rw [← hH1]; exact (same_new hz).trans (same_new hl0)
    have e1 : H1 l = some (.lst ((Rw.sh [] ++ List.replicate ns.length 0).map V.int)) := by rw [← hH1]; exact upd_same
    refine ⟨.ref a, rfl, a, _, rfl, upT hT s1, fun p hp => ⟨p, rfl, ⟨_, .inl (.inl upd_same)⟩, ?_⟩⟩
    rw [← List.map_reverse]
    have npl : p ≠ l := (ne_of_none e1 hp).symm
    refine for_tup (xs := ns.reverse.map V.int) (fun i σ H' => ∃ v1 v2, σ = [some (.ref a), some (.ref l), v1, v2] ∧ Same H H' ∧ H' p = some (.tup (ns.reverse.map V.int)) ∧ H' l = some (.lst ((Rw.sh (ns.drop (ns.length - i)) ++ List.replicate (ns.length - i) 0).map V.int)))
      ⟨none, none, rfl, s1.trans (same_new hp), upd_same, ?_⟩ (fun i σ H' _ h => by obtain ⟨_, _, _, _, h, _⟩ := h; exact .inl (.inl h)) ?_ ?_
    · rw [upd_ne npl.symm, e1]; simp
    · rintro i y σ H' hy ⟨v1, v2, rfl, sm, ep, el⟩
      obtain ⟨n, hn, rfl⟩ := get_mapI hy
      have hi : i < ns.length := by have := lt_of_get hn; rwa [List.length_reverse] at this
      generalize hold : Rw.sh (ns.drop (ns.length - i)) ++ List.replicate (ns.length - i) (0 : Int) = old at el
      have hol : old.length = ns.length := by
        rw [← hold, List.length_append, Rw.sh_length, List.length_drop, List.length_replicate]; omega
      have hone : old ≠ [] := fun e => by rw [e] at hol; simp at hol; omega
      have hnew : Rw.bump old n = Rw.sh (ns.drop (ns.length - (i + 1))) ++ List.replicate (ns.length - (i + 1)) 0 := by
        have hd : ns.drop (ns.length - (i + 1)) = n :: ns.drop (ns.length - i) := by
          have h1 : ns.length - (i + 1) < ns.length := by omega
          rw [List.drop_eq_getElem_cons h1, show ns.length - (i + 1) + 1 = ns.length - i by omega]
          have h2 := (List.getElem?_eq_some_iff.mp hn).2
          rw [List.getElem_reverse] at h2
          rw [← h2]
          simp only [show ns.length - 1 - i = ns.length - (i + 1) by omega]
        rw [hd, ← hold]
        generalize ns.drop (ns.length - i) = u
        rw [show ns.length - i = (ns.length - (i + 1)) + 1 by omega, Rw.bump_sh]
      -- the inner loop
      refine ⟨.ref a, rfl, a, _, rfl, .inr (upT hT sm), _, _, rfl, rfl, 1, rfl, _, _, _, _, rfl, RgC.neg (by rw [List.length_map]; omega) (by rw [List.length_map]; omega) (by omega) (by omega), ?_⟩
      rw [List.length_map]
      have ec : (((ns.length : Nat) : Int) - 1 - 0).toNat = ns.length - 1 := by omega
      rw [ec]
      refine for_rangeC (lo := ((ns.length : Nat) : Int) - 1) (c := -1) (n := ns.length - 1) (fun j σ H2 => ∃ v, σ = [some (.ref a), some (.ref l), some (.int n), v] ∧ Same H H2 ∧ H2 p = some (.tup (ns.reverse.map V.int)) ∧ H2 l = some (.lst ((Rw.inner old j).map V.int)))
        ⟨v2, rfl, sm, ep, by rw [Rw.inner_zero]; exact el⟩ ?_ ?_
      · rintro j σ H2 hj ⟨v, rfl, sm2, ep2, el2⟩
        have hz1 : (((ns.length : Nat) : Int) - 1 + (j : Nat) * (-1)) = ((ns.length - 1 - j : Nat) : Int) := by omega
        have hz2 : (((ns.length : Nat) : Int) - 1 + (j : Nat) * (-1) - 1) = ((ns.length - 1 - j - 1 : Nat) : Int) := by omega
        have hlen : (Rw.inner old j).length = ns.length := by rw [Rw.inner_length, hol]
        refine ⟨.ref l, rfl, _, rfl, l, _, _, _, rfl, rfl, SqL.of el2, atI_int hz1 (by omega), .ref l, rfl, _, rfl, _, _, rfl, rfl, l, _, _, _, rfl, rfl, SqL.of el2, atI_int hz2 (by omega), _, _, rfl, rfl, ?_⟩
        refine ⟨.ref l, rfl, _, rfl, l, _, _, _, rfl, rfl, el2, ixN_nat hz1 (by rw [List.length_map]; omega), ?_⟩
        refine ⟨_, rfl, fun b o e => ?_, ?_, ?_⟩
        · rw [upd_ne (ne_of_none e hHl)]
          exact sm2 _ _ e
        · rw [upd_ne npl]; exact ep2
        · rw [upd_same, inner_getD (by omega) (by omega), inner_getD (by omega) (by omega), ← List.map_set]
          have := Rw.inner_next (old := old) (j := j) (by omega)
          rw [hol] at this
          rw [this]
      · rintro σ H2 ⟨v, rfl, sm2, ep2, el2⟩
        have hlen : (Rw.inner old (ns.length - 1)).length = ns.length := by rw [Rw.inner_length, hol]
        refine ⟨.ref l, rfl, l, _, _, _, rfl, rfl, SqL.of el2, atI_int (k := 0) rfl (by omega), _, rfl, _, _, rfl, rfl, ?_⟩
        refine ⟨.ref l, rfl, l, _, _, _, rfl, rfl, el2, ixN_nat (k := 0) rfl (by rw [List.length_map]; omega), ?_⟩
        refine ⟨_, _, rfl, fun b o e => ?_, ?_, ?_⟩
        · rw [upd_ne (ne_of_none e hHl)]
          exact sm2 _ _ e
        · rw [upd_ne npl]; exact ep2
        · rw [upd_same, inner_getD (by omega) (by omega), ← List.map_set, ← hnew, ← hol, Rw.inner_last hone]
    · rintro σ H' ⟨v1, v2, rfl, sm, ep, el⟩
      refine ⟨.ref l, rfl, l, _, rfl, .inl ⟨SqL.of el, fun m hm => ?_⟩⟩
      refine q _ m (sm.trans (same_new hm)) ?_
      rw [upd_same, List.length_map, List.length_reverse, Nat.sub_self]
      simp
end
end Ea
set_option maxRecDepth 100000
set_option maxHeartbeats 4000000
namespace Ea
open PySem PySem.Spec PyProof.Rows L2
section
variable {P : Program} {w : World} {K : PySem.W.Frag} {mg : Str → Option Value} {base : Heap}
theorem cut_last (xs : List V) : cutV xs none (some (-1)) = xs.dropLast := by
  unfold cutV
  have e1 : HT.sIx xs.length 0 none = 0 := rfl
  have e2 : HT.sIx xs.length xs.length (some (-1)) = xs.length - 1 := by
    show (if (-1 : Int) < 0 then ((-1 : Int) + (xs.length : Int)).toNat else min (-1 : Int).toNat xs.length) = xs.length - 1
    rw [if_pos (by decide)]; omega
  rw [e1, e2, List.drop_zero, Nat.sub_zero, List.dropLast_eq_take]
abbrev s_growth_row : Stmt := topS 9
abbrev N_growth_row : List Str := ["row"]
theorem S_growth_row : FnScope N_growth_row ["row"] (defScope s_growth_row) := ⟨rfl, rfl, rfl, by decide +kernel, rfl, by decide +kernel, by decide +kernel⟩
def spGrowth (K : PySem.W.Frag) : Sp := fun vs H Q _ => ∃ (a : Addr) (ns : List Int), vs = [.ref a] ∧ SqT K H a (ns.map V.int) ∧ ns.length ≤ 900 ∧ ∀ H' p, Same H H' → SqT K H' p ((Rw.growth ns).map V.int) → Q (.ref p) H'
theorem ok_growth_row {f f1 f2 : Addr} {fd fd1 fd2 : FuncData} (D : DefAt K mg "growth_row" s_growth_row ["row"] f fd) (D_row_less : DefAt K mg "row_less" s_row_less ["one", "other"] f1 fd1) (D_shifted : DefAt K mg "shifted" s_shifted ["row"] f2 fd2)
    (T : Txt mg) : FnOk P w K mg base CX0 2 f fd ["row"] (spGrowth K) := by
  have G_row_less : FnOk P w K mg base CX0 1 f1 fd1 ["one", "other"] (spRowLess K) := ok_row_less D_row_less T
  have G_shifted : FnOk P w K mg base CX0 1 f2 fd2 ["row"] (spShifted K) := ok_shifted D_shifted T
  refine D.F.ok S_growth_row (fun vs H Q E h => ?_) (fun cdv A outer s H vs Q E hr h => ?_)
  · obtain ⟨a, ns, rfl, _⟩ := h
    rfl
  · obtain ⟨a, ns, rfl, hT, hl, q⟩ := h
    refine ⟨_, (pss_one (ps_ret (pe_slice sl_tupA (pe_call G_row_less (hr.mono (by decide)) (by rfl) D_row_less.g D_row_less.F.kp D_row_less.b .nil pass0 (pa_cons (pe_call G_shifted (hr.mono (by decide)) (by rfl) D_shifted.g D_shifted.F.kp D_shifted.b .nil pass0 (pa_cons (pv 0) pa_nil)) (pa_cons (pv 0) pa_nil))) po_none (po_some (pe_un un_neg pe_int))))), ?_⟩
    refine ⟨.ref a, rfl, a, ns, rfl, hT, hl, fun H1 p s1 e1 => ⟨.ref a, rfl, p, a, _, _, rfl, .inl (.inl e1), upT hT s1, by rw [Rw.sh_length]; exact hl, hl, fun H2 t s2 e2 => ?_⟩⟩
    refine ⟨1, rfl, -1, rfl, sl_any (.inl (.inl e2)) fun u H3 s3 e3 => q H3 u ((s1.trans s2).trans s3) ?_⟩
    rw [cut_last] at e3
    unfold Rw.growth
    rw [List.map_dropLast]
    exact e3
abbrev s_first_other : Stmt := topS 10
abbrev N_first_other : List Str := ["row", "low", "high", "begun", "middle"]
theorem S_first_other : FnScope N_first_other ["row", "low", "high"] (defScope s_first_other) := ⟨rfl, rfl, rfl, by decide +kernel, rfl, by decide +kernel, by decide +kernel⟩
/-- what first_other hands back: None where both ends have one sign, else a place at which the sign of the lower end is left -/
def FirstIs (ns : List Int) (lo hi : Int) (v : V) : Prop := (v = .non ∧ Rw.sgn (Rw.worth ns hi) = Rw.sgn (Rw.worth ns lo)) ∨
  ∃ x, v = .int x ∧ lo < x ∧ x ≤ hi ∧ Rw.sgn (Rw.worth ns x) ≠ Rw.sgn (Rw.worth ns lo) ∧ Rw.sgn (Rw.worth ns (x - 1)) = Rw.sgn (Rw.worth ns lo)
def spFirst (K : PySem.W.Frag) : Sp := fun vs H Q _ => ∃ (a : Addr) (ns : List Int) (lo hi : Int), vs = [.ref a, .int lo, .int hi] ∧ SqT K H a (ns.map V.int) ∧ 0 ≤ lo ∧ lo ≤ hi ∧ hi < 2 ^ 62 ∧ ∀ H' v, Same H H' → FirstIs ns lo hi v → Q v H'
theorem ok_first_other {f f1 f2 : Addr} {fd fd1 fd2 : FuncData} (D : DefAt K mg "first_other" s_first_other ["row", "low", "high"] f fd) (D_worth : DefAt K mg "worth" s_worth ["row", "size"] f1 fd1) (D_sign_of : DefAt K mg "sign_of" s_sign_of ["number"] f2 fd2)
    (T : Txt mg) : FnOk P w K mg base CX0 2 f fd ["row", "low", "high"] (spFirst K) := by
  have G_worth : FnOk P w K mg base CX0 1 f1 fd1 ["row", "size"] (spWorth K) := ok_worth D_worth T
  have G_sign_of : FnOk P w K mg base CX0 1 f2 fd2 ["number"] spSign := ok_sign_of D_sign_of
  refine D.F.ok S_first_other (fun vs H Q E h => ?_) (fun cdv A outer s H vs Q E hr h => ?_)
  · obtain ⟨a, ns, lo, hi, rfl, _⟩ := h
    rfl
  · obtain ⟨a, ns, lo, hi, rfl, hT, b0, b1, b2, q⟩ := h
    refine ⟨_, (pss_cons (ps_set (i := 3) S_first_other.nd rfl (.inl rfl) (pe_call G_sign_of (hr.mono (by decide)) (by rfl) D_sign_of.g D_sign_of.F.kp D_sign_of.b .nil pass0 (pa_cons (pe_call G_worth (hr.mono (by decide)) (by rfl) D_worth.g D_worth.F.kp D_worth.b .nil pass0 (pa_cons (pv 0) (pa_cons (pv 1) pa_nil))) pa_nil)))
      (pss_cons (ps_if (pt_cmpR op_eq (pe_call G_sign_of (hr.mono (by decide)) (by rfl) D_sign_of.g D_sign_of.F.kp D_sign_of.b .nil pass0 (pa_cons (pe_call G_worth (hr.mono (by decide)) (by rfl) D_worth.g D_worth.F.kp D_worth.b .nil pass0 (pa_cons (pv 0) (pa_cons (pv 2) pa_nil))) pa_nil)) (pv 3) (nomark _))
        (pss_one (ps_ret pe_non))
        pss_nil)
      (pss_cons (ps_while PassesOwn.never (pt_cmpR op_gt (pe_op op_sub (pv 2) (pv 1)) pe_int (nomark _))
        (pss_cons (ps_set (i := 4) S_first_other.nd rfl (.inl rfl) (pe_op op_fdiv (pe_op op_add (pv 1) (pv 2)) pe_int))
          (pss_one (ps_if (pt_cmpR op_eq (pe_call G_sign_of (hr.mono (by decide)) (by rfl) D_sign_of.g D_sign_of.F.kp D_sign_of.b .nil pass0 (pa_cons (pe_call G_worth (hr.mono (by decide)) (by rfl) D_worth.g D_worth.F.kp D_worth.b .nil pass0 (pa_cons (pv 0) (pa_cons (pv 4) pa_nil))) pa_nil)) (pv 3) (nomark _))
          (pss_one (ps_set (i := 1) S_first_other.nd rfl (.inl rfl) (pv 4)))
          (pss_one (ps_set (i := 2) S_first_other.nd rfl (.inl rfl) (pv 4)))))))
      (pss_one (ps_ret (pv 2)))))), ?_⟩
    refine ⟨.ref a, rfl, .int lo, rfl, a, ns, lo, rfl, hT, by omega, by omega, fun H1 s1 => ⟨_, rfl, ?_⟩⟩
    refine ⟨.ref a, rfl, .int hi, rfl, a, ns, hi, rfl, upT hT s1, by omega, by omega, fun H2 s2 => ⟨_, rfl, _, rfl, rfl, _, rfl, ?_⟩⟩
    have s12 := s1.trans s2
    refine ite2 (fun e => ?_) (fun e => ?_)
    · exact q H2 _ s12 (.inl ⟨rfl, V.int.inj (of_decide_eq_true e)⟩)
    · have hne : Rw.sgn (Rw.worth ns hi) ≠ Rw.sgn (Rw.worth ns lo) := fun z => e (decide_eq_true (by rw [z]))
      refine ⟨fun m σ H' => ∃ (l h : Int) (v : Option V), σ = [some (.ref a), some (.int l), some (.int h), some (.int (Rw.sgn (Rw.worth ns lo))), v] ∧ Same H H' ∧ lo ≤ l ∧ l < h ∧ h ≤ hi ∧ m = (h - l).toNat ∧ Rw.sgn (Rw.worth ns l) = Rw.sgn (Rw.worth ns lo) ∧ Rw.sgn (Rw.worth ns h) ≠ Rw.sgn (Rw.worth ns lo),
        ⟨_, lo, hi, none, rfl, s12, Int.le_refl _, ?_, Int.le_refl _, rfl, rfl, hne⟩, ?_⟩
      · rcases Int.lt_or_eq_of_le b1 with z | z
        · exact z
        · rw [z] at hne; exact absurd rfl hne
      · rintro m σ H' ⟨l, h, v, rfl, sm, c1, c2, c3, rfl, c4, c5⟩
        refine ⟨_, rfl, _, rfl, _, _, rfl, rfl, _, _, rfl, rfl, _, rfl, ?_⟩
        refine ite2 (fun e => ?_) (fun e => ?_)
        · have hgt : 1 < h - l := of_decide_eq_true e
          refine ⟨fun σ' H'' => ∃ (l' h' : Int) (v : Option V), σ' = [some (.ref a), some (.int l'), some (.int h'), some (.int (Rw.sgn (Rw.worth ns lo))), v] ∧ Same H H'' ∧ lo ≤ l' ∧ l' < h' ∧ h' ≤ hi ∧ h' - l' < h - l ∧ Rw.sgn (Rw.worth ns l') = Rw.sgn (Rw.worth ns lo) ∧ Rw.sgn (Rw.worth ns h') ≠ Rw.sgn (Rw.worth ns lo),
            fun σ' H'' ⟨l', h', v', e1, e2, e3, e4, e5, e6, e7, e8⟩ => ⟨(h' - l').toNat, by omega, l', h', v', e1, e2, e3, e4, e5, rfl, e7, e8⟩, ?_⟩
          refine ⟨_, rfl, _, rfl, _, _, rfl, rfl, _, _, rfl, rfl, ⟨by decide, by decide⟩, ?_⟩
          have m1 : l < (l + h) / 2 := by omega
          have m2 : (l + h) / 2 < h := by omega
          refine ⟨.ref a, rfl, _, rfl, a, ns, _, rfl, upT hT sm, by omega, by omega, fun H3 s3 => ⟨_, rfl, _, rfl, rfl, _, rfl, ?_⟩⟩
          refine ite2 (fun e => ?_) (fun e => ?_)
          · have e' := V.int.inj (of_decide_eq_true e)
            exact ⟨_, rfl, (l + h) / 2, h, _, rfl, sm.trans s3, by omega, m2, c3, by omega, e', c5⟩
          · have e' : Rw.sgn (Rw.worth ns ((l + h) / 2)) ≠ Rw.sgn (Rw.worth ns lo) := fun z => e (decide_eq_true (by rw [z]))
            exact ⟨_, rfl, l, (l + h) / 2, _, rfl, sm.trans s3, c1, m1, by omega, by omega, c4, e'⟩
        · have hle : ¬ 1 < h - l := fun z => e (decide_eq_true z)
          have e1 : h - 1 = l := by omega
          exact ⟨_, rfl, q H' _ sm (.inr ⟨h, rfl, by omega, c3, c5, by rw [e1]; exact c4⟩)⟩
end
end Ea
set_option maxRecDepth 100000
set_option maxHeartbeats 4000000
namespace Ea
open PySem PySem.Spec PyProof.Rows L2
section
variable {P : Program} {w : World} {K : PySem.W.Frag} {mg : Str → Option Value} {base : Heap}
abbrev s_turns_between : Stmt := topS 11
abbrev N_turns_between : List Str := ["row", "low", "high", "found", "at"]
theorem S_turns_between : FnScope N_turns_between ["row", "low", "high"] (defScope s_turns_between) := ⟨rfl, rfl, rfl, by decide +kernel, rfl, by decide +kernel, by decide +kernel⟩
def spBetween (K : PySem.W.Frag) : Sp := fun vs H Q _ => ∃ (a : Addr) (ns : List Int) (lo hi : Int), vs = [.ref a, .int lo, .int hi] ∧ SqT K H a (ns.map V.int) ∧ 0 ≤ lo ∧ lo ≤ hi ∧ hi < 2 ^ 62 ∧ Rw.Mono (Rw.worth ns) lo hi ∧
  ∀ H' p (l : List Int), Same H H' → H p = none → H' p = some (.lst (l.map V.int)) → l.length ≤ 2 → (∀ x, x ∈ l ↔ lo < x ∧ x ≤ hi ∧ Rw.Turn (Rw.worth ns) x) → Q (.ref p) H'
theorem ok_turns_between {f f1 f2 f3 : Addr} {fd fd1 fd2 fd3 : FuncData} (D : DefAt K mg "turns_between" s_turns_between ["row", "low", "high"] f fd) (D_first_other : DefAt K mg "first_other" s_first_other ["row", "low", "high"] f1 fd1)
    (D_worth : DefAt K mg "worth" s_worth ["row", "size"] f2 fd2) (D_sign_of : DefAt K mg "sign_of" s_sign_of ["number"] f3 fd3) (T : Txt mg) : FnOk P w K mg base CX0 3 f fd ["row", "low", "high"] (spBetween K) := by
  have G_first_other : FnOk P w K mg base CX0 2 f1 fd1 ["row", "low", "high"] (spFirst K) := ok_first_other D_first_other D_worth D_sign_of T
  refine D.F.ok S_turns_between (fun vs H Q E h => ?_) (fun cdv A outer s H vs Q E hr h => ?_)
  · obtain ⟨a, ns, lo, hi, rfl, _⟩ := h
    rfl
  · obtain ⟨a, ns, lo, hi, rfl, hT, b0, b1, b2, mono, q⟩ := h
    refine ⟨_, (pss_cons (ps_par (i := 3) (j := 4) rfl S_turns_between.nd rfl rfl (by decide) rfl rfl (pa_cons (pe_lst pa_nil) (pa_cons (pe_call G_first_other (hr.mono (by decide)) (by rfl) D_first_other.g D_first_other.F.kp D_first_other.b .nil pass0 (pa_cons (pv 0) (pa_cons (pv 1) (pa_cons (pv 2) pa_nil)))) pa_nil)) (by rfl))
      (pss_cons (ps_while PassesOwn.never (pt_cmp (pc_notN (pv 4)) rfl)
        (pss_cons (ps_expr (pe_bm PySem.F.plainAttrs_list PySem.F.slot_list_append PySem.F.type_list_append mt_append (pv 3) (pa_cons (pv 4) pa_nil)))
          (pss_one (ps_set (i := 4) S_turns_between.nd rfl (.inl rfl) (pe_call G_first_other (hr.mono (by decide)) (by rfl) D_first_other.g D_first_other.F.kp D_first_other.b .nil pass0 (pa_cons (pv 0) (pa_cons (pv 4) (pa_cons (pv 2) pa_nil))))))))
      (pss_one (ps_ret (pv 3))))), ?_⟩
    refine ⟨Nat.zero_le _, fun p hp => ?_⟩
    refine ⟨.ref a, rfl, .int lo, rfl, .int hi, rfl, a, ns, lo, hi, rfl, upT hT (same_new hp), b0, b1, b2, fun H1 v0 s1 hv0 => ⟨_, _, rfl, ?_⟩⟩
    have ep : H1 p = some (.lst (([] : List Int).map V.int)) := s1 _ _ upd_same
    have s1' := (same_new hp).trans s1
    -- ahead of a turn: the turns up to c are found, the next one (or none) is at hand
    refine ⟨fun m σ H' => ∃ (c : Int) (l : List Int) (v : V), σ = [some (.ref a), some (.int lo), some (.int hi), some (.ref p), some v] ∧ m = (hi - c).toNat ∧ Same H H' ∧ H' p = some (.lst (l.map V.int)) ∧ lo ≤ c ∧ c ≤ hi ∧
        l.length ≤ (Rw.sgn (Rw.worth ns c) - Rw.sgn (Rw.worth ns lo)).natAbs ∧ (∀ x, x ∈ l ↔ lo < x ∧ x ≤ c ∧ Rw.Turn (Rw.worth ns) x) ∧ FirstIs ns c hi v,
      ⟨_, lo, [], v0, rfl, rfl, s1', ep, Int.le_refl _, b1, Nat.zero_le _, fun x => ⟨fun z => by simp at z, fun z => by omega⟩, hv0⟩, ?_⟩
    rintro m σ H' ⟨c, l, v, rfl, rfl, sm, el, c1, c2, c3, c4, c5⟩
    have l2 : l.length ≤ 2 := Nat.le_trans c3 (Rw.sgn_two _ _)
    refine ⟨_, rfl, _, rfl, ?_⟩
    rcases c5 with ⟨rfl, e⟩ | ⟨x, rfl, x1, x2, x3, x4⟩
    · exact ⟨_, rfl, q H' p l sm hp el l2 (Rw.turns_done mono c1 c2 e c4)⟩
    · refine ⟨fun σ' H'' => ∃ (l' : List Int) (v : V), σ' = [some (.ref a), some (.int lo), some (.int hi), some (.ref p), some v] ∧ Same H H'' ∧ H'' p = some (.lst (l'.map V.int)) ∧
          l'.length ≤ (Rw.sgn (Rw.worth ns x) - Rw.sgn (Rw.worth ns lo)).natAbs ∧ (∀ y, y ∈ l' ↔ lo < y ∧ y ≤ x ∧ Rw.Turn (Rw.worth ns) y) ∧ FirstIs ns x hi v,
        fun σ' H'' ⟨l', v, e1, e2, e3, e4, e5, e6⟩ => ⟨(hi - x).toNat, by omega, x, l', v, e1, rfl, e2, e3, by omega, x2, e4, e5, e6⟩, ?_⟩
      refine ⟨_, rfl, .inl ⟨rfl, _, SqL.of el⟩, _, rfl, p, _, _, rfl, rfl, el, by rw [List.length_map]; exact small1000 (by omega), ?_⟩
      have s2 : Same H (upd H' p (.lst (l.map V.int ++ [V.int x]))) := fun b o e => by
        rw [upd_ne (ne_of_none e hp)]
        exact sm _ _ e
      refine ⟨.ref a, rfl, .int x, rfl, .int hi, rfl, a, ns, x, hi, rfl, upT hT s2, by omega, x2, b2, fun H2 v2 s3 hv2 => ?_⟩
      refine ⟨l ++ [x], v2, rfl, s2.trans s3, ?_, ?_, Rw.turns_next mono c1 x1 x2 x3 x4 c4, hv2⟩
      · rw [List.map_append]
        exact s3 _ _ upd_same
      · rw [List.length_append, List.length_singleton]
        exact Nat.le_trans (Nat.add_le_add_right c3 1) (Rw.mono_step mono c1 x1 x2 x3)
end
end Ea
set_option maxRecDepth 100000
set_option maxHeartbeats 4000000
namespace Ea
open PySem PySem.Spec PyProof.Rows L2
section
variable {P : Program} {w : World} {K : PySem.W.Frag} {mg : Str → Option Value} {base : Heap}
abbrev s_turns_of : Stmt := topS 12
abbrev N_turns_of : List Str := ["row", "most", "rows", "turns", "late", "bounds", "found", "low", "high", "turn"]
theorem S_turns_of : FnScope N_turns_of ["row", "most"] (defScope s_turns_of) := ⟨rfl, rfl, rfl, by decide +kernel, rfl, by decide +kernel, by decide +kernel⟩
def spTurns (K : PySem.W.Frag) : Sp := fun vs H Q _ => ∃ (a : Addr) (ns : List Int) (most : Int), vs = [.ref a, .int most] ∧ SqT K H a (ns.map V.int) ∧ 0 < ns.length ∧ ns.length ≤ 8 ∧ 0 < most ∧ most < 2 ^ 61 ∧
  ∀ H' p (l : List Int), Same H H' → H p = none → H' p = some (.lst (l.map V.int)) → l.length ≤ 2 ^ ns.length - 2 → (∀ x, x ∈ l ↔ 0 < x ∧ x ≤ most ∧ Rw.Turn (Rw.worth ns) x) → Q (.ref p) H'
theorem pow_le8 {n : Nat} (h : n ≤ 8) : 2 ^ n ≤ 256 := Nat.pow_le_pow_right (by decide) h
theorem cut_tail (xs : List V) : cutV xs (some 1) none = xs.drop 1 := by
  unfold cutV
  rw [show HT.sIx xs.length 0 (some 1) = min 1 xs.length from HT.sIx_nat xs.length 0 1, HT.sIx_none]
  cases xs with
  | nil => rfl
  | cons x r =>
    rw [show min 1 (x :: r).length = 1 by rw [List.length_cons]; omega]
    show (List.take ((x :: r).length - 1) r) = r
    rw [List.length_cons, Nat.add_sub_cancel]
    exact List.take_length
theorem ok_turns_of {f f1 f2 f3 f4 f5 f6 f7 : Addr} {fd fd1 fd2 fd3 fd4 fd5 fd6 fd7 : FuncData} (D : DefAt K mg "turns_of" s_turns_of ["row", "most"] f fd) (D_turns_between : DefAt K mg "turns_between" s_turns_between ["row", "low", "high"] f1 fd1)
    (D_first_other : DefAt K mg "first_other" s_first_other ["row", "low", "high"] f2 fd2) (D_worth : DefAt K mg "worth" s_worth ["row", "size"] f3 fd3) (D_sign_of : DefAt K mg "sign_of" s_sign_of ["number"] f4 fd4)
    (D_growth_row : DefAt K mg "growth_row" s_growth_row ["row"] f5 fd5) (D_row_less : DefAt K mg "row_less" s_row_less ["one", "other"] f6 fd6) (D_shifted : DefAt K mg "shifted" s_shifted ["row"] f7 fd7) (T : Txt mg) : FnOk P w K mg base CX0 4 f fd ["row", "most"] (spTurns K) := by
  have G_turns_between : FnOk P w K mg base CX0 3 f1 fd1 ["row", "low", "high"] (spBetween K) := ok_turns_between D_turns_between D_first_other D_worth D_sign_of T
  have G_growth_row : FnOk P w K mg base CX0 2 f5 fd5 ["row"] (spGrowth K) := ok_growth_row D_growth_row D_row_less D_shifted T
  refine D.F.ok S_turns_of (fun vs H Q E h => ?_) (fun cdv A outer s H vs Q E hr h => ?_)
  · obtain ⟨a, ns, most, rfl, _⟩ := h
    rfl
  · obtain ⟨a, ns, most, rfl, hT, n0, n8, m0, m1, q⟩ := h
    refine ⟨_, (pss_cons (ps_set (i := 2) S_turns_of.nd rfl (.inl rfl) (pe_lst (pa_cons (pv 0) pa_nil)))
      (pss_cons (ps_while PassesOwn.never (pt_cmpR op_gt (pe_callB call_len_seq (by rfl) T.n_len (by decide +kernel) (pa_cons (pe_ix ix_list (pv 2) (pe_un un_neg pe_int) (fun _ _ => rfl)) pa_nil)) pe_int (nomark _))
        (pss_one (ps_expr (pe_bm PySem.F.plainAttrs_list PySem.F.slot_list_append PySem.F.type_list_append mt_append (pv 2) (pa_cons (pe_call G_growth_row (hr.mono (by decide)) (by rfl) D_growth_row.g D_growth_row.F.kp D_growth_row.b .nil pass0 (pa_cons (pe_ix ix_list (pv 2) (pe_un un_neg pe_int) (fun _ _ => rfl)) pa_nil)) pa_nil)))))
      (pss_cons (ps_set (i := 3) S_turns_of.nd rfl (.inl rfl) (pe_lst pa_nil))
      (pss_cons (ps_for PassesOwn.never rfl (pi_list (pe_revL (pv 2))) (pg_name (i := 4) S_turns_of.nd rfl (.inl rfl))
        (pss_cons (ps_set (i := 5) S_turns_of.nd rfl (.inl rfl) (pe_op op_cat (pe_op op_cat (pe_lst (pa_cons pe_int pa_nil)) (pe_lc (own := [("turn", 9)]) rfl S_turns_of.nd (pi_list (pv 3)) (blkOk_by (own := [("turn", 9)]) (N := N_turns_of) (sc := defScope s_turns_of) (by decide +kernel)) (fun _ _ _ _ _ => (pg_name (i := 9) S_turns_of.nd rfl (.inl rfl))) (fun _ _ _ _ _ => (pts_one (pt_cmpR op_lt (pv 9) (pv 1) (nomark _)))) (fun _ _ _ _ _ => (pv 9)))) (pe_lst (pa_cons (pv 1) pa_nil))))
          (pss_cons (ps_set (i := 6) S_turns_of.nd rfl (.inl rfl) (pe_lst pa_nil))
          (pss_cons (ps_for PassesOwn.never rfl (RZ.pi_zipA (by rfl) T.n_zip (pa_cons (pv 5) (pa_cons (pe_slice sl_list (pv 5) (po_some pe_int) po_none) pa_nil))) (pg_tup rfl (pgs_cons (pg_name (i := 7) S_turns_of.nd rfl (.inl rfl)) (pgs_cons (pg_name (i := 8) S_turns_of.nd rfl (.inl rfl)) pgs_nil)))
            (pss_one (ps_expr (pe_bm PySem.F.plainAttrs_list PySem.F.slot_list_extend PySem.F.type_list_extend mt_extend (pv 6) (pa_cons (pe_call G_turns_between (hr.mono (by decide)) (by rfl) D_turns_between.g D_turns_between.F.kp D_turns_between.b .nil pass0 (pa_cons (pv 4) (pa_cons (pv 7) (pa_cons (pv 8) pa_nil)))) pa_nil)))))
          (pss_one (ps_set (i := 3) S_turns_of.nd rfl (.inl rfl) (pe_callB (EaR.cr_sortedSetA rfl) (by rfl) T.n_sorted (by decide +kernel) (pa_cons (pe_callTy (EaR.cr_setOfL rfl) (by rfl) T.n_set (by decide +kernel) (pa_cons (pv 6) pa_nil)) pa_nil))))))))
      (pss_one (ps_ret (pv 3))))))), ?_⟩
    -- rows
    refine ⟨.ref a, rfl, by show 1 ≤ sizeLine; decide, fun pr hpr => ?_⟩
    refine ⟨fun m σ H' => ∃ as : List Addr, σ = [some (.ref a), some (.int most), some (.ref pr), none, none, none, none, none, none, none] ∧ Same H H' ∧ H' pr = some (.lst (as.map V.ref)) ∧ 0 < as.length ∧ as.length ≤ ns.length ∧ m = ns.length - as.length ∧
        ∀ i t, as[i]? = some t → SqT K H' t ((Rw.grow i ns).map V.int), ⟨_, [a], rfl, same_new hpr, upd_same, Nat.zero_lt_succ _, n0, rfl, ?_⟩, ?_⟩
    · intro i t ht
      match i, ht with
      | 0, ht =>
        have e : a = t := Option.some.inj ht
        rw [← e]; exact upT hT (same_new hpr)
      | i + 1, ht => simp at ht
    rintro m σ H1 ⟨as, rfl, sm1, er, l0, l1, rfl, hrow⟩
    obtain ⟨t0, ht0⟩ : ∃ t, as[as.length - 1]? = some t := ⟨as[as.length - 1], List.getElem?_eq_getElem (by omega)⟩
    have hlast := hrow _ _ ht0
    have hat : atI (as.map V.ref) (-1) = some (.ref t0) := by
      unfold atI ixN
      rw [if_neg (by decide), if_pos (by rw [List.length_map]; omega)]
      show (as.map V.ref)[((-1 : Int) + ((as.map V.ref).length : Nat)).toNat]? = _
      rw [List.length_map, show ((-1 : Int) + ((as.length : Nat) : Int)).toNat = as.length - 1 by omega, List.getElem?_map, ht0]; rfl
    have hgl : ((Rw.grow (as.length - 1) ns).map V.int).length = ns.length - (as.length - 1) := by rw [List.length_map, Rw.grow_length]
    refine ⟨.ref pr, rfl, 1, rfl, pr, _, _, _, rfl, rfl, SqL.of er, hat, t0, _, rfl, .inr hlast, _, _, rfl, rfl, _, rfl, ?_⟩
    rw [hgl]
    refine ite2 (fun e => ?_) (fun e => ?_)
    · have hgt : (1 : Int) < ((ns.length - (as.length - 1) : Nat) : Int) := of_decide_eq_true e
      refine ⟨fun σ' H'' => ∃ as' : List Addr, σ' = [some (.ref a), some (.int most), some (.ref pr), none, none, none, none, none, none, none] ∧ Same H H'' ∧ H'' pr = some (.lst (as'.map V.ref)) ∧ as'.length = as.length + 1 ∧ ∀ i t, as'[i]? = some t → SqT K H'' t ((Rw.grow i ns).map V.int),
        fun σ' H'' ⟨as', e1, e2, e3, e4, e5⟩ => ⟨ns.length - as'.length, by omega, as', e1, e2, e3, by omega, by omega, rfl, e5⟩, ?_⟩
      refine ⟨_, rfl, .inl ⟨rfl, _, SqL.of er⟩, .ref pr, rfl, 1, rfl, pr, _, _, _, rfl, rfl, SqL.of er, hat, t0, _, rfl, hlast, by rw [Rw.grow_length]; omega, fun H2 u s2 e2 => ?_⟩
      refine ⟨pr, _, _, rfl, rfl, s2 _ _ er, by rw [List.length_map]; exact small1000 (by omega), ?_⟩
      have keepT : ∀ {x : Addr} {xs : List V}, SqT K H2 x xs → SqT K (upd H2 pr (.lst (as.map V.ref ++ [V.ref u]))) x xs := fun {x xs} h => by
        have nx : ∀ o, H2 x = some o → (∀ ys, o ≠ .lst ys) → x ≠ pr := fun o e1 e2 => ne_of e1 (s2 _ _ er) (e2 _)
        rcases h with (h | ⟨o, h⟩) | h
        · exact .inl (.inl ((upd_ne (nx _ h fun _ z => nomatch z)).trans h))
        · exact .inl (.inr ⟨o, (upd_ne (nx _ h fun _ z => nomatch z)).trans h⟩)
        · exact .inr h
      refine ⟨as ++ [u], rfl, fun b o e => ?_, ?_, by rw [List.length_append, List.length_singleton], ?_⟩
      · rw [upd_ne (ne_of_none e hpr)]
        exact s2 _ _ (sm1 _ _ e)
      · rw [upd_same, List.map_append]; rfl
      · intro i t ht
        by_cases hi : i < as.length
        · rw [List.getElem?_append_left hi] at ht
          exact keepT (upT (hrow i t ht) s2)
        · have hi' : i = as.length := by have := lt_of_get ht; rw [List.length_append, List.length_singleton] at this; omega
          rw [hi', List.getElem?_append_right (Nat.le_refl _), Nat.sub_self] at ht
          have e : u = t := Option.some.inj ht
          rw [← e, hi', show as.length = (as.length - 1) + 1 by omega]
          exact keepT e2
    · have hle : ¬ (1 : Int) < ((ns.length - (as.length - 1) : Nat) : Int) := fun z => e (decide_eq_true z)
      have hn : as.length = ns.length := by omega
      -- turns = [], the rows from the last one on
      refine ⟨Nat.zero_le _, fun pt hpt => ?_⟩
      have sPt := same_new (o := .lst []) hpt
      refine ⟨.ref pr, rfl, pr, _, rfl, SqL.of (sPt _ _ er), fun pv hpv => ⟨pv, rfl, ⟨_, SqL.of upd_same⟩, ?_⟩⟩
      generalize hH2 : upd (upd H1 pt (.lst [])) pv (.lst (as.map V.ref).reverse) = H2
      have sPv : Same (upd H1 pt (.lst [])) H2 := by rw [← hH2]; exact same_new hpv
      have s12 : Same H1 H2 := sPt.trans sPv
      have ev : H2 pv = some (.lst (as.map V.ref).reverse) := by rw [← hH2]; exact upd_same
      have et : H2 pt = some (.lst []) := sPv _ _ upd_same
      refine for_list (xs := (as.map V.ref).reverse) (fun i σ H' => ∃ (pt : Addr) (tl : List Int) (v4 v5 v6 v7 v8 v9 : Option V), σ = [some (.ref a), some (.int most), some (.ref pr), some (.ref pt), v4, v5, v6, v7, v8, v9] ∧ Same H2 H' ∧ H pt = none ∧ H' pt = some (.lst (tl.map V.int)) ∧
          tl.Pairwise (· < ·) ∧ (∀ x ∈ tl, 0 < x) ∧ tl.length ≤ 2 ^ i - 2 ∧ (i = 0 ∨ ∀ x, x ∈ tl ↔ 0 < x ∧ x ≤ most ∧ Rw.Turn (Rw.worth (Rw.grow (ns.length - i) ns)) x))
        ⟨pt, [], none, none, none, none, none, none, rfl, Same.refl _, sm1.free hpt, et, List.Pairwise.nil, (fun x z => by simp at z), Nat.zero_le _, .inl rfl⟩
        (fun i σ H' _ h => by obtain ⟨_, _, _, _, _, _, _, _, _, h, _⟩ := h; exact SqL.of (h _ _ ev)) ?_ ?_
      · rintro i y σ H3 hy ⟨pt, tl, v4, v5, v6, v7, v8, v9, rfl, s3, fpt, ept, asc, pos, len, tur⟩
        have hi : i < ns.length := by
          have := lt_of_get hy
          rw [List.length_reverse, List.length_map] at this; omega
        obtain ⟨t, ht, rfl⟩ : ∃ t, as[ns.length - 1 - i]? = some t ∧ y = .ref t := by
          rw [List.getElem?_reverse (by rw [List.length_map]; omega), List.length_map, hn, List.getElem?_map, Option.map_eq_some_iff] at hy
          obtain ⟨t, h1, h2⟩ := hy
          exact ⟨t, h1, h2.symm⟩
        have hg := upT (hrow _ t ht) (s12.trans s3)
        generalize hgg : Rw.grow (ns.length - 1 - i) ns = g at hg
        have hgl2 : g.length = i + 1 := by rw [← hgg, Rw.grow_length]; omega
        have hgr : g.length ≤ 1 ∨ ∀ x, x ∈ tl ↔ 0 < x ∧ x ≤ most ∧ Rw.Turn (Rw.worth (Rw.growth g)) x := by
          rcases tur with z | z
          · exact .inl (by omega)
          · by_cases hi0 : i = 0
            · exact .inl (by omega)
            · refine .inr ?_
              have e : ns.length - i = (ns.length - 1 - i) + 1 := by omega
              rw [e] at z
              rw [← hgg]
              exact z
        have p8 : 2 ^ i ≤ 256 := pow_le8 (by omega)
        -- bounds
        refine ⟨by show 1 ≤ sizeLine; decide, fun z0 hz0 => ⟨.ref pt, rfl, pt, rfl, ⟨_, SqL.of (same_new hz0 _ _ ept)⟩, fun dd hdd => ?_⟩⟩
        have sz := same_new (o := .lst [.int 0]) hz0
        generalize hH4 : upd H3 z0 (.lst [.int 0]) = H4 at hdd sz
        have e0 : H4 z0 = some (.lst [.int 0]) := by rw [← hH4]; exact upd_same
        have ept4 : H4 pt = some (.lst (tl.map V.int)) := by rw [← hH4]; exact same_new hz0 _ _ ept
        refine lc_list (xs := tl.map V.int) (fun j H' => Same H4 H' ∧ H' dd = some (.lst (((tl.take j).filter fun t => decide (t < most)).map V.int))) ⟨same_new hdd, upd_same⟩ (fun j H' _ h => SqL.of (h.1 _ _ ept4)) ?_ ?_
        · rintro j y H5 hy ⟨s5, e5⟩
          obtain ⟨n, hnn, rfl⟩ := get_mapI hy
          refine ⟨rfl, _, rfl, _, rfl, _, _, rfl, rfl, _, rfl, ?_⟩
          have hf : (tl.take (j + 1)).filter (fun t => decide (t < most)) = (tl.take j).filter (fun t => decide (t < most)) ++ (if n < most then [n] else []) := by
            rw [take_get hnn, List.filter_append]
            by_cases c : n < most
            · rw [if_pos c]; simp [c]
            · rw [if_neg c]; simp [c]
          refine ite2 (fun c => ?_) (fun c => ?_)
          · have c' : n < most := of_decide_eq_true c
            rw [if_pos c'] at hf
            refine ⟨_, rfl, _, e5, ?_, ?_, ?_⟩
            · rw [List.length_map]
              exact small1000 (Nat.le_trans (List.length_filter_le _ _) (by rw [List.length_take]; omega))
            · intro b o e
              rw [upd_ne (ne_of_none e hdd)]
              exact s5 _ _ e
            · rw [upd_same, hf, List.map_append]; rfl
          · have c' : ¬ n < most := fun z => c (decide_eq_true z)
            rw [if_neg c', List.append_nil] at hf
            exact ⟨s5, by rw [hf]; exact e5⟩
        · rintro H5 ⟨s5, e5⟩
          rw [List.length_map, List.take_length] at e5
          have fl : (tl.filter fun t => decide (t < most)).length ≤ tl.length := List.length_filter_le _ _
          refine ⟨z0, dd, _, _, rfl, rfl, s5 _ _ e0, e5, by rw [List.length_map]; exact small_line (by show 1 + _ ≤ 2000; omega), fun c0 hc0 => ?_⟩
          have sc := same_new (o := .lst ([V.int 0] ++ ((tl.filter fun t => decide (t < most)).map V.int))) hc0
          refine ⟨.int most, rfl, by show 1 ≤ sizeLine; decide, fun y0 hy0 => ?_⟩
          have sy := same_new (o := .lst [V.int most]) hy0
          refine ⟨c0, y0, _, _, rfl, rfl, sy _ _ upd_same, upd_same, by rw [List.length_append, List.length_map]; exact small_line (by show 1 + _ + 1 ≤ 2000; omega), fun pb hpb => ?_⟩
          have eb : [V.int 0] ++ ((tl.filter fun t => decide (t < most)).map V.int) ++ [V.int most] = (Rw.bnds tl most).map V.int := by
            unfold Rw.bnds
            rw [List.map_append, List.map_append]; rfl
          rw [eb]
          have sb := same_new (o := .lst ((Rw.bnds tl most).map V.int)) hpb
          -- found = []
          refine ⟨Nat.zero_le _, fun pf hpf => ?_⟩
          have sf := same_new (o := .lst []) hpf
          have s6 := (((s5.trans sc).trans sy).trans sb).trans sf
          have ebb := sf _ _ (upd_same (H := upd (upd H5 c0 (.lst ([V.int 0] ++ ((tl.filter fun t => decide (t < most)).map V.int)))) y0 (.lst [V.int most])) (a := pb) (o := .lst ((Rw.bnds tl most).map V.int)))
          have eff : (upd (upd (upd (upd H5 c0 (.lst ([V.int 0] ++ ((tl.filter fun t => decide (t < most)).map V.int)))) y0 (.lst [V.int most])) pb (.lst ((Rw.bnds tl most).map V.int))) pf (.lst [])) pf = some (.lst []) := upd_same
          have fpf3 : H3 pf = none := (sz.trans (((s5.trans sc).trans sy).trans sb)).free hpf
          have npbf := ne_of_none (upd_same (H := upd (upd H5 c0 (.lst ([V.int 0] ++ ((tl.filter fun t => decide (t < most)).map V.int)))) y0 (.lst [V.int most])) (a := pb) (o := .lst ((Rw.bnds tl most).map V.int))) hpf
          generalize (upd (upd (upd (upd H5 c0 (.lst ([V.int 0] ++ ((tl.filter fun t => decide (t < most)).map V.int)))) y0 (.lst [V.int most])) pb (.lst ((Rw.bnds tl most).map V.int))) pf (.lst [])) = H6 at s6 ebb eff
          have s36 := sz.trans s6
          refine ⟨.ref pb, rfl, .ref pb, rfl, 1, rfl, pb, _, rfl, SqL.of ebb, fun cc hcc => ?_⟩
          have scc := same_new (o := .lst (cutV ((Rw.bnds tl most).map V.int) (some 1) none)) hcc
          have ecc : (upd H6 cc (.lst (cutV ((Rw.bnds tl most).map V.int) (some 1) none))) cc = some (.lst (((Rw.bnds tl most).drop 1).map V.int)) := by rw [upd_same, cut_tail, List.map_drop]
          have ebc := scc _ _ ebb
          have efc := scc _ _ eff
          have s37 := s36.trans scc
          have fcc : pf ≠ cc := ne_of_none eff hcc
          generalize (upd H6 cc (.lst (cutV ((Rw.bnds tl most).map V.int) (some 1) none))) = H7 at ecc ebc efc s37
          refine ⟨pb, cc, _, _, rfl, .inl ⟨SqL.of ebc, SqL.of ecc, ?_⟩⟩
          have hbl : (Rw.bnds tl most).length = (tl.filter fun t => decide (t < most)).length + 2 := Rw.bnds_length _ _
          have hnz : (tl.filter fun t => decide (t < most)).length + 1 = min ((Rw.bnds tl most).map V.int).length (((Rw.bnds tl most).drop 1).map V.int).length := by
            rw [List.length_map, List.length_map, List.length_drop, hbl]; omega
          refine EaZ.for_zipM hnz (fun j σ H' => ∃ (fl : List Int) (u : Int) (w7 w8 : Option V), σ = [some (.ref a), some (.int most), some (.ref pr), some (.ref pt), some (.ref t), some (.ref pb), some (.ref pf), w7, w8, v9] ∧ Same H3 H' ∧ H' pb = some (.lst ((Rw.bnds tl most).map V.int)) ∧
              H' cc = some (.lst (((Rw.bnds tl most).drop 1).map V.int)) ∧ H' pf = some (.lst (fl.map V.int)) ∧ fl.length ≤ 2 * j ∧ (Rw.bnds tl most)[j]? = some u ∧ ∀ x, x ∈ fl ↔ 0 < x ∧ x ≤ u ∧ Rw.Turn (Rw.worth g) x)
            ⟨[], 0, _, _, rfl, ?_, ebc, ecc, efc, Nat.zero_le _, Rw.bnds_first _ _, fun x => ⟨fun z => by simp at z, fun z => by omega⟩⟩ (fun j σ H' h => by obtain ⟨_, _, _, _, _, _, h1, h2, _⟩ := h; exact ⟨SqL.of h1, SqL.of h2⟩) ?_ ?_
          · exact s37
          · rintro j x y Tp σ H8 hx hy ⟨fl, u, w7, w8, rfl, s8, eb8, ec8, ef8, le8, hu, me8⟩ hTp
            obtain ⟨u', hu', rfl⟩ := get_mapI hx
            obtain ⟨v, hv, rfl⟩ := get_mapI hy
            rw [hu] at hu'
            cases hu'
            rw [List.getElem?_drop, Nat.add_comm 1 j] at hv
            have hu0 := Rw.bnds_range asc pos m0 hu
            have hv0 := Rw.bnds_range asc pos m0 hv
            have huv := Rw.asc_next (Rw.bnds_asc asc pos m0) hu hv
            have sT := same_new (o := .tup [V.int u, V.int v]) hTp
            have hjl : j < (tl.filter fun t => decide (t < most)).length + 1 := by have := lt_of_get hv; omega
            refine ⟨Tp, _, rfl, .inl (.inl upd_same), rfl, _, _, rfl, _, _, rfl, rfl, ?_⟩
            refine ⟨.ref pf, rfl, .inl ⟨rfl, _, SqL.of (sT _ _ ef8)⟩, .ref t, rfl, .int u, rfl, .int v, rfl, t, g, u, v, rfl, upT hg (s8.trans sT), hu0.1, by omega, by omega, Rw.stretch_mono hgr asc pos m0 hu hv, fun H9 p l s9 hp ep ll me => ?_⟩
            refine ⟨pf, p, _, _, rfl, rfl, s9 _ _ (sT _ _ ef8), ep, by rw [List.length_map, List.length_map]; exact small_line (by omega), ?_⟩
            refine ⟨fl ++ l, v, _, _, rfl, fun b o e => ?_, ?_, ?_, ?_, ?_, hv, fun x => ?_⟩
            · rw [upd_ne (ne_of_none e fpf3)]
              exact s9 _ _ (sT _ _ (s8 _ _ e))
            · rw [upd_ne npbf]; exact s9 _ _ (sT _ _ eb8)
            · rw [upd_ne fcc.symm]; exact s9 _ _ (sT _ _ ec8)
            · rw [upd_same, List.map_append]
            · rw [List.length_append]; omega
            · rw [List.mem_append, me8, me]
              constructor
              · rintro (⟨h1, h2, h3⟩ | ⟨h1, h2, h3⟩)
                · exact ⟨h1, by omega, h3⟩
                · exact ⟨by omega, h2, h3⟩
              · rintro ⟨h1, h2, h3⟩
                by_cases c : x ≤ u
                · exact .inl ⟨h1, c, h3⟩
                · exact .inr ⟨by omega, h2, h3⟩
          · rintro σ H8 ⟨fl, u, w7, w8, rfl, s8, eb8, ec8, ef8, le8, hu, me8⟩
            have hu' := Rw.bnds_last tl most
            rw [hbl, show (tl.filter fun t => decide (t < most)).length + 2 - 1 = (tl.filter fun t => decide (t < most)).length + 1 by omega, hu] at hu'
            cases hu'
            refine ⟨.ref pf, rfl, pf, fl, rfl, SqL.of ef8, by show fl.length + 1 < 4096; omega, fun ps n hps hnl => ⟨ps, _, n, rfl, upd_same, fun ns' p h1 h2 h3 hp => ?_⟩⟩
            have s9 : Same H8 (upd (upd H8 ps (SetO w ps (fun j => decide (j ∈ fl)) n)) p (.lst (ns'.map V.int))) := (same_new hps).trans (same_new hp)
            have me9 : ∀ x, x ∈ ns' ↔ 0 < x ∧ x ≤ most ∧ Rw.Turn (Rw.worth g) x := fun x => by rw [h2, decide_eq_true_eq, me8]
            have fp : H p = none := (sm1.trans (s12.trans (s3.trans (s8.trans (same_new hps))))).free hp
            have el : ns.length - (i + 1) = ns.length - 1 - i := by omega
            refine ⟨p, ns', _, _, _, _, _, _, rfl, s3.trans (s8.trans s9), fp, upd_same, h1, fun x hx => ((me9 x).mp hx).1, ?_, .inr (by rw [el, hgg]; exact me9)⟩
            by_cases hi0 : i = 0
            · have : ns' = [] := by
                cases ns' with
                | nil => rfl
                | cons x r => exact absurd ((me9 x).mp List.mem_cons_self).2.2 (Rw.const_no_turn (by omega) x)
              rw [this]; exact Nat.zero_le _
            · have p2 : 2 ≤ 2 ^ i := Nat.le_trans (by decide) (Nat.pow_le_pow_right (by decide) (show 1 ≤ i by omega))
              rw [Nat.pow_succ]
              omega
      · rintro σ H3 ⟨pt, tl, v4, v5, v6, v7, v8, v9, rfl, s3, fpt, ept, asc, pos, len, tur⟩
        rw [List.length_reverse, List.length_map, hn] at len tur
        refine ⟨.ref pt, rfl, q H3 pt tl (sm1.trans (s12.trans s3)) fpt ept len ?_⟩
        rcases tur with z | z
        · omega
        · rw [Nat.sub_self] at z
          exact z
end
end Ea
set_option maxRecDepth 100000
set_option maxHeartbeats 4000000
namespace Ea
open PySem PySem.Spec PyProof.Rows L2
section
variable {P : Program} {w : World} {K : PySem.W.Frag} {mg : Str → Option Value} {base : Heap}
abbrev s_greatest_turn : Stmt := topS 13
abbrev N_greatest_turn : List Str := ["row", "number"]
theorem S_greatest_turn : FnScope N_greatest_turn ["row"] (defScope s_greatest_turn) := ⟨rfl, rfl, rfl, by decide +kernel, rfl, by decide +kernel, by decide +kernel⟩
def spGreat (K : PySem.W.Frag) : Sp := fun vs H Q _ => ∃ (a : Addr) (ns : List Int), vs = [.ref a] ∧ SqT K H a (ns.map V.int) ∧ ns.length ≤ 900 ∧ ∀ H', Same H H' → Q (.int (2 + Rw.asum ns)) H'
theorem ok_greatest_turn {f : Addr} {fd : FuncData} (D : DefAt K mg "greatest_turn" s_greatest_turn ["row"] f fd) (T : Txt mg) : FnOk P w K mg base CX0 1 f fd ["row"] (spGreat K) := by
  refine D.F.ok S_greatest_turn (fun vs H Q E h => ?_) (fun cdv A outer s H vs Q E hr h => ?_)
  · obtain ⟨a, ns, rfl, _⟩ := h
    rfl
  · obtain ⟨a, ns, rfl, hT, hl, q⟩ := h
    refine ⟨_, (pss_one (ps_ret (pe_op op_add pe_int (pe_callB (cr_sum rfl) (by rfl) T.n_sum (by decide +kernel) (pa_cons (pe_lc (own := [("number", 1)]) rfl S_greatest_turn.nd (pi_tup (pv 0)) (blkOk_by (own := [("number", 1)]) (N := N_greatest_turn) (sc := defScope s_greatest_turn) (by decide +kernel)) (fun _ _ _ _ _ => (pg_name (i := 1) S_greatest_turn.nd rfl (.inl rfl))) (fun _ _ _ _ _ => pts_nil) (fun _ _ _ _ _ => (pe_callB call_abs (by rfl) T.n_abs (by decide +kernel) (pa_cons (pv 1) pa_nil)))) pa_nil))))), ?_⟩
    refine ⟨.ref a, rfl, a, rfl, ⟨_, hT⟩, fun d hd => ?_⟩
    refine lc_tup (xs := ns.map V.int) (fun i H' => Same H H' ∧ H' d = some (.lst (((ns.map Rw.ab).take i).map V.int))) ⟨same_new hd, upd_same⟩ (fun i H' _ h => upT hT h.1) ?_ ?_
    · rintro i y H' hy ⟨sm, ed⟩
      obtain ⟨n, hn, rfl⟩ := get_mapI hy
      have hm : (ns.map Rw.ab)[i]? = some (Rw.ab n) := by rw [List.getElem?_map, hn]; rfl
      refine ⟨rfl, _, rfl, _, rfl, _, ed, ?_, fun b o e => ?_, ?_⟩
      · rw [List.length_map, List.length_take]
        exact Nat.lt_of_le_of_lt (Nat.min_le_right _ _) (small1000 (by rw [List.length_map]; omega))
      · rw [upd_ne (ne_of_none e hd)]
        exact sm _ _ e
      · rw [upd_same, take_get hm, List.map_append]; rfl
    · rintro H' ⟨sm, ed⟩
      have e : (ns.map Rw.ab).take (ns.map V.int).length = ns.map Rw.ab := List.take_of_length_le (by rw [List.length_map, List.length_map]; exact Nat.le_refl _)
      rw [e] at ed
      refine ⟨d, _, rfl, SqL.of ed, _, _, rfl, rfl, ?_⟩
      rw [Rw.asum_sum]
      exact q H' sm
/-- at a stand rows: a list or a tuple of tuples of ints -/
structure RowsAt (K : PySem.W.Frag) (H : Hp) (a : Addr) (as : List Addr) (rs : List (List Int)) : Prop where
  seq : EaS.Sq K H a (as.map V.ref)
  len : as.length = rs.length
  row : ∀ (i : Nat) (t : Addr) (r : List Int), as[i]? = some t → rs[i]? = some r → SqT K H t (r.map V.int)
theorem RowsAt.up {H H' : Hp} {a : Addr} {as : List Addr} {rs : List (List Int)} (R : RowsAt K H a as rs) (e : Same H H') : RowsAt K H' a as rs := ⟨R.seq.up e, R.len, fun i t r h1 h2 => upT (R.row i t r h1 h2) e⟩
/-- rows of the sizes that are let -/
structure RowsOk (L : Nat) (rs : List (List Int)) : Prop where
  pos : ∀ r ∈ rs, 0 < r.length
  len : ∀ r ∈ rs, r.length ≤ L
  L8 : L ≤ 8
  sum : ∀ r ∈ rs, Rw.asum r ≤ 2 ^ 50
  cap : Rw.tri rs.length * (2 ^ L - 2) ≤ 4000
  few : rs.length ≤ 900
theorem cut_head {xs : List V} {i : Nat} (h : i ≤ xs.length) : cutV xs none (some (i : Int)) = xs.take i := by
  unfold cutV
  rw [HT.sIx_none, HT.sIx_nat, List.drop_zero, Nat.sub_zero, Nat.min_eq_left h]
abbrev s_sizes_of_turns : Stmt := topS 14
abbrev N_sizes_of_turns : List Str := ["rows", "found", "at", "other", "row"]
theorem S_sizes_of_turns : FnScope N_sizes_of_turns ["rows"] (defScope s_sizes_of_turns) := ⟨rfl, rfl, rfl, by decide +kernel, rfl, by decide +kernel, by decide +kernel⟩
def spSizes (K : PySem.W.Frag) : Sp := fun vs H Q _ => ∃ (a : Addr) (as : List Addr) (rs : List (List Int)) (L : Nat), vs = [.ref a] ∧ RowsAt K H a as rs ∧ RowsOk L rs ∧
  ∀ H' p (l : List Int), Same H H' → H p = none → H' p = some (.lst (l.map V.int)) → l.Pairwise (· < ·) → (∀ x, x ∈ l ↔ x = 0 ∨ (0 < x ∧ Rw.AnyTurn rs x)) → l.length ≤ 4096 → Q (.ref p) H'
theorem ok_sizes_of_turns {f f0 f1 f2 f3 f4 f5 f6 f7 f8 : Addr} {fd fd0 fd1 fd2 fd3 fd4 fd5 fd6 fd7 fd8 : FuncData} (D : DefAt K mg "sizes_of_turns" s_sizes_of_turns ["rows"] f fd) (D_turns_of : DefAt K mg "turns_of" s_turns_of ["row", "most"] f0 fd0)
    (D_turns_between : DefAt K mg "turns_between" s_turns_between ["row", "low", "high"] f1 fd1) (D_first_other : DefAt K mg "first_other" s_first_other ["row", "low", "high"] f2 fd2) (D_worth : DefAt K mg "worth" s_worth ["row", "size"] f3 fd3)
    (D_sign_of : DefAt K mg "sign_of" s_sign_of ["number"] f4 fd4) (D_growth_row : DefAt K mg "growth_row" s_growth_row ["row"] f5 fd5) (D_row_less : DefAt K mg "row_less" s_row_less ["one", "other"] f6 fd6) (D_shifted : DefAt K mg "shifted" s_shifted ["row"] f7 fd7)
    (D_greatest_turn : DefAt K mg "greatest_turn" s_greatest_turn ["row"] f8 fd8) (T : Txt mg) : FnOk P w K mg base CX0 5 f fd ["rows"] (spSizes K) := by
  have G_turns_of : FnOk P w K mg base CX0 4 f0 fd0 ["row", "most"] (spTurns K) := ok_turns_of D_turns_of D_turns_between D_first_other D_worth D_sign_of D_growth_row D_row_less D_shifted T
  have G_row_less : FnOk P w K mg base CX0 1 f6 fd6 ["one", "other"] (spRowLess K) := ok_row_less D_row_less T
  have G_greatest_turn : FnOk P w K mg base CX0 1 f8 fd8 ["row"] (spGreat K) := ok_greatest_turn D_greatest_turn T
  refine D.F.ok S_sizes_of_turns (fun vs H Q E h => ?_) (fun cdv A outer s H vs Q E hr h => ?_)
  · obtain ⟨a, as, rs, L, rfl, _⟩ := h
    rfl
  · obtain ⟨a, as, rs, L, rfl, R, O, q⟩ := h
    refine ⟨_, (pss_cons (ps_set (i := 1) S_sizes_of_turns.nd rfl (.inl rfl) (pe_lst (pa_cons pe_int pa_nil)))
      (pss_cons (ps_for PassesOwn.never rfl (pi_range1 (by rfl) T.n_range (pa_cons (pe_callB call_len_seq (by rfl) T.n_len (by decide +kernel) (pa_cons (pv 0) pa_nil)) pa_nil)) (pg_name (i := 2) S_sizes_of_turns.nd rfl (.inl rfl))
        (pss_one (ps_for PassesOwn.never rfl (EaS.pi_seq (pe_slice EaS.sl_seq (pv 0) po_none (po_some (pv 2)))) (pg_name (i := 3) S_sizes_of_turns.nd rfl (.inl rfl))
          (pss_cons (ps_set (i := 4) S_sizes_of_turns.nd rfl (.inl rfl) (pe_call G_row_less (hr.mono (by decide)) (by rfl) D_row_less.g D_row_less.F.kp D_row_less.b .nil pass0 (pa_cons (pe_ix EaS.ix_seq2 (pv 0) (pv 2) (fun _ _ => rfl)) (pa_cons (pv 3) pa_nil))))
            (pss_one (ps_expr (pe_bm PySem.F.plainAttrs_list PySem.F.slot_list_extend PySem.F.type_list_extend mt_extend (pv 1) (pa_cons (pe_call G_turns_of (hr.mono (by decide)) (by rfl) D_turns_of.g D_turns_of.F.kp D_turns_of.b .nil pass0 (pa_cons (pv 4) (pa_cons (pe_call G_greatest_turn (hr.mono (by decide)) (by rfl) D_greatest_turn.g D_greatest_turn.F.kp D_greatest_turn.b .nil pass0 (pa_cons (pv 4) pa_nil)) pa_nil))) pa_nil))))))))
      (pss_one (ps_ret (pe_callB (EaR.cr_sortedSetA rfl) (by rfl) T.n_sorted (by decide +kernel) (pa_cons (pe_callTy (EaR.cr_setOfL rfl) (by rfl) T.n_set (by decide +kernel) (pa_cons (pv 1) pa_nil)) pa_nil)))))), ?_⟩
    refine ⟨by show 1 ≤ sizeLine; decide, fun pf hpf => ?_⟩
    have s0 := same_new (o := .lst [.int 0]) hpf
    have few := O.few
    have lenR := R.len
    refine ⟨.ref a, rfl, a, _, rfl, (R.up s0).seq, _, rfl, by rw [List.length_map]; omega, by rw [List.length_map]; omega, ?_⟩
    rw [List.length_map, Int.toNat_natCast, lenR]
    refine for_range (lo := 0) (n := rs.length) (fun i σ H' => ∃ (fl : List Int) (v2 v3 v4 : Option V), σ = [some (.ref a), some (.ref pf), v2, v3, v4] ∧ Same H H' ∧ H' pf = some (.lst (fl.map V.int)) ∧ fl.length ≤ 1 + Rw.tri i * (2 ^ L - 2) ∧ ∀ x, x ∈ fl ↔ x = 0 ∨ (0 < x ∧ Rw.TurnTo rs i 0 x))
      ⟨[0], none, none, none, rfl, s0, upd_same, Nat.le_add_right _ _, fun x => ?_⟩ ?_ ?_
    · rw [List.mem_singleton]
      exact ⟨.inl, fun h => h.elim id fun h => absurd h.2 (Rw.TurnTo.zero rs x)⟩
    · rintro i σ H1 hi ⟨fl, v2, v3, v4, rfl, s1, e1, l1, m1⟩
      obtain ⟨r, hr0⟩ : ∃ r, rs[i]? = some r := ⟨_, List.getElem?_eq_getElem hi⟩
      obtain ⟨t, ht⟩ : ∃ t, as[i]? = some t := ⟨_, List.getElem?_eq_getElem (by omega)⟩
      have rm := List.mem_of_getElem? hr0
      have ei : (0 : Int) + (i : Nat) = (i : Nat) := by omega
      refine ⟨.ref a, rfl, _, rfl, _, rfl, a, _, rfl, (R.up s1).seq, fun c H2 s2 e2 => ?_⟩
      rw [ei, cut_head (by rw [List.length_map]; omega), ← List.map_take] at e2
      have sB : Same H (EaS.del H2 pf) := EaS.same_del hpf (s1.trans s2)
      have eB : EaS.Sq K (EaS.del H2 pf) c ((as.take i).map V.ref) := by
        rcases e2 with ⟨hc, e2⟩ | ⟨rfl, e2⟩
        · have ncf : c ≠ pf := (ne_of_none e1 hc).symm
          rcases e2 with e2 | e2
          · exact .inl (SqL.of (EaS.del_at e2 ncf))
          · exact .inr (SqT.of (EaS.del_at e2 ncf))
        · rw [e2]
          exact R.seq.up sB
      refine ⟨c, (as.take i).map V.ref, rfl, ?_⟩
      have lt : (as.take i).length = i := by rw [List.length_take]; omega
      refine EaS.for_seq eB (fun j σ H' => ∃ (gl : List Int) (v3 v4 : Option V), σ = [some (.ref a), some (.ref pf), some (.int (0 + (i : Nat))), v3, v4] ∧ Same (EaS.del H2 pf) H' ∧ H' pf = some (.lst (gl.map V.int)) ∧ gl.length ≤ 1 + (Rw.tri i + j) * (2 ^ L - 2) ∧ ∀ x, x ∈ gl ↔ x = 0 ∨ (0 < x ∧ Rw.TurnTo rs i j x))
        ⟨fl, v3, v4, rfl, EaS.del_same fun _ _ _ e => e, s2 _ _ e1, l1, m1⟩ (fun j σ' H' _ h => by obtain ⟨_, _, _, _, h, _⟩ := h; exact h) ?_ ?_
      · rintro j y σ H3 hy ⟨gl, v3, v4, rfl, s3, e3, l3, m3⟩
        have hj : j < i := by have := lt_of_get hy; rw [List.length_map, lt] at this; exact this
        obtain ⟨b, hb0⟩ : ∃ b, rs[j]? = some b := ⟨_, List.getElem?_eq_getElem (by omega)⟩
        obtain ⟨u, hu, rfl⟩ : ∃ u, as[j]? = some u ∧ y = .ref u := by
          rw [List.getElem?_map, Option.map_eq_some_iff] at hy
          obtain ⟨u, h1, h2⟩ := hy
          rw [List.getElem?_take, if_pos hj] at h1
          exact ⟨u, h1, h2.symm⟩
        have bm := List.mem_of_getElem? hb0
        have R3 := R.up (sB.trans s3)
        have ra : atI (as.map V.ref) (0 + (i : Nat)) = some (.ref t) := at_of ei (by rw [List.getElem?_map, ht]; rfl)
        have lr := O.len r rm
        have lb := O.len b bm
        have p0 := O.pos r rm
        have L8 := O.L8
        refine ⟨.ref a, rfl, _, rfl, a, _, _, _, rfl, rfl, R3.seq, ra, .ref u, rfl, t, u, r, b, rfl, R3.row i t r ht hr0, R3.row j u b hu hb0, by omega, by omega, fun H4 p4 s4 e4 => ?_⟩
        have es : Rw.asum (Rw.rowLess r b) ≤ 2 ^ 51 := by
          have h1 := Rw.asum_rowLess r b
          have h2 := O.sum r rm
          have h3 := O.sum b bm
          omega
        have en := Rw.asum_nonneg (Rw.rowLess r b)
        have hrl : (Rw.rowLess r b).length = max r.length b.length := Rw.rowLess_length r b
        refine ⟨.ref pf, rfl, .inl ⟨rfl, _, SqL.of (s4 _ _ e3)⟩, .ref p4, rfl, .ref p4, rfl, p4, _, rfl, SqT.of e4, by rw [hrl]; omega, fun H5 s5 => ?_⟩
        refine ⟨p4, _, _, rfl, upT (SqT.of e4) s5, by rw [hrl]; omega, by rw [hrl]; omega, by omega, by omega, fun H6 q6 l s6 fq6 e6 l6 m6 => ?_⟩
        have s36 := s4.trans (s5.trans s6)
        have ll : l.length ≤ 2 ^ L - 2 := Nat.le_trans l6 (Nat.sub_le_sub_right (Nat.pow_le_pow_right (by decide) (by rw [hrl]; omega)) 2)
        have tl : (Rw.tri i + j + 1) * (2 ^ L - 2) ≤ 4000 := by
          refine Nat.le_trans (Nat.mul_le_mul_right _ ?_) O.cap
          have h1 : Rw.tri (i + 1) ≤ Rw.tri rs.length := Rw.tri_mono (by omega)
          have h2 : Rw.tri (i + 1) = Rw.tri i + i := rfl
          omega
        have tl2 : (Rw.tri i + (j + 1)) * (2 ^ L - 2) = (Rw.tri i + j) * (2 ^ L - 2) + (2 ^ L - 2) := by rw [← Nat.add_assoc, Nat.succ_mul]
        rw [Nat.add_assoc, tl2] at tl
        refine ⟨pf, q6, _, _, rfl, rfl, s36 _ _ e3, e6, by rw [List.length_map, List.length_map]; exact Nat.le_trans (show gl.length + l.length ≤ 10000 by omega) (by decide), ?_⟩
        refine ⟨gl ++ l, _, _, rfl, fun b o e => ?_, ?_, ?_, fun x => ?_⟩
        · have nb : b ≠ pf := fun z => by rw [z, EaS.del_self] at e; cases e
          rw [upd_ne nb]
          exact s36 _ _ (s3 _ _ e)
        · rw [upd_same, List.map_append]
        · rw [List.length_append, tl2]; omega
        · rw [List.mem_append, m3, m6, Rw.TurnTo.next hr0 hb0 hj]
          have far : Rw.Turn (Rw.worth (Rw.rowLess r b)) x → x ≤ 2 + Rw.asum (Rw.rowLess r b) := fun h => by
            apply Classical.byContradiction
            intro z
            exact Rw.no_turn_far (by omega) h
          constructor
          · rintro ((h | ⟨h1, h2⟩) | ⟨h1, h2, h3⟩)
            · exact .inl h
            · exact .inr ⟨h1, .inl h2⟩
            · exact .inr ⟨h1, .inr h3⟩
          · rintro (h | ⟨h1, h2 | h2⟩)
            · exact .inl (.inl h)
            · exact .inl (.inr ⟨h1, h2⟩)
            · exact .inr ⟨h1, far h2, h2⟩
      · rintro σ H3 ⟨gl, v3, v4, rfl, s3, e3, l3, m3⟩
        rw [List.length_map, lt] at l3 m3
        refine ⟨gl, _, _, _, rfl, sB.trans s3, e3, l3, fun x => ?_⟩
        rw [m3, Rw.TurnTo.row]
    · rintro σ H1 ⟨fl, v2, v3, v4, rfl, s1, e1, l1, m1⟩
      have cap := O.cap
      refine ⟨.ref pf, rfl, pf, fl, rfl, SqL.of e1, by show fl.length + 1 < 4096; omega, fun ps n hps hnl => ⟨ps, _, n, rfl, upd_same, fun ns' p h1 h2 h3 hp => ?_⟩⟩
      have s9 := (s1.trans (same_new (o := SetO w ps (fun j => decide (j ∈ fl)) n) hps))
      refine q _ p ns' (s9.trans (same_new hp)) (s9.free hp) upd_same h1 (fun x => ?_) (by omega)
      rw [h2, decide_eq_true_eq, m1, Rw.TurnTo.all]
end
end Ea
set_option maxRecDepth 100000
set_option maxHeartbeats 4000000
namespace Ea
open PySem PySem.Spec PyProof.Rows L2
section
variable {P : Program} {w : World} {K : PySem.W.Frag} {mg : Str → Option Value} {base : Heap}
theorem flat_ints (l : List Int) : (l.map V.int).all flatV = true := by
  rw [List.all_map]
  exact List.all_eq_true.mpr fun _ _ => rfl
abbrev s_cheapest_row : Stmt := topS 15
abbrev N_cheapest_row : List Str := ["rows", "size", "steps", "row"]
theorem S_cheapest_row : FnScope N_cheapest_row ["rows", "size"] (defScope s_cheapest_row) := ⟨rfl, rfl, rfl, by decide +kernel, rfl, by decide +kernel, by decide +kernel⟩
def spCheap (K : PySem.W.Frag) : Sp := fun vs H Q _ => ∃ (a : Addr) (as : List Addr) (rs : List (List Int)) (x : Int), vs = [.ref a, .int x] ∧ RowsAt K H a as rs ∧ rs ≠ [] ∧ rs.length ≤ 900 ∧ -(2 ^ 64) < x ∧ x < 2 ^ 64 ∧ ∀ H', Same H H' → Q (.int ((Rw.bst rs x : Nat) : Int)) H'
theorem ok_cheapest_row {f f1 : Addr} {fd fd1 : FuncData} (D : DefAt K mg "cheapest_row" s_cheapest_row ["rows", "size"] f fd) (D_worth : DefAt K mg "worth" s_worth ["row", "size"] f1 fd1) (T : Txt mg) : FnOk P w K mg base CX0 2 f fd ["rows", "size"] (spCheap K) := by
  have G_worth : FnOk P w K mg base CX0 1 f1 fd1 ["row", "size"] (spWorth K) := ok_worth D_worth T
  refine D.F.ok S_cheapest_row (fun vs H Q E h => ?_) (fun cdv A outer s H vs Q E hr h => ?_)
  · obtain ⟨a, as, rs, x, rfl, _⟩ := h
    rfl
  · obtain ⟨a, as, rs, x, rfl, R, ne, few, b1, b2, q⟩ := h
    refine ⟨_, (pss_cons (ps_setLc (i := 2) (own := [("row", 3)]) rfl S_cheapest_row.nd rfl rfl (sw_true rfl rfl rfl (by decide +kernel)) (EaS.pi_seq (pv 0)) (blkOk_by (own := [("row", 3)]) (N := N_cheapest_row) (sc := defScope s_cheapest_row) (by decide +kernel)) (fun _ _ _ _ _ => (pg_name (i := 3) S_cheapest_row.nd rfl (.inl rfl))) (fun _ _ _ _ _ => pts_nil) (fun _ _ _ _ _ => (pe_call G_worth (hr.mono (by decide)) (by rfl) D_worth.g D_worth.F.kp D_worth.b .nil pass0 (pa_cons (pv 3) (pa_cons (pv 1) pa_nil)))))
      (pss_one (ps_ret (pe_bm PySem.F.plainAttrs_list PySem.F.slot_list_index PySem.F.type_list_index mt_index (pv 2) (pa_cons (pe_callB (cr_min rfl) (by rfl) T.n_min (by decide +kernel) (pa_cons (pv 2) pa_nil)) pa_nil))))), ?_⟩
    have lenR := R.len
    refine ⟨.ref a, rfl, ?_⟩
    refine EaS.lc_seq (g := gName 3) (tt := tYes) (te := tCall (spWorth K) [] E0 (tCons (tVar 3) (tCons (tVar 1) tNil))) (vs := [3]) (σ := L2.start N_cheapest_row [V.ref a, V.int x]) (Q := fun v H1 => gName 2 v (L2.start N_cheapest_row [V.ref a, V.int x]) H1 (tRet (tBM K "list" (rIndex K) (tVar 2) (tCons (tCB (rMin K) (tCons (tVar 2) tNil)) tNil)) { nx := fun _ H' => Q V.non H', rt := Q })) R.seq (fun d i H' => Same H H' ∧ H' d = some (.lst (((rs.map (Rw.worth · x)).take i).map V.int))) (fun d hd => ⟨same_new hd, upd_same⟩) (fun d i H' _ h => h.1) ?_ ?_
    · rintro d i y H' hd hy ⟨sm, ed⟩
      obtain ⟨t, ht, rfl⟩ : ∃ t, as[i]? = some t ∧ y = .ref t := by
        rw [List.getElem?_map, Option.map_eq_some_iff] at hy
        obtain ⟨u, h1, h2⟩ := hy
        exact ⟨u, h1, h2.symm⟩
      have hi := lt_of_get ht
      obtain ⟨r, hr0⟩ : ∃ r, rs[i]? = some r := ⟨_, List.getElem?_eq_getElem (by omega)⟩
      have hm : (rs.map (Rw.worth · x))[i]? = some (Rw.worth r x) := by rw [List.getElem?_map, hr0]; rfl
      refine ⟨rfl, .ref t, rfl, .int x, rfl, t, r, x, rfl, (R.up sm).row i t r ht hr0, b1, b2, fun H2 s2 => ?_⟩
      refine ⟨_, s2 _ _ ed, ?_, fun b o e => ?_, ?_⟩
      · rw [List.length_map, List.length_take]
        exact Nat.lt_of_le_of_lt (Nat.min_le_right _ _) (small1000 (by rw [List.length_map]; omega))
      · rw [upd_ne (ne_of_none e hd)]
        exact s2 _ _ (sm _ _ e)
      · rw [upd_same, take_get hm, List.map_append]; rfl
    · rintro d H' hd ⟨sm, ed⟩
      have e : (rs.map (Rw.worth · x)).take (as.map V.ref).length = rs.map (Rw.worth · x) := List.take_of_length_le (by rw [List.length_map, List.length_map]; omega)
      rw [e] at ed
      have ne' : rs.map (Rw.worth · x) ≠ [] := fun z => ne (List.map_eq_nil_iff.mp z)
      refine ⟨.ref d, rfl, .inl ⟨rfl, _, SqL.of ed⟩, .ref d, rfl, d, _, rfl, SqL.of ed, List.length_pos_iff.mpr ne', fun m hm hle => ?_⟩
      obtain ⟨m', k1, k2, k3⟩ := Rw.best_spec _ ne'
      have em : m = m' := by
        have a1 := hle m' (List.mem_of_getElem? k1)
        have a2 := k2 m hm
        omega
      subst em
      refine ⟨d, _, .int m, Rw.best (rs.map (Rw.worth · x)), .int m, rfl, rfl, SqL.of ed, rfl, flat_ints _, by rw [List.getElem?_map, k1]; rfl, beq_self_eq_true m, fun i z hi hz => ?_, q H' sm⟩
      obtain ⟨n, hn, rfl⟩ := get_mapI hz
      have := k3 i hi n hn
      show (n == m) = false
      exact beq_eq_false_iff_ne.mpr (by omega)
/-! ### pairs of a size and a number -/
structure PairsAt (H : Hp) (ts : List Addr) (l : List (Int × Nat)) : Prop where
  len : ts.length = l.length
  at_ : ∀ (i : Nat) (t : Addr) (p : Int × Nat), ts[i]? = some t → l[i]? = some p → H t = some (.tup [.int p.1, .int ((p.2 : Nat) : Int)])
theorem PairsAt.keep {H H' : Hp} {ts : List Addr} {l : List (Int × Nat)} (h : PairsAt H ts l) (k : ∀ b xs, H b = some (.tup xs) → H' b = some (.tup xs)) : PairsAt H' ts l := ⟨h.len, fun i t p h1 h2 => k _ _ (h.at_ i t p h1 h2)⟩
theorem PairsAt.nil (H : Hp) : PairsAt H [] [] := ⟨rfl, fun i t p h => by simp at h⟩
theorem PairsAt.snoc {H : Hp} {ts : List Addr} {l : List (Int × Nat)} {t : Addr} {p : Int × Nat} (h : PairsAt H ts l) (e : H t = some (.tup [.int p.1, .int ((p.2 : Nat) : Int)])) : PairsAt H (ts ++ [t]) (l ++ [p]) := by
  refine ⟨by rw [List.length_append, List.length_append, h.len]; rfl, fun i u q h1 h2 => ?_⟩
  by_cases c : i < ts.length
  · rw [List.getElem?_append_left c] at h1
    rw [List.getElem?_append_left (by rw [← h.len]; exact c)] at h2
    exact h.at_ i u q h1 h2
  · have c' : i = ts.length := by
      have := lt_of_get h1
      rw [List.length_append, List.length_singleton] at this; omega
    subst c'
    rw [List.getElem?_append_right (Nat.le_refl _), Nat.sub_self] at h1
    rw [h.len, List.getElem?_append_right (Nat.le_refl _), Nat.sub_self] at h2
    cases h1; cases h2
    exact e
def pD (p : Int × Nat) : PyData := .tuple [.int p.1, .int ((p.2 : Nat) : Int)]
theorem PairsAt.all {H : Hp} : ∀ {ts : List Addr} {l : List (Int × Nat)}, PairsAt H ts l → DpAll K H (ts.map V.ref) (l.map pD)
  | [], [], _ => .nil
  | [], _ :: _, h => by have := h.len; simp at this
  | _ :: _, [], h => by have := h.len; simp at this
  | t :: ts, p :: l, h => .cons (.tup (SqT.of (h.at_ 0 t p rfl rfl)) (.cons (.int _) (.cons (.int _) .nil))) (PairsAt.all ⟨Nat.succ.inj h.len, fun i u q h1 h2 => h.at_ (i + 1) u q h1 h2⟩)
theorem lay_pairs : ∀ l : List (Int × Nat), PyData.canLayAll0 (l.map pD) = true
  | [] => rfl
  | p :: l => by
    show (PyData.canLay0 (pD p) && PyData.canLayAll0 (l.map pD)) = true
    rw [lay_pairs l]; rfl
theorem depth_pairs : ∀ l : List (Int × Nat), PyData.depthAll (l.map pD) ≤ 8
  | [] => by decide
  | p :: l => by
    have h := depth_pairs l
    rw [List.map_cons]
    unfold PyData.depthAll
    have h2 : PyData.depth (pD p) ≤ 8 := by
      unfold pD
      simp [PyData.depth, PyData.depthAll]
    omega
theorem shaped_pairs (l : List (Int × Nat)) : SeqAt.shaped (.list (l.map pD)) = true := by
  unfold SeqAt.shaped
  have h := depth_pairs l
  rw [Bool.and_eq_true]
  refine ⟨lay_pairs l, decide_eq_true ?_⟩
  simp only [PyData.depth]
  omega
theorem eqv_nil : ∀ l : List (Int × Nat), PyData.eqv (.list (l.map pD)) (.list []) = decide (l = [])
  | [] => rfl
  | _ :: _ => rfl
end
end Ea
set_option maxRecDepth 100000
set_option maxHeartbeats 4000000
namespace Ea
open PySem PySem.Spec PyProof.Rows L2
section
variable {P : Program} {w : World} {K : PySem.W.Frag} {mg : Str → Option Value} {base : Heap}
theorem asc_lt {l : List Int} (h : l.Pairwise (· < ·)) {i j : Nat} {x y : Int} (hij : i < j) (h1 : l[i]? = some x) (h2 : l[j]? = some y) : x < y := by
  obtain ⟨hi, rfl⟩ := List.getElem?_eq_some_iff.mp h1
  obtain ⟨hj, rfl⟩ := List.getElem?_eq_some_iff.mp h2
  exact List.pairwise_iff_getElem.mp h i j hi hj hij
theorem turn_le {L : Nat} {rs : List (List Int)} (O : RowsOk L rs) {x : Int} (h : Rw.AnyTurn rs x) : x ≤ 2 ^ 52 := by
  obtain ⟨i, j, _, a, b, ha, hb, t⟩ := h
  have h1 := Rw.asum_rowLess a b
  have h2 := O.sum a (List.mem_of_getElem? ha)
  have h3 := O.sum b (List.mem_of_getElem? hb)
  apply Classical.byContradiction
  intro z
  exact Rw.no_turn_far (by omega) t
/-- the sizes at which something may turn -/
structure Szs (rs : List (List Int)) (l : List Int) : Prop where
  asc : l.Pairwise (· < ·)
  mem : ∀ x, x ∈ l ↔ x = 0 ∨ (0 < x ∧ Rw.AnyTurn rs x)
theorem Szs.pos {rs : List (List Int)} {l : List Int} (S : Szs rs l) {x : Int} (h : x ∈ l) : 0 ≤ x := by
  rcases (S.mem x).mp h with h | h <;> omega
theorem Szs.zero {rs : List (List Int)} {l : List Int} (S : Szs rs l) {t : Int} (h : l[0]? = some t) : t = 0 := by
  obtain ⟨j, hj⟩ := List.mem_iff_getElem?.mp ((S.mem 0).mpr (.inl rfl))
  have h0 := S.pos (List.mem_of_getElem? h)
  rcases Nat.eq_zero_or_pos j with z | z
  · subst z; rw [h] at hj; exact Option.some.inj hj
  · have := asc_lt S.asc z h hj; omega
theorem Szs.gap {rs : List (List Int)} {l : List Int} (S : Szs rs l) {k : Nat} {a b x : Int} (h1 : l[k]? = some a) (h2 : l[k + 1]? = some b) (p : a < x) (q : x < b) : Rw.bst rs x = Rw.bst rs (x - 1) := by
  refine Rw.bst_same fun t => ?_
  have a0 := S.pos (List.mem_of_getElem? h1)
  obtain ⟨j, hj⟩ := List.mem_iff_getElem?.mp ((S.mem x).mpr (.inr ⟨by omega, t⟩))
  rcases Nat.lt_trichotomy j k with z | z | z
  · have := asc_lt S.asc z hj h1; omega
  · subst z; rw [h1] at hj; cases hj; omega
  · rcases Nat.lt_or_eq_of_le (show k + 1 ≤ j from z) with y | y
    · have := asc_lt S.asc y h2 hj; omega
    · subst y; rw [h2] at hj; cases hj; omega
theorem Szs.past {rs : List (List Int)} {l : List Int} (S : Szs rs l) {k : Nat} {a x : Int} (h1 : l[k]? = some a) (e : l.length = k + 1) (p : a < x) : Rw.bst rs x = Rw.bst rs (x - 1) := by
  refine Rw.bst_same fun t => ?_
  have a0 := S.pos (List.mem_of_getElem? h1)
  obtain ⟨j, hj⟩ := List.mem_iff_getElem?.mp ((S.mem x).mpr (.inr ⟨by omega, t⟩))
  have := lt_of_get hj
  rcases Nat.lt_or_eq_of_le (show j ≤ k by omega) with z | z
  · have := asc_lt S.asc z hj h1; omega
  · subst z; rw [h1] at hj; cases hj; omega
theorem PairsAt.up {H H' : Hp} {ts : List Addr} {l : List (Int × Nat)} (h : PairsAt H ts l) (k : Same H H') : PairsAt H' ts l := h.keep fun b xs e => k b _ e
theorem PairsAt.upd {H : Hp} {ts : List Addr} {l : List (Int × Nat)} {p : Addr} {o o' : HO} (h : PairsAt H ts l) (e : H p = some o) (n : ∀ xs, o ≠ .tup xs) : PairsAt (upd H p o') ts l := h.keep fun b xs eb => by
  by_cases c : b = p
  · subst c; rw [e] at eb; cases eb; exact absurd rfl (n _)
  · rw [upd_ne c]; exact eb
theorem at_last {xs : List V} (h : 0 < xs.length) : atI xs (-(1 : Int)) = xs[xs.length - 1]? := by
  have e : ixN xs.length (-(1 : Int)) = some (xs.length - 1) := by
    unfold ixN
    rw [if_neg (by omega)]
    have e2 : ((-(1 : Int)) + (xs.length : Nat)).toNat = xs.length - 1 := by omega
    first
      | rw [if_pos (by omega), e2]
      | (simp only []; split <;> first | omega | (congr 1; omega))
  unfold atI
  rw [e]; rfl
theorem app_ok {B H6 : Hp} {pf tp : Addr} {ts : List Addr} {l : List (Int × Nat)} (t : Int) (n : Nat) (sm : Same B H6) (hB : B pf = none) (e : H6 pf = some (.lst (ts.map V.ref))) (p : PairsAt H6 ts l) (htp : H6 tp = none) :
    Same B (upd (upd H6 tp (.tup [.int t, .int ((n : Nat) : Int)])) pf (.lst (ts.map V.ref ++ [.ref tp]))) ∧ upd (upd H6 tp (.tup [.int t, .int ((n : Nat) : Int)])) pf (.lst (ts.map V.ref ++ [.ref tp])) pf = some (.lst ((ts ++ [tp]).map V.ref)) ∧
    PairsAt (upd (upd H6 tp (.tup [.int t, .int ((n : Nat) : Int)])) pf (.lst (ts.map V.ref ++ [.ref tp]))) (ts ++ [tp]) (l ++ [(t, n)]) := by
  have ntp : pf ≠ tp := ne_of_none e htp
  refine ⟨fun b o eb => ?_, ?_, ?_⟩
  · rw [upd_ne (ne_of_none eb hB), upd_ne (ne_of_none (sm _ _ eb) htp)]
    exact sm _ _ eb
  · rw [upd_same, List.map_append]; rfl
  · refine ((p.up (same_new htp)).upd ((upd_ne ntp).trans e) (fun xs z => by cases z)).snoc ?_
    rw [upd_ne ntp.symm]
    exact upd_same
abbrev s_least_rows : Stmt := topS 16
abbrev N_least_rows : List Str := ["rows", "found", "size", "number"]
theorem S_least_rows : FnScope N_least_rows ["rows"] (defScope s_least_rows) := ⟨rfl, rfl, rfl, by decide +kernel, rfl, by decide +kernel, by decide +kernel⟩
def spLeast (K : PySem.W.Frag) : Sp := fun vs H Q _ => ∃ (a : Addr) (as : List Addr) (rs : List (List Int)) (L : Nat), vs = [.ref a] ∧ RowsAt K H a as rs ∧ RowsOk L rs ∧
  ∀ H' p (ts : List Addr) (l : List (Int × Nat)), Same H H' → H' p = some (.tup (ts.map V.ref)) → PairsAt H' ts l → (rs = [] → l = []) → (rs ≠ [] → Rw.IsDue (Rw.bst rs) l) → l.length ≤ 4096 → Q (.ref p) H'
theorem ok_least_rows {f f0 f1 f2 f3 f4 f5 f6 f7 f8 f9 fA : Addr} {fd fd0 fd1 fd2 fd3 fd4 fd5 fd6 fd7 fd8 fd9 fdA : FuncData} (D : DefAt K mg "least_rows" s_least_rows ["rows"] f fd) (D_sizes_of_turns : DefAt K mg "sizes_of_turns" s_sizes_of_turns ["rows"] f9 fd9) (D_cheapest_row : DefAt K mg "cheapest_row" s_cheapest_row ["rows", "size"] fA fdA) (D_turns_of : DefAt K mg "turns_of" s_turns_of ["row", "most"] f0 fd0)
    (D_turns_between : DefAt K mg "turns_between" s_turns_between ["row", "low", "high"] f1 fd1) (D_first_other : DefAt K mg "first_other" s_first_other ["row", "low", "high"] f2 fd2) (D_worth : DefAt K mg "worth" s_worth ["row", "size"] f3 fd3)
    (D_sign_of : DefAt K mg "sign_of" s_sign_of ["number"] f4 fd4) (D_growth_row : DefAt K mg "growth_row" s_growth_row ["row"] f5 fd5) (D_row_less : DefAt K mg "row_less" s_row_less ["one", "other"] f6 fd6) (D_shifted : DefAt K mg "shifted" s_shifted ["row"] f7 fd7)
    (D_greatest_turn : DefAt K mg "greatest_turn" s_greatest_turn ["row"] f8 fd8) (T : Txt mg) : FnOk P w K mg base CX0 6 f fd ["rows"] (spLeast K) := by
  have G_sizes_of_turns : FnOk P w K mg base CX0 5 f9 fd9 ["rows"] (spSizes K) := ok_sizes_of_turns D_sizes_of_turns D_turns_of D_turns_between D_first_other D_worth D_sign_of D_growth_row D_row_less D_shifted D_greatest_turn T
  have G_cheapest_row : FnOk P w K mg base CX0 2 fA fdA ["rows", "size"] (spCheap K) := ok_cheapest_row D_cheapest_row D_worth T
  refine D.F.ok S_least_rows (fun vs H Q E h => ?_) (fun cdv A outer s H vs Q E hr h => ?_)
  · obtain ⟨a, as, rs, L, rfl, _⟩ := h
    rfl
  · obtain ⟨a, as, rs, L, rfl, R, O, q⟩ := h
    refine ⟨_, (pss_cons (ps_set (i := 1) S_least_rows.nd rfl (.inl rfl) (pe_lst pa_nil))
      (pss_cons (ps_for PassesOwn.never rfl (pi_list (pe_ifExp (pt_cmpR op_gt (pe_callB call_len_seq (by rfl) T.n_len (by decide +kernel) (pa_cons (pv 0) pa_nil)) pe_int (nomark _)) (pe_call G_sizes_of_turns (hr.mono (by decide)) (by rfl) D_sizes_of_turns.g D_sizes_of_turns.F.kp D_sizes_of_turns.b .nil pass0 (pa_cons (pv 0) pa_nil)) (pe_lst pa_nil))) (pg_name (i := 2) S_least_rows.nd rfl (.inl rfl))
        (pss_cons (ps_set (i := 3) S_least_rows.nd rfl (.inl rfl) (pe_call G_cheapest_row (hr.mono (by decide)) (by rfl) D_cheapest_row.g D_cheapest_row.F.kp D_cheapest_row.b .nil pass0 (pa_cons (pv 0) (pa_cons (pv 2) pa_nil))))
          (pss_one (ps_if (PW.pt (pw_or (pt_cmpR (op_eqD hr.units) (pv 1) (pe_lst pa_nil) (nomark _)) (pw_or1 (pt_cmpR op_ne (pe_ix ix_tup (pe_ix ix_list (pv 1) (pe_un un_neg pe_int) (fun _ _ => rfl)) pe_int (fun _ _ => rfl)) (pv 3) (nomark _)))))
          (pss_one (ps_expr (pe_bm PySem.F.plainAttrs_list PySem.F.slot_list_append PySem.F.type_list_append mt_append (pv 1) (pa_cons (pe_tup (pa_cons (pv 2) (pa_cons (pv 3) pa_nil))) pa_nil))))
          pss_nil))))
      (pss_one (ps_ret (pe_callTy call_tuple_of (by rfl) T.n_tuple (by decide +kernel) (pa_cons (pv 1) pa_nil)))))), ?_⟩
    refine ⟨by show 0 ≤ sizeLine; decide, fun pf hpf => ?_⟩
    have s0 := same_new (o := .lst []) hpf
    have few := O.few
    have lenR := R.len
    refine ⟨.ref a, rfl, a, _, rfl, (R.up s0).seq, _, _, rfl, rfl, ?_⟩
    rw [List.length_map, lenR]
    by_cases hn : rs = []
    · subst hn
      refine ⟨_, rfl, ite2 (fun c => absurd c (by decide)) fun _ => ?_⟩
      refine ⟨by show 0 ≤ sizeLine; decide, fun z hz => ?_⟩
      have e0 : upd H pf (.lst []) pf = some (.lst []) := upd_same
      have npz : z ≠ pf := ne_of_none e0 hz |>.symm
      refine ⟨z, rfl, ⟨[], SqL.of upd_same⟩, ?_⟩
      refine for_list (xs := []) (fun i σ H' => i = 0 ∧ σ = [some (.ref a), some (.ref pf), none, none] ∧ H' = upd (upd H pf (.lst [])) z (.lst [])) ⟨rfl, rfl, rfl⟩ (fun i σ H' _ h => by rw [h.2.2]; exact SqL.of upd_same) (fun i x σ H' hx => by simp at hx) ?_
      rintro σ H' ⟨_, rfl, rfl⟩
      refine ⟨.ref pf, rfl, pf, _, rfl, .inl ⟨SqL.of ((upd_ne npz.symm).trans e0), fun t ht => ?_⟩⟩
      exact q _ t [] [] ((s0.trans (same_new hz)).trans (same_new ht)) upd_same (PairsAt.nil _) (fun _ => rfl) (fun h => absurd rfl h) (Nat.zero_le _)
    · have lp : 0 < rs.length := List.length_pos_iff.mpr hn
      refine ⟨_, rfl, ite2 (fun _ => ?_) fun c => absurd (decide_eq_true (show (0 : Int) < (rs.length : Nat) by omega)) c⟩
      refine ⟨.ref a, rfl, a, as, rs, L, rfl, R.up s0, O, fun H2 qz sz s2 fz e2 asc mem lz => ?_⟩
      have S : Szs rs sz := ⟨asc, mem⟩
      refine ⟨qz, rfl, ⟨_, SqL.of e2⟩, ?_⟩
      have sB : Same H (EaS.del H2 pf) := EaS.same_del hpf (s0.trans s2)
      have epf : H2 pf = some (.lst []) := s2 _ _ upd_same
      have nqf : qz ≠ pf := fun z => by subst z; rw [upd_same] at fz; cases fz
      have eB : EaS.del H2 pf qz = some (.lst (sz.map V.int)) := EaS.del_at e2 nqf
      refine for_list (xs := sz.map V.int) (fun i σ H' => ∃ (ts : List Addr) (l : List (Int × Nat)) (v2 v3 : Option V), σ = [some (.ref a), some (.ref pf), v2, v3] ∧ Same (EaS.del H2 pf) H' ∧ H' pf = some (.lst (ts.map V.ref)) ∧ PairsAt H' ts l ∧ l.length ≤ i ∧ (i = 0 → l = []) ∧ ∀ k, i = k + 1 → ∃ top, sz[k]? = some top ∧ Rw.Found (Rw.bst rs) l top)
        ⟨[], [], none, none, rfl, EaS.del_same fun _ _ _ e => e, epf, PairsAt.nil _, Nat.le_refl _, fun _ => rfl, fun k h => by cases h⟩ (fun i σ H' _ h => by obtain ⟨_, _, _, _, _, h, _⟩ := h; exact SqL.of (h _ _ eB)) ?_ ?_
      · rintro i x σ H3 hx ⟨ts, l, v2, v3, rfl, s3, e3, p3, l3, z3, f3⟩
        obtain ⟨t, ht, rfl⟩ := get_mapI hx
        have t0 := S.pos (List.mem_of_getElem? ht)
        have t1 : t ≤ 2 ^ 52 := by
          rcases (S.mem t).mp (List.mem_of_getElem? ht) with z | z
          · omega
          · exact turn_le O z.2
        refine ⟨.ref a, rfl, .int t, rfl, a, as, rs, t, rfl, (R.up sB).up s3, hn, few, by omega, by omega, fun H4 s4 => ?_⟩
        refine ⟨.ref pf, rfl, ?_⟩
        refine ⟨by show 0 ≤ sizeLine; decide, fun e he => ?_⟩
        have s5 := s4.trans (same_new (o := .lst []) he)
        have e5 := s5 _ _ e3
        have p5 := p3.up s5
        refine ⟨.list (l.map pD), .list [], .lst (SqL.of e5) p5.all, .lst (SqL.of upd_same) .nil, shaped_pairs l, shaped_pairs [], ?_⟩
        rw [eqv_nil]
        have s35 := s3.trans s5
        have dpf : EaS.del H2 pf pf = none := EaS.del_self
        have tsl : ts.length = l.length := p5.len
        have iL := lt_of_get ht
        have small : (ts.map V.ref).length < sizeLine := by rw [List.length_map]; exact Nat.lt_of_lt_of_le (show ts.length < 5000 by omega) (by decide)
        rcases Nat.eq_zero_or_pos i with z | z
        · subst z
          have l0 := z3 rfl
          subst l0
          have tz : t = 0 := S.zero ht
          subst tz
          refine ⟨_, rfl, ite2 (fun _ => ite2 (fun _ => ?_) fun c => absurd rfl c) fun c => absurd (by decide) c⟩
          refine ⟨.ref pf, rfl, .inl ⟨rfl, _, SqL.of e5⟩, _, rfl, _, rfl, by show 2 ≤ sizeLine; decide, fun tp htp => ⟨pf, _, _, rfl, rfl, ?_, small, ?_⟩⟩
          · rw [upd_ne (ne_of_none e5 htp)]; exact e5
          · obtain ⟨k1, k2, k3⟩ := app_ok 0 (Rw.bst rs 0) s35 dpf e5 p5 htp
            refine ⟨ts ++ [tp], [(0, Rw.bst rs 0)], _, _, rfl, k1, k2, k3, Nat.le_refl _, fun h => by omega, fun k hk => ?_⟩
            have : k = 0 := by omega
            subst this
            exact ⟨0, ht, Rw.Found.first _⟩
        · obtain ⟨k, rfl⟩ : ∃ k, i = k + 1 := ⟨i - 1, by omega⟩
          obtain ⟨top, htop, F⟩ := f3 k rfl
          obtain ⟨pl, hpl, hpb⟩ := F.last
          have lne : l ≠ [] := fun z => by rw [z] at hpl; cases hpl
          have top0 := S.pos (List.mem_of_getElem? htop)
          have ltt : top < t := asc_lt S.asc (Nat.lt_succ_self k) htop ht
          have F' := F.next top0 ltt fun x h1 h2 => S.gap htop ht h1 h2
          have lpos : 0 < l.length := List.length_pos_iff.mpr lne
          have hlast : l[l.length - 1]? = some pl := by rw [← List.getLast?_eq_getElem?]; exact hpl
          obtain ⟨tl, htl⟩ : ∃ tl, ts[l.length - 1]? = some tl := ⟨_, List.getElem?_eq_getElem (by omega)⟩
          have etl := p5.at_ _ _ _ htl hlast
          refine ⟨_, rfl, ite2 (fun c => absurd (of_decide_eq_true c) lne) fun _ => ?_⟩
          have ha : atI (ts.map V.ref) (-(1 : Int)) = some (.ref tl) := by
            rw [at_last (by rw [List.length_map]; omega), List.length_map, tsl, List.getElem?_map, htl]; rfl
          refine ⟨.ref pf, rfl, 1, rfl, pf, _, _, _, rfl, rfl, SqL.of e5, ha, tl, _, 1, _, rfl, rfl, SqT.of etl, rfl, .int _, rfl, rfl, _, rfl, ?_⟩
          rw [dec_int]
          refine ite2 (fun c => ?_) fun c => ?_
          · have c' : ¬ pl.2 = Rw.bst rs t := fun z => by rw [z] at c; simp at c
            rw [if_pos ⟨pl, hpl, c'⟩] at F'
            refine ⟨.ref pf, rfl, .inl ⟨rfl, _, SqL.of e5⟩, _, rfl, _, rfl, by show 2 ≤ sizeLine; decide, fun tp htp => ⟨pf, _, _, rfl, rfl, ?_, small, ?_⟩⟩
            · rw [upd_ne (ne_of_none e5 htp)]; exact e5
            · obtain ⟨k1, k2, k3⟩ := app_ok t (Rw.bst rs t) s35 dpf e5 p5 htp
              refine ⟨ts ++ [tp], l ++ [(t, Rw.bst rs t)], _, _, rfl, k1, k2, k3, by rw [List.length_append]; exact Nat.succ_le_succ l3, fun h => by omega, fun k' hk => ?_⟩
              have : k' = k + 1 := by omega
              subst this
              exact ⟨t, ht, F'⟩
          · have c' : ((pl.2 : Nat) : Int) = (Rw.bst rs t : Nat) := by
              apply Classical.byContradiction
              intro z
              exact c (by rw [beq_eq_false_iff_ne.mpr z]; rfl)
            rw [if_neg (by
              rintro ⟨p', h1, h2⟩
              rw [hpl] at h1; cases h1
              exact h2 (by omega))] at F'
            refine ⟨ts, l, _, _, rfl, s35, e5, p5, by omega, fun h => by omega, fun k' hk => ?_⟩
            have : k' = k + 1 := by omega
            subst this
            exact ⟨t, ht, F'⟩
      · rintro σ H3 ⟨ts, l, v2, v3, rfl, s3, e3, p3, l3, z3, f3⟩
        rw [List.length_map] at l3 z3 f3
        refine ⟨.ref pf, rfl, pf, _, rfl, .inl ⟨SqL.of e3, fun t ht => ?_⟩⟩
        obtain ⟨n, hn0⟩ : ∃ n, sz.length = n + 1 := by
          have : sz ≠ [] := fun z => by have := (S.mem 0).mpr (.inl rfl); rw [z] at this; cases this
          have := List.length_pos_iff.mpr this
          exact ⟨sz.length - 1, by omega⟩
        obtain ⟨top, htop, F⟩ := f3 n hn0
        refine q _ t ts l ((sB.trans s3).trans (same_new ht)) upd_same (p3.up (same_new ht)) (fun z => absurd z hn) (fun _ => F.due (fun x hx => S.past htop hn0 hx) (S.pos (List.mem_of_getElem? htop))) (by omega)
end
end Ea
set_option maxRecDepth 100000
set_option maxHeartbeats 4000000
namespace Ea
open PySem PySem.Spec PyProof.Rows L2
section
variable {P : Program} {w : World} {K : PySem.W.Frag} {mg : Str → Option Value} {base : Heap}
/-! ### the deal -/
/-- a deal: a list of the great cells that are left, and the mix -/
def DealAt (H : Hp) (d q : Addr) : Prop := d ≠ q ∧ ∃ (cells : List Int) (mix : Int), H d = some (.lst [.ref q, .int mix]) ∧ H q = some (.lst (cells.map V.int)) ∧ (∀ c ∈ cells, 0 ≤ c) ∧ 0 ≤ mix ∧ mix < 2147483647 ∧ cells.length ≤ 63
/-- nothing else has changed -/
def But2 (d q : Addr) (H H' : Hp) : Prop := ∀ b o, b ≠ d → b ≠ q → H b = some o → H' b = some o
theorem But2.trans {d q : Addr} {H H' H'' : Hp} (h : But2 d q H H') (k : But2 d q H' H'') : But2 d q H H'' := fun b o h1 h2 e => k b o h1 h2 (h b o h1 h2 e)
theorem But2.of {d q : Addr} {H H' : Hp} (h : Same H H') : But2 d q H H' := fun b o _ _ e => h b o e
abbrev s__law_any : Stmt := topS 24
abbrev N__law_any : List Str := ["deal", "bound", "rest"]
theorem S__law_any : FnScope N__law_any ["deal", "bound"] (defScope s__law_any) := ⟨rfl, rfl, rfl, by decide +kernel, rfl, by decide +kernel, by decide +kernel⟩
def spAny : Sp := fun vs H Q _ => ∃ (d q : Addr) (b : Int), vs = [.ref d, .int b] ∧ DealAt H d q ∧ 0 < b ∧ b < 1073741824 ∧ ∀ H' r, DealAt H' d q → But2 d q H H' → 0 ≤ r → r < b → Q (.int r) H'
theorem at_lastI {cs : List Int} {c : Int} : atI ((cs ++ [c]).map V.int) (-(1 : Int)) = some (.int c) := by
  rw [at_last (by rw [List.length_map, List.length_append]; exact Nat.succ_pos _), List.length_map, List.length_append, List.map_append]
  show (cs.map V.int ++ [V.int c])[cs.length + 1 - 1]? = _
  rw [Nat.add_sub_cancel, List.getElem?_append_right (by rw [List.length_map]; exact Nat.le_refl _), List.length_map, Nat.sub_self]
  rfl
theorem ok__law_any {f : Addr} {fd : FuncData} (D : DefAt K mg "_law_any" s__law_any ["deal", "bound"] f fd) (T : Txt mg) : FnOk P w K mg base CX0 1 f fd ["deal", "bound"] spAny := by
  refine D.F.ok S__law_any (fun vs H Q E h => ?_) (fun cdv A outer s H vs Q E hr h => ?_)
  · obtain ⟨d, q, b, rfl, _⟩ := h
    rfl
  · obtain ⟨d, q, b, rfl, ⟨dq, cells, mix, hd, hq, c0, m0, m1, c63⟩, b0, b1, k⟩ := h
    refine ⟨_, (pss_cons (ps_while PassesOwn.never (PW.pt (pw_and (pt_cmpR op_gt (pe_callB call_len_seq (by rfl) T.n_len (by decide +kernel) (pa_cons (pe_ix ix_list (pv 0) pe_int (fun _ _ => rfl)) pa_nil)) pe_int (nomark _)) (pw_and1 (pt_cmpR op_eq (pe_ix ix_list (pe_ix ix_list (pv 0) pe_int (fun _ _ => rfl)) (pe_un un_neg pe_int) (fun _ _ => rfl)) pe_int (nomark _)))))
        (pss_one (ps_expr (pe_bm0 PySem.F.plainAttrs_list PySem.F.slot_list_pop PySem.F.type_list_pop mt_pop (pe_ix ix_list (pv 0) pe_int (fun _ _ => rfl))))))
      (pss_cons (ps_if (pt_cmpR op_gt (pe_callB call_len_seq (by rfl) T.n_len (by decide +kernel) (pa_cons (pe_ix ix_list (pv 0) pe_int (fun _ _ => rfl)) pa_nil)) pe_int (nomark _))
        (pss_cons (ps_set (i := 2) S__law_any.nd rfl (.inl rfl) (pe_callTy call_int1 (by rfl) T.n_int (by decide +kernel) (pa_cons (pe_bm0 PySem.F.plainAttrs_list PySem.F.slot_list_pop PySem.F.type_list_pop mt_pop (pe_ix ix_list (pv 0) pe_int (fun _ _ => rfl))) pa_nil)))
          (pss_cons (ps_expr (pe_bm PySem.F.plainAttrs_list PySem.F.slot_list_append PySem.F.type_list_append mt_append (pe_ix ix_list (pv 0) pe_int (fun _ _ => rfl)) (pa_cons (pe_op op_fdiv (pv 2) (pv 1)) pa_nil)))
          (pss_one (ps_ret (pe_op op_mod (pv 2) (pv 1))))))
        pss_nil)
      (pss_cons (ps_asg (pe_op op_mod (pe_callTy call_int1 (by rfl) T.n_int (by decide +kernel) (pa_cons (pe_op op_add (pe_op op_mul (pe_ix ix_list (pv 0) pe_int (fun _ _ => rfl)) pe_int) pe_int) pa_nil)) pe_int) (pg_sub (pv 0) pe_int set_list))
      (pss_one (ps_ret (pe_op op_mod (pe_callTy call_int1 (by rfl) T.n_int (by decide +kernel) (pa_cons (pe_op op_fdiv (pe_ix ix_list (pv 0) pe_int (fun _ _ => rfl)) pe_int) pa_nil)) (pv 1))))))), ?_⟩
    refine ⟨fun m σ H' => ∃ cs : List Int, σ = [some (.ref d), some (.int b), none] ∧ m = cs.length ∧ H' d = some (.lst [.ref q, .int mix]) ∧ H' q = some (.lst (cs.map V.int)) ∧ (∀ c ∈ cs, 0 ≤ c) ∧ cs.length ≤ 63 ∧ But2 d q H H', ⟨_, cells, rfl, rfl, hd, hq, c0, c63, fun _ _ _ _ e => e⟩, ?_⟩
    rintro m σ H1 ⟨cs, rfl, rfl, d1, q1, p1, l1, bt⟩
    have ix0 : atI [V.ref q, V.int mix] 0 = some (.ref q) := rfl
    have len1 : ∀ {R : VK}, R (.int (((cs.map V.int).length : Nat) : Int)) H1 → R (.int ((cs.length : Nat) : Int)) H1 := fun h => by rw [List.length_map] at h; exact h
    rcases List.eq_nil_or_concat cs with rfl | ⟨cs, c, rfl⟩
    · refine ⟨.ref d, rfl, d, _, 0, _, rfl, rfl, SqL.of d1, ix0, q, _, rfl, .inl (SqL.of q1), _, _, rfl, rfl, _, rfl, ?_⟩
      refine ite2 (fun e => absurd e (by decide)) fun _ => ?_
      refine ite2 (fun e => absurd e (by decide)) fun _ => ?_
      refine ⟨.ref d, rfl, d, _, 0, _, rfl, rfl, SqL.of d1, ix0, q, _, rfl, .inl (SqL.of q1), _, _, rfl, rfl, _, rfl, ?_⟩
      refine ite2 (fun e => absurd e (by decide)) fun _ => ?_
      refine ⟨.ref d, rfl, d, _, 1, _, rfl, rfl, SqL.of d1, rfl, _, _, rfl, rfl, .inl ⟨by omega, by omega⟩, _, _, rfl, rfl, .inl ⟨_, rfl, ?_⟩⟩
      refine ⟨_, _, rfl, rfl, by show (0 : Int) < 2147483647; decide, .ref d, rfl, d, _, 1, 1, rfl, rfl, d1, rfl, ?_⟩
      dsimp only
      have n0 : 0 ≤ (mix * 48271 + 31) % 2147483647 := Int.emod_nonneg _ (by decide)
      have n1 : (mix * 48271 + 31) % 2147483647 < 2147483647 := Int.emod_lt_of_pos _ (by decide)
      generalize hm : (mix * 48271 + 31) % 2147483647 = mx at n0 n1 ⊢
      generalize hH2 : upd H1 d (.lst ([V.ref q, .int mix].set 1 (.int mx))) = H2
      have d2 : H2 d = some (.lst [.ref q, .int mx]) := by rw [← hH2]; exact upd_same
      have q2 : H2 q = some (.lst []) := by rw [← hH2, upd_ne dq.symm]; exact q1
      refine ⟨.ref d, rfl, d, _, 1, _, rfl, rfl, SqL.of d2, rfl, _, _, rfl, rfl, ⟨by decide, by decide⟩, .inl ⟨_, rfl, .int b, rfl, _, _, rfl, rfl, b0, ?_⟩⟩
      refine k H2 _ ⟨dq, [], mx, d2, q2, (fun x h => by simp at h), n0, n1, Nat.zero_le _⟩ (bt.trans fun a o h1 h2 e => ?_) (Int.emod_nonneg _ (by omega)) (Int.emod_lt_of_pos _ b0)
      rw [← hH2, upd_ne h1]; exact e
    · rw [List.concat_eq_append] at *
      have cl : ((cs ++ [c]).map V.int).length = cs.length + 1 := by rw [List.length_map, List.length_append]; rfl
      have dl : ((cs ++ [c]).map V.int).dropLast = cs.map V.int := by rw [List.map_append]; exact List.dropLast_concat
      have gl : ((cs ++ [c]).map V.int)[((cs ++ [c]).map V.int).length - 1]? = some (.int c) := by
        rw [cl, Nat.add_sub_cancel, List.map_append, List.getElem?_append_right (by rw [List.length_map]; exact Nat.le_refl _), List.length_map, Nat.sub_self]; rfl
      have l63 : cs.length + 1 ≤ 63 := by rw [List.length_append] at l1; exact l1
      have cp : 0 ≤ c := p1 c (by simp)
      refine ⟨.ref d, rfl, d, _, 0, _, rfl, rfl, SqL.of d1, ix0, q, _, rfl, .inl (SqL.of q1), _, _, rfl, rfl, _, rfl, ?_⟩
      refine ite2 (fun _ => ?_) fun e => absurd (by rw [cl]; exact decide_eq_true (by omega)) e
      refine ⟨.ref d, rfl, d, _, 0, _, rfl, rfl, SqL.of d1, ix0, 1, rfl, q, _, _, _, rfl, rfl, SqL.of q1, at_lastI, rfl, _, rfl, ?_⟩
      refine ite2 (fun _ => ?_) fun e => ?_
      · refine ⟨fun σ H' => ∃ cs' : List Int, σ = [some (.ref d), some (.int b), none] ∧ cs'.length < (cs ++ [c]).length ∧ H' d = some (.lst [.ref q, .int mix]) ∧ H' q = some (.lst (cs'.map V.int)) ∧ (∀ c ∈ cs', 0 ≤ c) ∧ cs'.length ≤ 63 ∧ But2 d q H H', ?_, ?_⟩
        · rintro σ' H' ⟨cs', rfl, l', h1, h2, h3, h4, h5⟩
          exact ⟨cs'.length, l', cs', rfl, rfl, h1, h2, h3, h4, h5⟩
        · refine ⟨.ref d, rfl, d, _, 0, _, rfl, rfl, SqL.of d1, ix0, .inl ⟨rfl, _, SqL.of q1⟩, q, _, _, rfl, rfl, q1, gl, ?_⟩
          rw [dl]
          refine ⟨cs, rfl, by rw [List.length_append]; exact Nat.lt_succ_self _, (upd_ne dq).trans d1, upd_same, fun x hx => p1 x (List.mem_append_left _ hx), by omega, bt.trans fun a o h1 h2 e => ?_⟩
          rw [upd_ne h2]; exact e
      · refine ⟨.ref d, rfl, d, _, 0, _, rfl, rfl, SqL.of d1, ix0, q, _, rfl, .inl (SqL.of q1), _, _, rfl, rfl, _, rfl, ?_⟩
        refine ite2 (fun _ => ?_) fun e => absurd (by rw [cl]; exact decide_eq_true (by omega)) e
        refine ⟨.ref d, rfl, d, _, 0, _, rfl, rfl, SqL.of d1, ix0, .inl ⟨rfl, _, SqL.of q1⟩, q, _, _, rfl, rfl, q1, gl, .inl ⟨c, rfl, ?_⟩⟩
        rw [dl]
        generalize hH2 : upd H1 q (.lst (cs.map V.int)) = H2
        have d2 : H2 d = some (.lst [.ref q, .int mix]) := by rw [← hH2, upd_ne dq]; exact d1
        have q2 : H2 q = some (.lst (cs.map V.int)) := by rw [← hH2]; exact upd_same
        refine ⟨.ref d, rfl, d, _, 0, _, rfl, rfl, SqL.of d2, ix0, .inl ⟨rfl, _, SqL.of q2⟩, .int c, rfl, .int b, rfl, _, _, rfl, rfl, ⟨b0, b1⟩, q, _, _, rfl, rfl, q2, small1000 (by rw [List.length_map]; omega), ?_⟩
        refine ⟨.int c, rfl, .int b, rfl, _, _, rfl, rfl, b0, ?_⟩
        refine k _ _ ⟨dq, cs ++ [c / b], mix, (upd_ne dq).trans d2, by rw [upd_same, List.map_append]; rfl, fun x hx => ?_, m0, m1, by rw [List.length_append]; exact l63⟩ (bt.trans fun a o h1 h2 e => ?_) (Int.emod_nonneg _ (by omega)) (Int.emod_lt_of_pos _ b0)
        · rcases List.mem_append.mp hx with hx | hx
          · exact p1 x (List.mem_append_left _ hx)
          · rw [List.mem_singleton] at hx; subst hx; exact Int.ediv_nonneg cp (by omega)
        · rw [upd_ne h2, ← hH2, upd_ne h2]; exact e
end
end Ea
set_option maxRecDepth 100000
set_option maxHeartbeats 4000000
namespace Ea
open PySem PySem.Spec PyProof.Rows L2
section
variable {P : Program} {w : World} {K : PySem.W.Frag} {mg : Str → Option Value} {base : Heap}
abbrev s__law_worth_of : Stmt := topS 29
abbrev N__law_worth_of : List Str := ["row", "size", "found", "number"]
theorem S__law_worth_of : FnScope N__law_worth_of ["row", "size"] (defScope s__law_worth_of) := ⟨rfl, rfl, rfl, by decide +kernel, rfl, by decide +kernel, by decide +kernel⟩
theorem ok__law_worth_of {f : Addr} {fd : FuncData} (D : DefAt K mg "_law_worth_of" s__law_worth_of ["row", "size"] f fd) (T : Txt mg) : FnOk P w K mg base CX0 1 f fd ["row", "size"] (spWorth K) := by
  refine D.F.ok S__law_worth_of (fun vs H Q E h => ?_) (fun cdv A outer s H vs Q E hr h => ?_)
  · obtain ⟨a, ns, x, rfl, _⟩ := h
    rfl
  · obtain ⟨a, ns, x, rfl, hT, b1, b2, q⟩ := h
    refine ⟨_, (pss_cons (ps_set (i := 2) S__law_worth_of.nd rfl (.inl rfl) pe_int)
      (pss_cons (ps_for PassesOwn.never rfl (pi_list (pe_revL (pe_callTy call_list_of (by rfl) T.n_list (by decide +kernel) (pa_cons (pv 0) pa_nil)))) (pg_name (i := 3) S__law_worth_of.nd rfl (.inl rfl))
        (pss_one (ps_set (i := 2) S__law_worth_of.nd rfl (.inl rfl) (pe_op op_add (pe_op op_mul (pv 2) (pv 1)) (pv 3)))))
      (pss_one (ps_ret (pv 2))))), ?_⟩
    refine ⟨.ref a, rfl, a, _, rfl, .inr hT, fun l hl => ⟨l, _, rfl, SqL.of upd_same, fun p hp => ⟨p, rfl, ⟨_, SqL.of upd_same⟩, ?_⟩⟩⟩
    rw [← List.map_reverse]
    have sm := (same_new (o := .lst (ns.map V.int)) hl).trans (same_new (o := .lst (ns.reverse.map V.int)) hp)
    have ep : upd (upd H l (.lst (ns.map V.int))) p (.lst (ns.reverse.map V.int)) p = some (.lst (ns.reverse.map V.int)) := upd_same
    generalize upd (upd H l (.lst (ns.map V.int))) p (.lst (ns.reverse.map V.int)) = H2 at sm ep ⊢
    refine for_list (xs := ns.reverse.map V.int) (fun i σ H' => ∃ v, σ = [some (.ref a), some (.int x), some (.int ((ns.reverse.take i).foldl (Rw.hstep x) 0)), v] ∧ H' = H2)
      ⟨none, rfl, rfl⟩ (fun i σ H' _ h => by obtain ⟨_, _, rfl⟩ := h; exact SqL.of ep) ?_ ?_
    · rintro i y σ H' hy ⟨v, rfl, rfl⟩
      obtain ⟨n, hn, rfl⟩ := get_mapI hy
      refine ⟨_, rfl, _, rfl, _, _, rfl, rfl, .inr ⟨b1, b2⟩, _, rfl, _, _, rfl, rfl, ?_⟩
      exact ⟨_, by rw [Rw.fold_next hn]; rfl, rfl⟩
    · rintro σ H' ⟨v, rfl, rfl⟩
      refine ⟨_, rfl, ?_⟩
      rw [List.length_map, List.take_length, Rw.worth_fold]
      exact q _ sm
abbrev s__law_deal : Stmt := topS 23
abbrev N__law_deal : List Str := ["script", "salt", "most", "cell", "cells", "mix"]
theorem S__law_deal : FnScope N__law_deal ["script", "salt"] (defScope s__law_deal) := ⟨rfl, rfl, rfl, by decide +kernel, rfl, by decide +kernel, by decide +kernel⟩
def spDeal (K : PySem.W.Frag) : Sp := fun vs H Q _ => ∃ (a : Addr) (ns : List Int) (salt : Int), vs = [.ref a, .int salt] ∧ SqL K H a (ns.map V.int) ∧ ns.length ≤ 63 ∧ 0 ≤ salt ∧ salt ≤ 1000 ∧ ∀ H' d q, Same H H' → DealAt H' d q → H d = none → H q = none → Q (.ref d) H'
theorem ok__law_deal {f : Addr} {fd : FuncData} (D : DefAt K mg "_law_deal" s__law_deal ["script", "salt"] f fd) (T : Txt mg) : FnOk P w K mg base CX0 1 f fd ["script", "salt"] (spDeal K) := by
  refine D.F.ok S__law_deal (fun vs H Q E h => ?_) (fun cdv A outer s H vs Q E hr h => ?_)
  · obtain ⟨a, ns, salt, rfl, _⟩ := h
    rfl
  · obtain ⟨a, ns, salt, rfl, hA, l63, b0, b1, k⟩ := h
    refine ⟨_, (pss_cons (ps_set (i := 2) S__law_deal.nd rfl (.inr rfl) (pe_op op_mulW (pe_op op_mulW (pe_op op_mulW (pe_op op_mulW (pe_op op_mulW (pe_op op_pow pe_int pe_int) (pe_op op_pow pe_int pe_int)) (pe_op op_pow pe_int pe_int)) (pe_op op_pow pe_int pe_int)) (pe_op op_pow pe_int pe_int)) (pe_op op_pow pe_int pe_int)))
      (pss_cons (ps_par (i := 4) (j := 5) rfl S__law_deal.nd rfl rfl (by decide) rfl rfl (pa_cons (pe_lc (own := [("cell", 3)]) rfl S__law_deal.nd (pi_list (pe_slice sl_list (pv 0) po_none (po_some pe_int))) (blkOk_by (own := [("cell", 3)]) (N := N__law_deal) (sc := defScope s__law_deal) (by decide +kernel)) (fun _ _ _ _ _ => (pg_name (i := 3) S__law_deal.nd rfl (.inl rfl))) (fun _ _ _ _ _ => pts_nil) (fun _ _ _ _ _ => (pe_op op_mod (pe_callTy call_int1 (by rfl) T.n_int (by decide +kernel) (pa_cons (pe_callB call_abs (by rfl) T.n_abs (by decide +kernel) (pa_cons (pe_callTy call_int1 (by rfl) T.n_int (by decide +kernel) (pa_cons (pv 3) pa_nil)) pa_nil)) pa_nil)) (pv 2)))) (pa_cons (pe_op op_add pe_int (pe_op op_mul pe_int (pv 1))) pa_nil)) (by rfl))
      (pss_cons (ps_for PassesOwn.never rfl (pi_list (pv 4)) (pg_name (i := 3) S__law_deal.nd rfl (.inl rfl))
        (pss_one (ps_set (i := 5) S__law_deal.nd rfl (.inl rfl) (pe_op op_mod (pe_callTy call_int1 (by rfl) T.n_int (by decide +kernel) (pa_cons (pe_op op_add (pe_op op_add (pe_op op_mul (pv 5) pe_int) (pe_op op_mod (pe_callTy call_int1 (by rfl) T.n_int (by decide +kernel) (pa_cons (pv 3) pa_nil)) pe_int)) pe_int) pa_nil)) pe_int))))
      (pss_one (ps_ret (pe_lst (pa_cons (pe_revL (pe_lc (own := [("cell", 3)]) rfl S__law_deal.nd (pi_list (pv 4)) (blkOk_by (own := [("cell", 3)]) (N := N__law_deal) (sc := defScope s__law_deal) (by decide +kernel)) (fun _ _ _ _ _ => (pg_name (i := 3) S__law_deal.nd rfl (.inl rfl))) (fun _ _ _ _ _ => (pts_one (pt_cmpR op_ge (pv 3) (pe_op op_pow pe_int pe_int) (nomark _)))) (fun _ _ _ _ _ => (pv 3)))) (pa_cons (pv 5) pa_nil)))))))), ?_⟩
    have cp : CPow 10 64 := ⟨by decide, by decide, by decide⟩
    refine ⟨_, _, rfl, rfl, cp, _, _, rfl, rfl, cp, _, _, rfl, rfl, by show _ < _; decide +kernel, _, _, rfl, rfl, cp, _, _, rfl, rfl, by show _ < _; decide +kernel, _, _, rfl, rfl, cp, _, _, rfl, rfl, by show _ < _; decide +kernel, _, _, rfl, rfl, cp, _, _, rfl, rfl, by show _ < _; decide +kernel, _, _, rfl, rfl, cp, _, _, rfl, rfl, by show _ < _; decide +kernel, ?_⟩
    dsimp only
    have mp : (0 : Int) < 10 ^ (64 : Int).toNat * 10 ^ (64 : Int).toNat * 10 ^ (64 : Int).toNat * 10 ^ (64 : Int).toNat * 10 ^ (64 : Int).toNat * 10 ^ (64 : Int).toNat := by decide +kernel
    generalize (10 : Int) ^ (64 : Int).toNat * 10 ^ (64 : Int).toNat * 10 ^ (64 : Int).toNat * 10 ^ (64 : Int).toNat * 10 ^ (64 : Int).toNat * 10 ^ (64 : Int).toNat = M at mp ⊢
    refine ⟨.ref a, rfl, 63, rfl, a, _, rfl, hA, fun p hp => ⟨p, rfl, ⟨_, SqL.of upd_same⟩, fun d hd => ?_⟩⟩
    have sp := same_new (o := .lst (cutV (ns.map V.int) none (some 63))) hp
    obtain ⟨xs, hxs, lxs⟩ : ∃ xs : List Int, cutV (ns.map V.int) none (some 63) = xs.map V.int ∧ xs.length ≤ 63 := by
      refine ⟨ns, cut_whole _ _ _ ⟨rfl, ?_⟩, l63⟩
      have h := HT.sIx_nat (ns.map V.int).length (ns.map V.int).length 63
      rw [Nat.min_eq_right (by rw [List.length_map]; exact l63)] at h
      exact h
    rw [hxs] at sp hd ⊢
    have ep : upd H p (.lst (xs.map V.int)) p = some (.lst (xs.map V.int)) := upd_same
    generalize upd H p (.lst (xs.map V.int)) = H1 at sp hd ep ⊢
    refine lc_list (xs := xs.map V.int) (fun i H' => ∃ cs : List Int, Same H1 H' ∧ H' d = some (.lst (cs.map V.int)) ∧ (∀ c ∈ cs, 0 ≤ c) ∧ cs.length = i) ⟨[], same_new hd, upd_same, (fun x h => by simp at h), rfl⟩ (fun i H' _ h => by obtain ⟨_, h, _⟩ := h; exact SqL.of (h _ _ ep)) ?_ ?_
    · rintro i y H' hy ⟨cs, s1, e1, c1, l1⟩
      obtain ⟨n, hn, rfl⟩ := get_mapI hy
      have := lt_of_get hy
      rw [List.length_map] at this
      refine ⟨rfl, .int n, rfl, .inl ⟨n, rfl, n, rfl, .inl ⟨_, rfl, .int M, rfl, _, _, rfl, rfl, mp, _, e1, small1000 (by rw [List.length_map]; omega), ?_⟩⟩⟩
      refine ⟨cs ++ [(if n < 0 then -n else n) % M], fun b o e => ?_, by rw [upd_same, List.map_append]; rfl, fun x hx => ?_, by rw [List.length_append, l1]; rfl⟩
      · rw [upd_ne (ne_of_none e hd)]; exact s1 _ _ e
      · rcases List.mem_append.mp hx with hx | hx
        · exact c1 x hx
        · rw [List.mem_singleton] at hx; subst hx; exact Int.emod_nonneg _ (by omega)
    · rintro H2 ⟨cs, s1, e1, c1, l1⟩
      have l63' : cs.length ≤ 63 := by rw [l1, List.length_map]; exact lxs
      refine ⟨.int salt, rfl, _, _, rfl, rfl, .inl ⟨by decide, by decide⟩, _, _, rfl, rfl, .ref d, _, rfl, ?_⟩
      refine ⟨.ref d, rfl, d, rfl, ⟨_, SqL.of e1⟩, ?_⟩
      refine for_list (xs := cs.map V.int) (fun i σ H' => H' = H2 ∧ ∃ (v : Option V) (mix : Int), σ = [some (.ref a), some (.int salt), some (.int M), v, some (.ref d), some (.int mix)] ∧ 0 ≤ mix ∧ mix < 2147483647)
        ⟨rfl, none, 70001 + 7919 * salt, rfl, by omega, by omega⟩ (fun i σ H' _ h => by rw [h.1]; exact SqL.of e1) ?_ ?_
      · rintro i y σ H' hy ⟨rfl, v, mix, rfl, m0, m1⟩
        obtain ⟨n, hn, rfl⟩ := get_mapI hy
        refine ⟨.int mix, rfl, _, _, rfl, rfl, .inl ⟨by omega, by omega⟩, .int n, rfl, .inl ⟨n, rfl, _, _, rfl, rfl, by show (0 : Int) < 2147483563; decide, _, _, rfl, rfl, _, _, rfl, rfl, .inl ⟨_, rfl, _, _, rfl, rfl, by show (0 : Int) < 2147483647; decide, ?_⟩⟩⟩
        exact ⟨rfl, _, _, rfl, Int.emod_nonneg _ (by decide), Int.emod_lt_of_pos _ (by decide)⟩
      · rintro σ H' ⟨rfl, v, mix, rfl, m0, m1⟩
        refine ⟨.ref d, rfl, d, rfl, ⟨_, SqL.of e1⟩, fun g hg => ?_⟩
        refine lc_list (xs := cs.map V.int) (fun i H3 => ∃ gs : List Int, Same H' H3 ∧ H3 g = some (.lst (gs.map V.int)) ∧ (∀ c ∈ gs, 0 ≤ c) ∧ gs.length ≤ i) ⟨[], same_new hg, upd_same, (fun x h => by simp at h), Nat.le_refl _⟩ (fun i H3 _ h => by obtain ⟨_, h, _⟩ := h; exact SqL.of (h _ _ e1)) ?_ ?_
        · rintro i y H3 hy ⟨gs, s3, e3, c3, l3⟩
          obtain ⟨n, hn, rfl⟩ := get_mapI hy
          have := lt_of_get hy
          rw [List.length_map] at this
          refine ⟨rfl, .int n, rfl, _, _, rfl, rfl, ⟨by decide, by decide, by decide⟩, _, _, rfl, rfl, _, rfl, ?_⟩
          refine ite2 (fun _ => ?_) fun _ => ⟨gs, s3, e3, c3, Nat.le_succ_of_le l3⟩
          refine ⟨.int n, rfl, _, e3, small1000 (by rw [List.length_map]; omega), ?_⟩
          refine ⟨gs ++ [n], fun b o e => ?_, by rw [upd_same, List.map_append]; rfl, fun x hx => ?_, by rw [List.length_append]; exact Nat.succ_le_succ l3⟩
          · rw [upd_ne (ne_of_none e hg)]; exact s3 _ _ e
          · rcases List.mem_append.mp hx with hx | hx
            · exact c3 x hx
            · rw [List.mem_singleton] at hx; subst hx; exact c1 _ (List.mem_of_getElem? hn)
        · rintro H3 ⟨gs, s3, e3, c3, l3⟩
          rw [List.length_map] at l3
          refine ⟨g, _, rfl, SqL.of e3, fun u hu => ⟨.int mix, rfl, by show 2 ≤ sizeLine; decide, fun z hz => ?_⟩⟩
          rw [← List.map_reverse] at hz ⊢
          have ss := sp.trans (s1.trans s3)
          have nzu : z ≠ u := (ne_of_none (upd_same (a := u)) hz).symm
          have s4 := (ss.trans (same_new (o := .lst (gs.reverse.map V.int)) hu))
          refine k _ z u (s4.trans (same_new hz)) ⟨nzu, gs.reverse, mix, upd_same, (upd_ne nzu.symm).trans upd_same, fun x hx => c3 x (List.mem_reverse.mp hx), m0, m1, by rw [List.length_reverse]; omega⟩ (s4.free hz) (ss.free hu)
end
end Ea
set_option maxRecDepth 100000
set_option maxHeartbeats 4000000
namespace Ea
open PySem PySem.Spec PyProof.Rows L2
/-- the classes of the top: none of them is that of an int or a tuple -/
structure Cls (K : PySem.W.Frag) (mg : Str → Option Value) : Prop where
  c_Finding : ∃ C, mg "Finding" = some (.ref C) ∧ PySem.W.kitOne K (.type "int") (.ref C) = some false ∧ PySem.W.kitOne K (.type "tuple") (.ref C) = some false
  c_NamesAnswer : ∃ C, mg "NamesAnswer" = some (.ref C) ∧ PySem.W.kitOne K (.type "int") (.ref C) = some false ∧ PySem.W.kitOne K (.type "tuple") (.ref C) = some false
  c_LevelsAnswer : ∃ C, mg "LevelsAnswer" = some (.ref C) ∧ PySem.W.kitOne K (.type "int") (.ref C) = some false ∧ PySem.W.kitOne K (.type "tuple") (.ref C) = some false
  c_TongueAnswer : ∃ C, mg "TongueAnswer" = some (.ref C) ∧ PySem.W.kitOne K (.type "int") (.ref C) = some false ∧ PySem.W.kitOne K (.type "tuple") (.ref C) = some false
  c_Web : ∃ C, mg "Web" = some (.ref C) ∧ PySem.W.kitOne K (.type "int") (.ref C) = some false ∧ PySem.W.kitOne K (.type "tuple") (.ref C) = some false
section
variable {P : Program} {w : World} {K : PySem.W.Frag} {mg : Str → Option Value} {base : Heap}
/-- an int or a tuple that was laid here -/
inductive IT (H : Hp) : V → String → Prop where
  | int (i : Int) : IT H (.int i) "int"
  | tup {a : Addr} {xs : List V} (e : H a = some (.tup xs)) : IT H (.ref a) "tuple"
theorem IT.ty {H : Hp} {x : V} {n : String} (h : IT H x n) : TyX K H x (.type n) := by
  cases h with
  | int i => exact .base (.int i)
  | tup e => exact .base (.tup e)
theorem IT.up {H H' : Hp} {x : V} {n : String} (h : IT H x n) (s : Same H H') : IT H' x n := by
  cases h with
  | int i => exact .int i
  | tup e => exact .tup (s _ _ e)
theorem IT.one {H : Hp} {x : V} {n : String} (h : IT H x n) {C : Value} (k : PySem.W.kitOne K (.type "int") C = some false ∧ PySem.W.kitOne K (.type "tuple") C = some false) : PySem.W.kitOne K (.type n) C = some false := by
  cases h with
  | int i => exact k.1
  | tup e => exact k.2
theorem kit2 {t c d : Value} (h1 : PySem.W.kitOne K t c = some false) (h2 : PySem.W.kitOne K t d = some false) : PySem.W.kitAny K t [c, d] = some false := by
  unfold PySem.W.kitAny
  rw [h1]
  show PySem.W.kitAny K t [d] = _
  unfold PySem.W.kitAny
  rw [h2]
  rfl
abbrev s__law_plain : Stmt := topS 28
abbrev N__law_plain : List Str := ["value"]
theorem S__law_plain : FnScope N__law_plain ["value"] (defScope s__law_plain) := ⟨rfl, rfl, rfl, by decide +kernel, rfl, by decide +kernel, by decide +kernel⟩
def spPlain : Sp := fun vs H Q _ => ∃ (x : V) (n : String), vs = [x] ∧ IT H x n ∧ ∀ H', Same H H' → Q x H'
theorem ok__law_plain {f : Addr} {fd : FuncData} (D : DefAt K mg "_law_plain" s__law_plain ["value"] f fd) (C : Cls K mg) (T : Txt mg) : FnOk P w K mg base CX0 1 f fd ["value"] spPlain := by
  obtain ⟨c1, g1, k1⟩ := C.c_Finding
  obtain ⟨c2, g2, k2⟩ := C.c_NamesAnswer
  obtain ⟨c3, g3, k3⟩ := C.c_LevelsAnswer
  obtain ⟨c4, g4, k4⟩ := C.c_TongueAnswer
  obtain ⟨c5, g5, k5⟩ := C.c_Web
  refine D.F.ok S__law_plain (fun vs H Q E h => ?_) (fun cdv A outer s H vs Q E hr h => ?_)
  · obtain ⟨x, n, rfl, _⟩ := h
    rfl
  · obtain ⟨x, n, rfl, it, q⟩ := h
    refine ⟨_, (pss_cons (ps_if (pt_val (pe_callB call_isi (by rfl) T.n_isinstance (by decide +kernel) (pa_cons (pv 0) (pa_cons (pe_glob (v := .ref c1) (by rfl) g1 rfl) pa_nil))))
        (pss_one (ps_ret (pe_tup (pa_cons pe_str (pa_cons EaR.pe_never (pa_cons EaR.pe_never pa_nil))))))
        pss_nil)
      (pss_cons (ps_if (pt_val (pe_callB call_isiT (by rfl) T.n_isinstance (by decide +kernel) (pa_cons (pv 0) (pa_cons (pe_tup (pa_cons (pe_glob (v := .ref c2) (by rfl) g2 rfl) (pa_cons (pe_glob (v := .ref c3) (by rfl) g3 rfl) pa_nil))) pa_nil))))
        (pss_one (ps_ret (pe_tup (pa_cons (pe_ifExp (pt_val (pe_callB call_isi (by rfl) T.n_isinstance (by decide +kernel) (pa_cons (pv 0) (pa_cons (pe_glob (v := .ref c2) (by rfl) g2 rfl) pa_nil)))) pe_str pe_str) (pa_cons EaR.pe_never (pa_cons EaR.pe_never (pa_cons EaR.pe_never pa_nil)))))))
        pss_nil)
      (pss_cons (ps_if (pt_val (pe_callB call_isi (by rfl) T.n_isinstance (by decide +kernel) (pa_cons (pv 0) (pa_cons (pe_glob (v := .ref c4) (by rfl) g4 rfl) pa_nil))))
        (pss_one (ps_ret (pe_tup (pa_cons pe_str (pa_cons EaR.pe_never (pa_cons EaR.pe_never (pa_cons EaR.pe_never pa_nil)))))))
        pss_nil)
      (pss_one (ps_ret (pe_ifExp (pt_val (pe_callB call_isi (by rfl) T.n_isinstance (by decide +kernel) (pa_cons (pv 0) (pa_cons (pe_glob (v := .ref c5) (by rfl) g5 rfl) pa_nil)))) (pe_tup (pa_cons pe_str (pa_cons EaR.pe_never (pa_cons EaR.pe_never pa_nil)))) (pv 0))))))), ?_⟩
    refine ⟨x, rfl, ?_⟩
    refine ⟨x, _, _, _, false, rfl, .own c1, it.ty, it.one k1, ?_⟩
    refine ⟨_, rfl, ite2 (fun e => absurd e (by decide)) fun _ => ?_⟩
    refine ⟨x, rfl, by show 2 ≤ sizeLine; decide, fun z hz => ?_⟩
    have s1 := same_new (o := .tup [.ref c2, .ref c3]) hz
    refine ⟨x, z, _, _, [.ref c2, .ref c3], false, rfl, upd_same, .cons (.own c2) (.cons (.own c3) .nil), (it.up s1).ty, ?_, ?_⟩
    · exact kit2 (it.one k2) (it.one k3)
    refine ⟨_, rfl, ite2 (fun e => absurd e (by decide)) fun _ => ?_⟩
    refine ⟨x, rfl, ?_⟩
    refine ⟨x, _, _, _, false, rfl, .own c4, (it.up s1).ty, it.one k4, ?_⟩
    refine ⟨_, rfl, ite2 (fun e => absurd e (by decide)) fun _ => ?_⟩
    refine ⟨x, rfl, ?_⟩
    refine ⟨x, _, _, _, false, rfl, .own c5, (it.up s1).ty, it.one k5, ?_⟩
    refine ⟨_, rfl, ite2 (fun e => absurd e (by decide)) fun _ => ?_⟩
    exact ⟨x, rfl, q _ s1⟩
abbrev s__law_is_kind : Stmt := topS 25
abbrev N__law_is_kind : List Str := ["told", "due"]
theorem S__law_is_kind : FnScope N__law_is_kind ["told", "due"] (defScope s__law_is_kind) := ⟨rfl, rfl, rfl, by decide +kernel, rfl, by decide +kernel, by decide +kernel⟩
def spKind : Sp := fun vs H Q _ => ∃ i : Int, vs = [.int i, .int i] ∧ ∀ H', Same H H' → Q (.bl true) H'
theorem ok__law_is_kind {f : Addr} {fd : FuncData} (D : DefAt K mg "_law_is_kind" s__law_is_kind ["told", "due"] f fd) (T : Txt mg) : FnOk P w K mg base CX0 1 f fd ["told", "due"] spKind := by
  refine D.F.ok S__law_is_kind (fun vs H Q E h => ?_) (fun cdv A outer s H vs Q E hr h => ?_)
  · obtain ⟨i, rfl, _⟩ := h
    rfl
  · obtain ⟨i, rfl, q⟩ := h
    refine ⟨_, (pss_cons (ps_if (pt_cmp (pc_isN (pv 1)) rfl)
        (pss_one (ps_ret (pe_cmp (pc_isN (pv 0)) rfl)))
        pss_nil)
      (pss_cons (ps_if (PW.pt (pw_or (pt_cmpR EaR.op_isBlA (pv 1) pe_bl (nomark _)) (pw_or1 (pt_cmpR EaR.op_isBlA (pv 1) pe_bl (nomark _)))))
        (pss_one (ps_ret (pe_ifExp (pt_val (pv 1)) (pe_cmpR EaR.op_isBlA (pv 0) pe_bl (nomark _)) (pe_cmpR EaR.op_isBlA (pv 0) pe_bl (nomark _)))))
        pss_nil)
      (pss_cons (ps_if (pt_val (pe_callB call_isi (by rfl) T.n_isinstance (by decide +kernel) (pa_cons (pv 1) (pa_cons (pe_bltn (v := .ty "str") (u := .type "str") (by rfl) T.n_str (by decide +kernel) rfl) pa_nil))))
        (pss_one (ps_ret (pe_and (pe_callB call_isi (by rfl) T.n_isinstance (by decide +kernel) (pa_cons (pv 0) (pa_cons (pe_bltn (v := .ty "str") (u := .type "str") (by rfl) T.n_str (by decide +kernel) rfl) pa_nil))) (pe_one (pe_cmpR op_eq (pv 0) (pv 1) (nomark _))))))
        pss_nil)
      (pss_one (ps_ret (pe_and (pe_callB call_isi (by rfl) T.n_isinstance (by decide +kernel) (pa_cons (pv 0) (pa_cons (pe_bltn (v := .ty "int") (u := .type "int") (by rfl) T.n_int (by decide +kernel) rfl) pa_nil))) (pe_and (pe_not (pe_callB call_isi (by rfl) T.n_isinstance (by decide +kernel) (pa_cons (pv 0) (pa_cons (pe_bltn (v := .ty "bool") (u := .type "bool") (by rfl) T.n_bool (by decide +kernel) rfl) pa_nil)))) (pe_one (pe_cmpR op_eq (pv 0) (pv 1) (nomark _)))))))))), ?_⟩
    refine ⟨.int i, rfl, _, rfl, ite2 (fun e => by cases e) fun _ => ?_⟩
    refine ⟨.int i, rfl, true, rfl, _, rfl, ite2 (fun e => by cases of_decide_eq_true e) fun _ => ?_⟩
    refine ⟨.int i, rfl, false, rfl, _, rfl, ite2 (fun e => by cases of_decide_eq_true e) fun _ => ?_⟩
    refine ⟨.int i, rfl, .int i, .ty "str", _, _, false, rfl, .ty "str", .base (.int i), rfl, _, rfl, ite2 (fun e => by cases e) fun _ => ?_⟩
    refine ⟨.int i, rfl, .int i, .ty "int", _, _, true, rfl, .ty "int", .base (.int i), rfl, _, rfl, ite2 (fun _ => ?_) fun e => absurd rfl e⟩
    refine ⟨.int i, rfl, .int i, .ty "bool", _, _, false, rfl, .ty "bool", .base (.int i), rfl, _, rfl, _, rfl, ite2 (fun _ => ?_) fun e => absurd rfl e⟩
    refine ⟨.int i, rfl, .int i, rfl, rfl, ?_⟩
    rw [decide_eq_true (rfl : V.int i = V.int i)]
    exact q H (Same.refl H)
end
end Ea
set_option maxRecDepth 100000
set_option maxHeartbeats 4000000
namespace Ea
open PySem PySem.Spec PyProof.Rows L2
section
variable {P : Program} {w : World} {K : PySem.W.Frag} {mg : Str → Option Value} {base : Heap}
/-! ### the same data at two places: ints and tuples of such -/
mutual
inductive Eqv (H : Hp) : V → V → Nat → Prop
  | int (i : Int) : Eqv H (.int i) (.int i) 1
  | tup {a b : Addr} {xs ys : List V} {n : Nat} : H a = some (.tup xs) → H b = some (.tup ys) → EqvL H xs ys n → Eqv H (.ref a) (.ref b) (n + 1)
inductive EqvL (H : Hp) : List V → List V → Nat → Prop
  | nil : EqvL H [] [] 0
  | cons {x y : V} {xs ys : List V} {n m : Nat} : Eqv H x y n → EqvL H xs ys m → EqvL H (x :: xs) (y :: ys) (n + m)
end
mutual
theorem Eqv.keep {H H' : Hp} (k : ∀ b xs, H b = some (.tup xs) → H' b = some (.tup xs)) : ∀ {x y : V} {n : Nat}, Eqv H x y n → Eqv H' x y n
  | _, _, _, .int i => .int i
  | _, _, _, .tup e1 e2 h => .tup (k _ _ e1) (k _ _ e2) (EqvL.keep k h)
theorem EqvL.keep {H H' : Hp} (k : ∀ b xs, H b = some (.tup xs) → H' b = some (.tup xs)) : ∀ {xs ys : List V} {n : Nat}, EqvL H xs ys n → EqvL H' xs ys n
  | _, _, _, .nil => .nil
  | _, _, _, .cons h t => .cons (Eqv.keep k h) (EqvL.keep k t)
end
theorem Eqv.pos {H : Hp} {x y : V} {n : Nat} (h : Eqv H x y n) : 1 ≤ n := by
  cases h <;> omega
theorem EqvL.len {H : Hp} : ∀ {xs ys : List V} {n : Nat}, EqvL H xs ys n → xs.length = ys.length
  | _, _, _, .nil => rfl
  | _, _, _, .cons _ t => congrArg Nat.succ (EqvL.len t)
/-- what is still to be compared -/
inductive TodoL (H : Hp) : List Addr → Nat → Prop
  | nil : TodoL H [] 0
  | cons {t : Addr} {x y : V} {ts : List Addr} {n m : Nat} : H t = some (.tup [x, y]) → Eqv H x y n → TodoL H ts m → TodoL H (t :: ts) (n + m)
theorem TodoL.keep {H H' : Hp} (k : ∀ b xs, H b = some (.tup xs) → H' b = some (.tup xs)) : ∀ {ts : List Addr} {n : Nat}, TodoL H ts n → TodoL H' ts n
  | _, _, .nil => .nil
  | _, _, .cons e h t => .cons (k _ _ e) (h.keep k) (TodoL.keep k t)
theorem TodoL.len {H : Hp} : ∀ {ts : List Addr} {n : Nat}, TodoL H ts n → ts.length ≤ n
  | _, _, .nil => Nat.le_refl _
  | _, _, .cons _ h t => by
    have := TodoL.len t
    have := h.pos
    rw [List.length_cons]; omega
theorem TodoL.append {H : Hp} {us : List Addr} {m : Nat} (h2 : TodoL H us m) : ∀ {ts : List Addr} {n : Nat}, TodoL H ts n → TodoL H (ts ++ us) (n + m)
  | _, _, .nil => by rw [Nat.zero_add]; exact h2
  | _, _, .cons e h t => by
    rw [List.cons_append, Nat.add_assoc]
    exact .cons e h (TodoL.append h2 t)
theorem TodoL.last {H : Hp} {t : Addr} : ∀ {ts : List Addr} {n : Nat}, TodoL H (ts ++ [t]) n → ∃ x y n1 n2, n = n1 + n2 ∧ TodoL H ts n1 ∧ H t = some (.tup [x, y]) ∧ Eqv H x y n2
  | [], _, h => by
    cases h with
    | cons e h r =>
      cases r
      exact ⟨_, _, 0, _, by omega, .nil, e, h⟩
  | u :: ts, _, h => by
    cases h with
    | cons e h r =>
      obtain ⟨x, y, n1, n2, hn, h1, h2, h3⟩ := TodoL.last r
      exact ⟨x, y, _, n2, by rw [hn, ← Nat.add_assoc], .cons e h h1, h2, h3⟩
theorem EqvL.todo {H : Hp} : ∀ {xs ys : List V} {n : Nat} {ts : List Addr}, EqvL H xs ys n → ts.length = min xs.length ys.length → (∀ (j : Nat) (t : Addr), ts[j]? = some t → ∃ x y, xs[j]? = some x ∧ ys[j]? = some y ∧ H t = some (.tup [x, y])) → TodoL H ts n
  | _, _, _, ts, .nil, l, _ => by
    cases ts with
    | nil => exact .nil
    | cons t ts => simp at l
  | _, _, _, ts, .cons h t, l, f => by
    cases ts with
    | nil => simp at l
    | cons u ts =>
      obtain ⟨x, y, e1, e2, e⟩ := f 0 u rfl
      cases e1; cases e2
      refine .cons e h (EqvL.todo t ?_ fun j v hv => f (j + 1) v hv)
      simp only [List.length_cons] at l
      omega
theorem tupKeep {H H' : Hp} (s : Same H H') : ∀ b xs, H b = some (.tup xs) → H' b = some (.tup xs) := fun b xs e => s _ _ e
abbrev s__law_same : Stmt := topS 26
abbrev N__law_same : List Str := ["told", "due", "todo", "one", "other"]
theorem S__law_same : FnScope N__law_same ["told", "due"] (defScope s__law_same) := ⟨rfl, rfl, rfl, by decide +kernel, rfl, by decide +kernel, by decide +kernel⟩
def spSame : Sp := fun vs H Q _ => ∃ (x y : V) (n : Nat), vs = [x, y] ∧ Eqv H x y n ∧ n ≤ 20000 ∧ ∀ H', Same H H' → Q (.bl true) H'
theorem ok__law_same {f f1 f2 : Addr} {fd fd1 fd2 : FuncData} (D : DefAt K mg "_law_same" s__law_same ["told", "due"] f fd) (D__law_plain : DefAt K mg "_law_plain" s__law_plain ["value"] f1 fd1)
    (D__law_is_kind : DefAt K mg "_law_is_kind" s__law_is_kind ["told", "due"] f2 fd2) (C : Cls K mg) (T : Txt mg) : FnOk P w K mg base CX0 2 f fd ["told", "due"] spSame := by
  have G__law_plain : FnOk P w K mg base CX0 1 f1 fd1 ["value"] spPlain := ok__law_plain D__law_plain C T
  have G__law_is_kind : FnOk P w K mg base CX0 1 f2 fd2 ["told", "due"] spKind := ok__law_is_kind D__law_is_kind T
  refine D.F.ok S__law_same (fun vs H Q E h => ?_) (fun cdv A outer s H vs Q E hr h => ?_)
  · obtain ⟨x, y, n, rfl, _⟩ := h
    rfl
  · obtain ⟨x, y, n, rfl, ev, ln, q⟩ := h
    refine ⟨_, (pss_cons (ps_set (i := 2) S__law_same.nd rfl (.inl rfl) (pe_lst (pa_cons (pe_tup (pa_cons (pv 0) (pa_cons (pv 1) pa_nil))) pa_nil)))
      (pss_cons (ps_while PassesOwn.never (pt_cmpR op_gt (pe_callB call_len_seq (by rfl) T.n_len (by decide +kernel) (pa_cons (pv 2) pa_nil)) pe_int (nomark _))
        (pss_cons (ps_asg (pe_bm0 PySem.F.plainAttrs_list PySem.F.slot_list_pop PySem.F.type_list_pop mt_pop (pv 2)) (pg_tup rfl (pgs_cons (pg_name (i := 3) S__law_same.nd rfl (.inl rfl)) (pgs_cons (pg_name (i := 4) S__law_same.nd rfl (.inl rfl)) pgs_nil))))
          (pss_cons (ps_set (i := 3) S__law_same.nd rfl (.inl rfl) (pe_call G__law_plain (hr.mono (by decide)) (by rfl) D__law_plain.g D__law_plain.F.kp D__law_plain.b .nil pass0 (pa_cons (pv 3) pa_nil)))
          (pss_one (ps_if (pt_val (pe_callB call_isi (by rfl) T.n_isinstance (by decide +kernel) (pa_cons (pv 4) (pa_cons (pe_bltn (v := .ty "tuple") (u := .type "tuple") (by rfl) T.n_tuple (by decide +kernel) rfl) pa_nil))))
          (pss_cons (ps_if (PW.pt (pw_or (pt_not (pt_val (pe_callB call_isi (by rfl) T.n_isinstance (by decide +kernel) (pa_cons (pv 3) (pa_cons (pe_bltn (v := .ty "tuple") (u := .type "tuple") (by rfl) T.n_tuple (by decide +kernel) rfl) pa_nil))))) (pw_or1 (pt_cmpR op_ne (pe_callB call_len_seq (by rfl) T.n_len (by decide +kernel) (pa_cons (pv 3) pa_nil)) (pe_callB call_len_seq (by rfl) T.n_len (by decide +kernel) (pa_cons (pv 4) pa_nil)) (nomark _)))))
              (pss_one (ps_ret pe_bl))
              pss_nil)
            (pss_one (ps_set (i := 2) S__law_same.nd rfl (.inl rfl) (pe_op op_cat (pv 2) (EaZ.pe_listZip rfl (by rfl) T.n_list (by rfl) T.n_zip (pa_cons (pv 3) (pa_cons (pv 4) pa_nil)))))))
          (pss_one (ps_if (PW.pt (pw_or (pt_val (pe_callB call_isiT (by rfl) T.n_isinstance (by decide +kernel) (pa_cons (pv 3) (pa_cons (pe_tup (pa_cons (pe_bltn (v := .ty "tuple") (u := .type "tuple") (by rfl) T.n_tuple (by decide +kernel) rfl) (pa_cons (pe_bltn (v := .ty "list") (u := .type "list") (by rfl) T.n_list (by decide +kernel) rfl) (pa_cons (pe_bltn (v := .ty "dict") (u := .type "dict") (by rfl) T.n_dict (by decide +kernel) rfl) pa_nil)))) pa_nil)))) (pw_or1 (pt_not (pt_val (pe_call G__law_is_kind (hr.mono (by decide)) (by rfl) D__law_is_kind.g D__law_is_kind.F.kp D__law_is_kind.b .nil pass0 (pa_cons (pv 3) (pa_cons (pv 4) pa_nil))))))))
            (pss_one (ps_ret pe_bl))
            pss_nil)))))))
      (pss_one (ps_ret pe_bl)))), ?_⟩
    refine ⟨x, rfl, y, rfl, by show 2 ≤ sizeLine; decide, fun t ht => ⟨by show 1 ≤ sizeLine; decide, fun z hz => ?_⟩⟩
    have s1 := same_new (o := .tup [x, y]) ht
    have s2 := s1.trans (same_new (o := .lst [.ref t]) hz)
    have et : upd (upd H t (.tup [x, y])) z (.lst [.ref t]) t = some (.tup [x, y]) := (upd_ne (ne_of_none (upd_same (a := t)) hz)).trans upd_same
    refine ⟨fun m σ H' => ∃ (tz : Addr) (ts : List Addr) (v3 v4 : Option V), σ = [some x, some y, some (.ref tz), v3, v4] ∧ Same H H' ∧ H tz = none ∧ H' tz = some (.lst (ts.map V.ref)) ∧ TodoL H' ts m ∧ m ≤ 20000,
      ⟨n, z, [t], none, none, rfl, s2, s1.free hz, upd_same, by have := TodoL.cons et (ev.keep (tupKeep s2)) .nil; exact this, ln⟩, ?_⟩
    rintro m σ H1 ⟨tz, ts, v3, v4, rfl, sm, fz, ez, td, lm⟩
    rcases List.eq_nil_or_concat ts with rfl | ⟨us, u, rfl⟩
    · refine ⟨.ref tz, rfl, tz, _, rfl, .inl (SqL.of ez), _, _, rfl, rfl, _, rfl, ite2 (fun e => absurd e (by decide)) fun _ => ?_⟩
      exact q _ sm
    · rw [List.concat_eq_append] at *
      obtain ⟨x1, y1, n1, n2, rfl, td1, eu, ev1⟩ := td.last
      have cl : ((us ++ [u]).map V.ref).length = us.length + 1 := by rw [List.length_map, List.length_append]; rfl
      have dl : ((us ++ [u]).map V.ref).dropLast = us.map V.ref := by rw [List.map_append]; exact List.dropLast_concat
      have gl : ((us ++ [u]).map V.ref)[((us ++ [u]).map V.ref).length - 1]? = some (.ref u) := by
        rw [cl, Nat.add_sub_cancel, List.map_append, List.getElem?_append_right (by rw [List.length_map]; exact Nat.le_refl _), List.length_map, Nat.sub_self]; rfl
      refine ⟨.ref tz, rfl, tz, _, rfl, .inl (SqL.of ez), _, _, rfl, rfl, _, rfl, ite2 (fun _ => ?_) fun e => absurd (by rw [cl]; exact decide_eq_true (by omega)) e⟩
      refine ⟨fun σ' H' => ∃ (m' : Nat) (tz : Addr) (ts : List Addr) (v3 v4 : Option V), m' < n1 + n2 ∧ σ' = [some x, some y, some (.ref tz), v3, v4] ∧ Same H H' ∧ H tz = none ∧ H' tz = some (.lst (ts.map V.ref)) ∧ TodoL H' ts m' ∧ m' ≤ 20000,
        fun σ' H' h => by obtain ⟨m', tz, ts, v3, v4, h0, h1, h2, h3, h4, h5, h6⟩ := h; exact ⟨m', h0, tz, ts, v3, v4, h1, h2, h3, h4, h5, h6⟩, ?_⟩
      have nuz : u ≠ tz := fun z => by subst z; rw [ez] at eu; cases eu
      refine ⟨.ref tz, rfl, .inl ⟨rfl, _, SqL.of ez⟩, tz, _, _, rfl, rfl, ez, gl, ?_⟩
      rw [dl]
      have kt : ∀ b xs, H1 b = some (.tup xs) → upd H1 tz (.lst (us.map V.ref)) b = some (.tup xs) := fun b xs e => by
        have : b ≠ tz := fun z => by subst z; rw [ez] at e; cases e
        rw [upd_ne this]; exact e
      have sm2 : Same H (upd H1 tz (.lst (us.map V.ref))) := fun b o e => by rw [upd_ne (ne_of_none e fz)]; exact sm _ _ e
      have ez2 : upd H1 tz (.lst (us.map V.ref)) tz = some (.lst (us.map V.ref)) := upd_same
      have eu2 := kt _ _ eu
      have td2 := td1.keep kt
      have ev2 := ev1.keep kt
      generalize upd H1 tz (.lst (us.map V.ref)) = H2 at sm2 ez2 eu2 td2 ev2 ⊢
      refine ⟨u, _, rfl, .inl (.inl eu2), rfl, _, _, rfl, _, _, rfl, rfl, ?_⟩
      cases ev2 with
      | int i =>
        refine ⟨.int i, rfl, .int i, "int", rfl, .int i, fun H3 s3 => ?_⟩
        refine ⟨.int i, rfl, .int i, .ty "tuple", _, _, false, rfl, .ty "tuple", .base (.int i), rfl, _, rfl, ite2 (fun e => by cases e) fun _ => ?_⟩
        refine ⟨.int i, rfl, by show 3 ≤ sizeLine; decide, fun g hg => ?_⟩
        refine ⟨.int i, g, _, _, [.type "tuple", .type "list", .type "dict"], false, rfl, upd_same, .cons (.ty _) (.cons (.ty _) (.cons (.ty _) .nil)), .base (.int i), rfl, _, rfl, ite2 (fun e => by cases e) fun _ => ?_⟩
        refine ⟨.int i, rfl, .int i, rfl, i, rfl, fun H4 s4 => ⟨_, rfl, ite2 (fun e => by cases e) fun _ => ?_⟩⟩
        have s24 := s3.trans ((same_new hg).trans s4)
        exact ⟨n1, tz, us, _, _, by omega, rfl, sm2.trans s24, fz, s24 _ _ ez2, td2.keep (tupKeep s24), by omega⟩
      | @tup a b xs ys n ea eb el =>
        refine ⟨.ref a, rfl, .ref a, "tuple", rfl, .tup ea, fun H3 s3 => ?_⟩
        have ea3 := s3 _ _ ea
        have eb3 := s3 _ _ eb
        refine ⟨.ref b, rfl, .ref b, .ty "tuple", _, _, true, rfl, .ty "tuple", .base (.tup eb3), rfl, _, rfl, ite2 (fun _ => ?_) fun e => absurd rfl e⟩
        refine ⟨.ref a, rfl, .ref a, .ty "tuple", _, _, true, rfl, .ty "tuple", .base (.tup ea3), rfl, _, rfl, ite2 (fun e => by cases e) fun _ => ?_⟩
        refine ⟨.ref a, rfl, a, _, rfl, .inr (.inl (.inl ea3)), .ref b, rfl, b, _, rfl, .inr (.inl (.inl eb3)), rfl, _, rfl, ite2 (fun e => ?_) fun _ => ?_⟩
        · rw [el.len, decide_eq_true rfl] at e; cases e
        refine ⟨.ref tz, rfl, .ref a, rfl, .ref b, rfl, a, b, xs, ys, rfl, .inl (.inl ea3), .inl (.inl eb3), fun H4 p ts' s4 fp ep lts fr at' => ?_⟩
        have s24 := s3.trans s4
        have ez4 := s24 _ _ ez2
        have td' := (el.keep (tupKeep s24)).todo lts at'
        have l1 := td2.len
        have l2 := td'.len
        refine ⟨tz, p, _, _, rfl, rfl, ez4, ep, ?_, fun g hg => ?_⟩
        · rw [List.length_map, List.length_map]
          exact Nat.le_trans (show us.length + ts'.length ≤ 20000 by omega) (by decide)
        · have s5 := same_new (o := .lst (us.map V.ref ++ ts'.map V.ref)) hg
          refine ⟨n1 + n, g, us ++ ts', _, _, by omega, rfl, (sm2.trans s24).trans s5, (sm2.trans s24).free hg, by rw [upd_same, List.map_append], ?_, by omega⟩
          exact (TodoL.append td' (td2.keep (tupKeep s24))).keep (tupKeep s5)
abbrev s__law_all : Stmt := topS 27
abbrev N__law_all : List Str := ["pairs", "told", "due"]
theorem S__law_all : FnScope N__law_all ["pairs"] (defScope s__law_all) := ⟨rfl, rfl, rfl, by decide +kernel, rfl, by decide +kernel, by decide +kernel⟩
def spAll : Sp := fun vs H Q _ => ∃ (p : Addr) (ts : List Addr), vs = [.ref p] ∧ H p = some (.lst (ts.map V.ref)) ∧ ts.length ≤ 1000 ∧ (∀ t ∈ ts, ∃ x y n, H t = some (.tup [x, y]) ∧ Eqv H x y n ∧ n ≤ 20000) ∧ ∀ H', Q (.bl true) H'
theorem ok__law_all {f f0 f1 f2 : Addr} {fd fd0 fd1 fd2 : FuncData} (D : DefAt K mg "_law_all" s__law_all ["pairs"] f fd) (D__law_same : DefAt K mg "_law_same" s__law_same ["told", "due"] f0 fd0) (D__law_plain : DefAt K mg "_law_plain" s__law_plain ["value"] f1 fd1)
    (D__law_is_kind : DefAt K mg "_law_is_kind" s__law_is_kind ["told", "due"] f2 fd2) (C : Cls K mg) (T : Txt mg) : FnOk P w K mg base CX0 3 f fd ["pairs"] spAll := by
  have G__law_same : FnOk P w K mg base CX0 2 f0 fd0 ["told", "due"] spSame := ok__law_same D__law_same D__law_plain D__law_is_kind C T
  refine D.F.ok S__law_all (fun vs H Q E h => ?_) (fun cdv A outer s H vs Q E hr h => ?_)
  · obtain ⟨p, ts, rfl, _⟩ := h
    rfl
  · obtain ⟨p, ts, rfl, ep, l1, hp, q⟩ := h
    refine ⟨_, (pss_one (ps_ret (pe_cmpR op_eq (pe_callB call_len_seq (by rfl) T.n_len (by decide +kernel) (pa_cons (pe_lc (own := [("told", 1), ("due", 2)]) rfl S__law_all.nd (pi_list (pv 0)) (blkOk_by (own := [("told", 1), ("due", 2)]) (N := N__law_all) (sc := defScope s__law_all) (by decide +kernel)) (fun _ _ _ _ _ => (EaR.pg_tupK (K := K) (n := 2) rfl rfl (pgs_cons (pg_name (i := 1) S__law_all.nd rfl (.inl rfl)) (pgs_cons (pg_name (i := 2) S__law_all.nd rfl (.inl rfl)) pgs_nil)))) (fun _ _ _ _ _ => (pts_one (pt_not (pt_val (pe_call G__law_same (hr.mono (by decide)) (by rfl) D__law_same.g D__law_same.F.kp D__law_same.b .nil pass0 (pa_cons (pv 1) (pa_cons (pv 2) pa_nil))))))) (fun _ _ _ _ _ => (pv 1))) pa_nil)) pe_int (nomark _)))), ?_⟩
    refine ⟨.ref p, rfl, p, rfl, ⟨_, SqL.of ep⟩, fun d hd => ?_⟩
    refine lc_list (xs := ts.map V.ref) (fun i H' => Same H H' ∧ H' d = some (.lst [])) ⟨same_new hd, upd_same⟩ (fun i H' _ h => SqL.of (h.1 _ _ ep)) ?_ ?_
    · rintro i y H' hy ⟨sm, ed⟩
      rw [List.getElem?_map, Option.map_eq_some_iff] at hy
      obtain ⟨t, ht, rfl⟩ := hy
      obtain ⟨x, y, n, et, ev, ln⟩ := hp t (List.mem_of_getElem? ht)
      refine ⟨t, _, rfl, .inl (.inl (sm _ _ et)), rfl, _, _, rfl, _, _, rfl, rfl, rfl, ?_⟩
      refine ⟨x, rfl, y, rfl, x, y, n, rfl, ev.keep (tupKeep sm), ln, fun H3 s3 => ⟨_, rfl, ite2 (fun e => by cases e) fun _ => ⟨sm.trans s3, s3 _ _ ed⟩⟩⟩
    · rintro H' ⟨sm, ed⟩
      refine ⟨d, _, rfl, .inl (SqL.of ed), rfl, ?_⟩
      exact q _
end
end Ea
set_option maxRecDepth 100000
set_option maxHeartbeats 4000000
namespace Rw
/-- two rows of use: the first up to t, the second from t on -/
theorem IsDue.two {b : Int → Nat} {t : Int} {m n : Nat} (ht : 0 < t) (hmn : m ≠ n) (h1 : ∀ x, 0 ≤ x → x < t → b x = m) (h2 : ∀ x, t ≤ x → b x = n) : IsDue b [(0, m), (t, n)] := by
  refine ⟨?_, fun s k => ?_⟩
  · rw [List.pairwise_cons]
    refine ⟨fun q hq => ?_, List.pairwise_singleton _ _⟩
    rw [List.mem_singleton] at hq; subst hq
    exact ht
  · rw [List.mem_cons, List.mem_singleton, Prod.mk.injEq, Prod.mk.injEq]
    constructor
    · rintro (⟨rfl, rfl⟩ | ⟨rfl, rfl⟩)
      · exact ⟨Int.le_refl _, (h1 0 (Int.le_refl _) ht).symm, .inl rfl⟩
      · refine ⟨by omega, (h2 _ (Int.le_refl _)).symm, .inr ?_⟩
        rw [h2 _ (Int.le_refl _), h1 _ (by omega) (by omega)]
        exact hmn.symm
    · rintro ⟨a, rfl, z⟩
      rcases z with rfl | z
      · exact .inl ⟨rfl, h1 0 (Int.le_refl _) ht⟩
      · rcases Int.lt_trichotomy s t with c | c | c
        · by_cases h0 : s = 0
          · subst h0; exact .inl ⟨rfl, h1 0 (Int.le_refl _) ht⟩
          · exact absurd (by rw [h1 s a c, h1 (s - 1) (by omega) (by omega)]) z
        · subst c; exact .inr ⟨rfl, h2 _ (Int.le_refl _)⟩
        · exact absurd (by rw [h2 s (by omega), h2 (s - 1) (by omega)]) z
theorem zip_bound {lo hi B : Int} (h : hi - lo ≤ B) : ∀ a b : List Int, (∀ c ∈ a, lo ≤ c ∧ c ≤ hi) → (∀ c ∈ b, lo ≤ c ∧ c ≤ hi) → asum (List.zipWith (· - ·) a b) ≤ B * (min a.length b.length : Nat)
  | [], b, _, _ => by simp [asum]
  | _ :: _, [], _, _ => by simp [asum]
  | x :: a, y :: b, h1, h2 => by
    have e := zip_bound h a b (fun c hc => h1 c (List.mem_cons_of_mem _ hc)) (fun c hc => h2 c (List.mem_cons_of_mem _ hc))
    have p1 := h1 x List.mem_cons_self
    have p2 := h2 y List.mem_cons_self
    have q : (min (x :: a).length (y :: b).length : Nat) = min a.length b.length + 1 := by
      rw [List.length_cons, List.length_cons]; omega
    show (if x - y < 0 then -(x - y) else x - y) + asum (List.zipWith (· - ·) a b) ≤ _
    rw [q]
    have r : B * ((min a.length b.length + 1 : Nat) : Int) = B * (min a.length b.length : Nat) + B := by
      rw [show ((min a.length b.length + 1 : Nat) : Int) = (min a.length b.length : Nat) + 1 from rfl, Int.mul_add, Int.mul_one]
    rw [r]
    split <;> omega
theorem asum_small {a b : List Int} (ha : a.length ≤ 4) (hb : b.length ≤ 4) (h1 : ∀ c ∈ a, -5 ≤ c ∧ c ≤ 12) (h2 : ∀ c ∈ b, -5 ≤ c ∧ c ≤ 12) : asum (rowLess a b) ≤ 68 := by
  have p : ∀ (n : Nat) (l : List Int), (∀ c ∈ l, -5 ≤ c ∧ c ≤ 12) → ∀ c ∈ pad n l, -5 ≤ c ∧ c ≤ 12 := fun n l h c hc => by
    unfold pad at hc
    rcases List.mem_append.mp hc with hc | hc
    · exact h c hc
    · rw [(List.mem_replicate.mp hc).2]; omega
  have e := zip_bound (B := 17) (by decide) (pad (max a.length b.length) a) (pad (max a.length b.length) b) (p _ _ h1) (p _ _ h2)
  rw [pad_length (Nat.le_max_left _ _), pad_length (Nat.le_max_right _ _)] at e
  unfold rowLess
  have : (min (max a.length b.length) (max a.length b.length) : Nat) ≤ 4 := by omega
  omega
/-- small rows turn at small sizes only -/
theorem small_due {rs : List (List Int)} {l : List (Int × Nat)} (hl : ∀ r ∈ rs, r.length ≤ 4) (hc : ∀ r ∈ rs, ∀ c ∈ r, -5 ≤ c ∧ c ≤ 12) (F : Found (bst rs) l 109) : IsDue (bst rs) l := by
  refine F.due (fun x hx => bst_same ?_) (by decide)
  rintro ⟨i, j, _, a, b, ha, hb, t⟩
  have ma := List.mem_of_getElem? ha
  have mb := List.mem_of_getElem? hb
  have := asum_small (hl a ma) (hl b mb) (hc a ma) (hc b mb)
  exact no_turn_far (by omega) t
theorem asum_le {lo hi B : Int} (h1 : -B ≤ lo) (h2 : hi ≤ B) : ∀ a : List Int, (∀ c ∈ a, lo ≤ c ∧ c ≤ hi) → asum a ≤ B * (a.length : Nat)
  | [], _ => by simp [asum]
  | x :: a, h => by
    have e := asum_le h1 h2 a fun c hc => h c (List.mem_cons_of_mem _ hc)
    have p := h x List.mem_cons_self
    show (if x < 0 then -x else x) + asum a ≤ _
    have r : B * (((x :: a).length : Nat) : Int) = B * (a.length : Nat) + B := by
      rw [List.length_cons, show ((a.length + 1 : Nat) : Int) = (a.length : Nat) + 1 from rfl, Int.mul_add, Int.mul_one]
    rw [r]
    split <;> omega
end Rw
set_option maxRecDepth 100000
set_option maxHeartbeats 4000000
namespace Ea
open PySem PySem.Spec PyProof.Rows L2
section
variable {P : Program} {w : World} {K : PySem.W.Frag} {mg : Str → Option Value} {base : Heap}
/-! ### what the law holds on the way -/
theorem DealAt.same {H H' : Hp} {d q : Addr} (h : DealAt H d q) (s : Same H H') : DealAt H' d q := by
  obtain ⟨dq, cells, mix, hd, hq, r⟩ := h
  exact ⟨dq, cells, mix, s _ _ hd, s _ _ hq, r⟩
theorem DealAt.upd {H : Hp} {d q b : Addr} {o : HO} (h : DealAt H d q) (bd : b ≠ d) (bq : b ≠ q) : DealAt (upd H b o) d q := by
  obtain ⟨dq, cells, mix, hd, hq, r⟩ := h
  exact ⟨dq, cells, mix, (upd_ne bd.symm).trans hd, (upd_ne bq.symm).trans hq, r⟩
theorem DealAt.fresh {H : Hp} {d q z : Addr} (h : DealAt H d q) (hz : H z = none) : z ≠ d ∧ z ≠ q := by
  obtain ⟨dq, cells, mix, hd, hq, r⟩ := h
  exact ⟨(ne_of_none hd hz).symm, (ne_of_none hq hz).symm⟩
theorem But2.tup {H H' : Hp} {d q : Addr} (bt : But2 d q H H') (h : DealAt H d q) : ∀ b xs, H b = some (.tup xs) → H' b = some (.tup xs) := fun b xs e => by
  obtain ⟨dq, cells, mix, hd, hq, r⟩ := h
  refine bt b _ (fun z => ?_) (fun z => ?_) e
  · subst z; rw [hd] at e; cases e
  · subst z; rw [hq] at e; cases e
theorem updTup {H : Hp} {p : Addr} {xs : List V} {o : HO} (e : H p = some (.lst xs)) : ∀ b ys, H b = some (.tup ys) → upd H p o b = some (.tup ys) := fun b ys eb => by
  rw [upd_ne (fun z => by subst z; rw [e] at eb; cases eb)]; exact eb
def Ok3 (H : Hp) (ts : List Addr) : Prop := ∀ t ∈ ts, ∃ x y n, H t = some (.tup [x, y]) ∧ Eqv H x y n ∧ n ≤ 20000
theorem Ok3.keep {H H' : Hp} {ts : List Addr} (h : Ok3 H ts) (k : ∀ b xs, H b = some (.tup xs) → H' b = some (.tup xs)) : Ok3 H' ts := fun t ht => by
  obtain ⟨x, y, n, e, v, l⟩ := h t ht
  exact ⟨x, y, n, k _ _ e, v.keep k, l⟩
theorem Ok3.snoc {H : Hp} {ts : List Addr} {t : Addr} {x y : V} {n : Nat} (h : Ok3 H ts) (e : H t = some (.tup [x, y])) (v : Eqv H x y n) (l : n ≤ 20000) : Ok3 H (ts ++ [t]) := fun u hu => by
  rcases List.mem_append.mp hu with hu | hu
  · exact h u hu
  · rw [List.mem_singleton] at hu; subst hu; exact ⟨x, y, n, e, v, l⟩
structure Inv1 (H : Hp) (d q pp : Addr) (ts : List Addr) : Prop where
  deal : DealAt H d q
  pd : pp ≠ d
  pq : pp ≠ q
  pairs : H pp = some (.lst (ts.map V.ref))
  ok : Ok3 H ts
theorem Inv1.same {H H' : Hp} {d q pp : Addr} {ts : List Addr} (I : Inv1 H d q pp ts) (s : Same H H') : Inv1 H' d q pp ts := ⟨I.deal.same s, I.pd, I.pq, s _ _ I.pairs, I.ok.keep (tupKeep s)⟩
theorem Inv1.but {H H' : Hp} {d q pp : Addr} {ts : List Addr} (I : Inv1 H d q pp ts) (bt : But2 d q H H') (dl : DealAt H' d q) : Inv1 H' d q pp ts := ⟨dl, I.pd, I.pq, bt _ _ I.pd I.pq I.pairs, I.ok.keep (bt.tup I.deal)⟩
theorem Inv1.updL {H : Hp} {d q pp : Addr} {ts : List Addr} (I : Inv1 H d q pp ts) {p : Addr} {xs : List V} {o : HO} (e : H p = some (.lst xs)) (pd : p ≠ d) (pq : p ≠ q) (np : p ≠ pp) : Inv1 (upd H p o) d q pp ts :=
  ⟨I.deal.upd pd pq, I.pd, I.pq, (upd_ne np.symm).trans I.pairs, I.ok.keep (updTup e)⟩
/-- a further pair -/
theorem Inv1.snoc {H : Hp} {d q pp t : Addr} {ts : List Addr} {x y : V} {n : Nat} (I : Inv1 H d q pp ts) (ht : H t = none) (v : Eqv H x y n) (l : n ≤ 20000) : Inv1 (upd (upd H t (.tup [x, y])) pp (.lst (ts.map V.ref ++ [.ref t]))) d q pp (ts ++ [t]) := by
  have s := same_new (o := .tup [x, y]) ht
  have I' := I.same s
  refine ⟨I'.deal.upd I.pd I.pq, I.pd, I.pq, by rw [upd_same, List.map_append]; rfl, ?_⟩
  exact (I'.ok.snoc upd_same (v.keep (tupKeep s)) l).keep (updTup I'.pairs)
/-- rows as they are dealt -/
structure RowsG (H : Hp) (as : List Addr) (rs : List (List Int)) : Prop where
  len : as.length = rs.length
  at_ : ∀ (i : Nat) (t : Addr) (r : List Int), as[i]? = some t → rs[i]? = some r → H t = some (.tup (r.map V.int))
theorem RowsG.keep {H H' : Hp} {as : List Addr} {rs : List (List Int)} (R : RowsG H as rs) (k : ∀ b xs, H b = some (.tup xs) → H' b = some (.tup xs)) : RowsG H' as rs := ⟨R.len, fun i t r h1 h2 => k _ _ (R.at_ i t r h1 h2)⟩
theorem RowsG.nil (H : Hp) : RowsG H [] [] := ⟨rfl, fun i t r h => by simp at h⟩
theorem RowsG.append {H : Hp} {as bs : List Addr} {rs ss : List (List Int)} (h : RowsG H as rs) (k : RowsG H bs ss) : RowsG H (as ++ bs) (rs ++ ss) := by
  refine ⟨by rw [List.length_append, List.length_append, h.len, k.len], fun i u r h1 h2 => ?_⟩
  by_cases c : i < as.length
  · rw [List.getElem?_append_left c] at h1
    rw [List.getElem?_append_left (by rw [← h.len]; exact c)] at h2
    exact h.at_ i u r h1 h2
  · rw [List.getElem?_append_right (by omega)] at h1
    rw [List.getElem?_append_right (by rw [← h.len]; omega), ← h.len] at h2
    exact k.at_ _ u r h1 h2
theorem RowsG.one {H : Hp} {t : Addr} {r : List Int} (e : H t = some (.tup (r.map V.int))) : RowsG H [t] [r] := by
  refine ⟨rfl, fun i u s h1 h2 => ?_⟩
  match i, h1, h2 with
  | 0, h1, h2 => cases h1; cases h2; exact e
theorem RowsG.take {H : Hp} {as : List Addr} {rs : List (List Int)} (h : RowsG H as rs) (n : Nat) : RowsG H (as.take n) (rs.take n) := by
  refine ⟨by rw [List.length_take, List.length_take, h.len], fun i u r h1 h2 => ?_⟩
  rw [List.getElem?_take] at h1 h2
  by_cases c : i < n
  · rw [if_pos c] at h1 h2; exact h.at_ i u r h1 h2
  · rw [if_neg c] at h1; cases h1
theorem RowsG.rows {H : Hp} {a : Addr} {as : List Addr} {rs : List (List Int)} (h : RowsG H as rs) (e : EaS.Sq K H a (as.map V.ref)) : RowsAt K H a as rs := ⟨e, h.len, fun i t r h1 h2 => SqT.of (h.at_ i t r h1 h2)⟩
structure RowsL (H : Hp) (d q pp pr : Addr) (as : List Addr) (rs : List (List Int)) : Prop where
  pd : pr ≠ d
  pq : pr ≠ q
  pp : pr ≠ pp
  e : H pr = some (.lst (as.map V.ref))
  g : RowsG H as rs
theorem RowsL.same {H H' : Hp} {d q pp pr : Addr} {as : List Addr} {rs : List (List Int)} (R : RowsL H d q pp pr as rs) (s : Same H H') : RowsL H' d q pp pr as rs := ⟨R.pd, R.pq, R.pp, s _ _ R.e, R.g.keep (tupKeep s)⟩
theorem RowsL.but {H H' : Hp} {d q pp pr : Addr} {as : List Addr} {rs : List (List Int)} (R : RowsL H d q pp pr as rs) (bt : But2 d q H H') (dl : DealAt H d q) : RowsL H' d q pp pr as rs := ⟨R.pd, R.pq, R.pp, bt _ _ R.pd R.pq R.e, R.g.keep (bt.tup dl)⟩
theorem RowsL.updL {H : Hp} {d q pp pr p : Addr} {as : List Addr} {rs : List (List Int)} {xs : List V} {o : HO} (R : RowsL H d q pp pr as rs) (e : H p = some (.lst xs)) (n : p ≠ pr) : RowsL (upd H p o) d q pp pr as rs := ⟨R.pd, R.pq, R.pp, (upd_ne n.symm).trans R.e, R.g.keep (updTup e)⟩
theorem RowsL.snoc {H : Hp} {d q pp pr t : Addr} {as : List Addr} {rs : List (List Int)} {r : List Int} (R : RowsL H d q pp pr as rs) (ht : H t = none) : RowsL (upd (upd H t (.tup (r.map V.int))) pr (.lst (as.map V.ref ++ [.ref t]))) d q pp pr (as ++ [t]) (rs ++ [r]) := by
  have s := same_new (o := .tup (r.map V.int)) ht
  have R' := R.same s
  exact ⟨R.pd, R.pq, R.pp, by rw [upd_same, List.map_append]; rfl, (R'.g.append (.one upd_same)).keep (updTup R'.e)⟩
/-- small rows -/
def Small (rs : List (List Int)) : Prop := ∀ r ∈ rs, 0 < r.length ∧ r.length ≤ 4 ∧ ∀ c ∈ r, -5 ≤ c ∧ c ≤ 12
theorem Small.ok {rs : List (List Int)} (h : Small rs) (l : rs.length ≤ 6) : RowsOk 4 rs := by
  refine ⟨fun r hr => (h r hr).1, fun r hr => (h r hr).2.1, by decide, fun r hr => ?_, ?_, by omega⟩
  · have := Rw.asum_le (lo := -5) (hi := 12) (B := 12) (by decide) (by decide) r (h r hr).2.2
    have := (h r hr).2.1
    omega
  · have : Rw.tri rs.length ≤ Rw.tri 6 := Rw.tri_mono l
    have e : Rw.tri 6 = 15 := rfl
    omega
theorem PairsAt.eqv {H : Hp} : ∀ {ts us : List Addr} {l : List (Int × Nat)}, PairsAt H ts l → PairsAt H us l → EqvL H (ts.map V.ref) (us.map V.ref) (3 * l.length)
  | [], [], [], _, _ => .nil
  | [], _ :: _, [], _, h => by have := h.len; simp at this
  | _ :: _, _, [], h, _ => by have := h.len; simp at this
  | [], _, _ :: _, h, _ => by have := h.len; simp at this
  | _ :: _, [], _ :: _, _, h => by have := h.len; simp at this
  | t :: ts, u :: us, p :: l, h, k => by
    have r := PairsAt.eqv (ts := ts) (us := us) (l := l) ⟨Nat.succ.inj h.len, fun i u q h1 h2 => h.at_ (i + 1) u q h1 h2⟩ ⟨Nat.succ.inj k.len, fun i u q h1 h2 => k.at_ (i + 1) u q h1 h2⟩
    have e : 3 * (p :: l).length = (2 + 1) + 3 * l.length := by rw [List.length_cons]; omega
    rw [e]
    exact .cons (.tup (h.at_ 0 t p rfl rfl) (k.at_ 0 u p rfl rfl) (.cons (.int _) (.cons (.int _) .nil))) r
end
end Ea
set_option maxRecDepth 100000
set_option maxHeartbeats 4000000
namespace Rw
/-! ### rows that turn at a told size, and rows that never win -/
def up (x : Int) : Nat → Int → Int
  | 0, c => c
  | k + 1, c => up x k c * x
theorem up_le {x a b : Int} (hx : 0 ≤ x) (h : a ≤ b) : ∀ k : Nat, up x k a ≤ up x k b
  | 0 => h
  | k + 1 => Int.mul_le_mul_of_nonneg_right (up_le hx h k) hx
theorem up_lt {x a b : Int} (hx : 0 < x) (h : a < b) : ∀ k : Nat, up x k a < up x k b
  | 0 => h
  | k + 1 => Int.mul_lt_mul_of_pos_right (up_lt hx h k) hx
/-- every number of the second is greater than its fellow of the first, by 1 to 9 -/
inductive Above : List Int → List Int → Prop where
  | nil : Above [] []
  | cons {a b : Int} {r s : List Int} : a + 1 ≤ b → b ≤ a + 9 → Above r s → Above (a :: r) (b :: s)
theorem Above.len : ∀ {r s : List Int}, Above r s → s.length = r.length
  | _, _, .nil => rfl
  | _, _, .cons _ _ h => congrArg Nat.succ h.len
theorem Above.le {x : Int} (hx : 0 ≤ x) : ∀ {r s : List Int}, Above r s → worth r x ≤ worth s x
  | _, _, .nil => Int.le_refl _
  | _, _, .cons h _ t => by
    have := Int.mul_le_mul_of_nonneg_right (Above.le hx t) hx
    show worth _ x * x + _ ≤ worth _ x * x + _
    omega
theorem Above.lt {x : Int} (hx : 0 ≤ x) : ∀ {r s : List Int}, Above r s → r ≠ [] → worth r x < worth s x
  | _, _, .nil, h => absurd rfl h
  | _, _, .cons h _ t, _ => by
    have := Int.mul_le_mul_of_nonneg_right (Above.le hx t) hx
    show worth _ x * x + _ < worth _ x * x + _
    omega
theorem Above.mem {lo hi : Int} : ∀ {r s : List Int}, Above r s → (∀ c ∈ r, lo ≤ c ∧ c ≤ hi) → ∀ c ∈ s, lo ≤ c ∧ c ≤ hi + 9
  | _, _, .nil, _, c, hc => by cases hc
  | _, _, .cons h1 h2 t, hb, c, hc => by
    rcases List.mem_cons.mp hc with hc | hc
    · subst hc
      have := hb _ List.mem_cons_self
      omega
    · exact t.mem (fun c hc => hb c (List.mem_cons_of_mem _ hc)) c hc
/-- the further rows are each above one of the rows -/
def Spare (rs ss : List (List Int)) : Prop := ∀ s ∈ ss, ∃ r ∈ rs, r ≠ [] ∧ Above r s
theorem bst_spare {rs ss : List (List Int)} (h : Spare rs ss) (ne : rs ≠ []) {x : Int} (hx : 0 ≤ x) : bst (rs ++ ss) x = bst rs x := by
  have ne' : rs.map (worth · x) ≠ [] := fun z => ne (List.map_eq_nil_iff.mp z)
  obtain ⟨m, k1, k2, k3⟩ := best_spec _ ne'
  have lt : best (rs.map (worth · x)) < (rs.map (worth · x)).length := best_lt ne'
  unfold bst
  rw [List.map_append]
  refine best_uniq (m := m) (by rw [List.getElem?_append_left lt]; exact k1) (fun y hy => ?_) fun i hi y hy => ?_
  · rcases List.mem_append.mp hy with hy | hy
    · exact k2 y hy
    · obtain ⟨s, hs, rfl⟩ := List.mem_map.mp hy
      obtain ⟨r, hr, rn, ab⟩ := h s hs
      have := k2 _ (List.mem_map.mpr ⟨r, hr, rfl⟩)
      have := ab.lt hx rn
      show m ≤ worth s x
      have e : (fun r => worth r x) r = worth r x := rfl
      omega
  · rw [List.getElem?_append_left (by omega)] at hy
    exact k3 i hi y hy
/-- rows that turn once: the row m ahead of t, the row n from t on -/
structure Known (rs : List (List Int)) (t : Int) (m n : Nat) : Prop where
  ne : rs ≠ []
  few : rs.length ≤ 5
  pos : 0 < t
  top : t ≤ 100000003
  mn : m ≠ n
  lo : ∀ x, 0 ≤ x → x < t → bst rs x = m
  hi : ∀ x, t ≤ x → bst rs x = n
  len : ∀ r ∈ rs, 0 < r.length
  vals : ∀ r ∈ rs, ∀ c ∈ r, 0 ≤ c ∧ c ≤ 100000003
  cap : ∃ L, L ≤ 8 ∧ (∀ r ∈ rs, r.length ≤ L) ∧ tri (rs.length + 2) * (2 ^ L - 2) ≤ 4000
theorem Known.due {rs ss : List (List Int)} {t : Int} {m n : Nat} (K : Known rs t m n) (h : Spare rs ss) : IsDue (bst (rs ++ ss)) [(0, m), (t, n)] :=
  .two K.pos K.mn (fun x h0 h1 => by rw [bst_spare h K.ne h0, K.lo x h0 h1]) fun x h1 => by
    have := K.pos
    rw [bst_spare h K.ne (by omega), K.hi x h1]
theorem mem2 {α : Type} {a b y : α} (h : y ∈ [a, b]) : y = a ∨ y = b := by simpa using h
theorem known0 {g : Int} (h2 : 2 ≤ g) (h8 : g ≤ 100000001) : Known [[0, 2], [g, 1]] (g + 1) 0 1 := by
  have wv : ∀ x : Int, ([[0, 2], [g, 1]] : List (List Int)).map (worth · x) = [2 * x, x + g] := fun x => by simp [worth]
  refine ⟨by simp, by simp, by omega, by omega, by decide, fun x h0 h1 => ?_, fun x h1 => ?_, by simp, ?_, 2, by decide, by simp, by show tri 4 * (2 ^ 2 - 2) ≤ 4000; decide⟩
  · unfold bst; rw [wv]
    refine best_uniq (m := 2 * x) rfl (fun y hy => ?_) fun i hi => by omega
    simp only [List.mem_cons, List.not_mem_nil, or_false] at hy
    rcases hy with rfl | rfl <;> omega
  · unfold bst; rw [wv]
    refine best_uniq (m := x + g) rfl (fun y hy => ?_) fun i hi y hy => ?_
    · simp only [List.mem_cons, List.not_mem_nil, or_false] at hy
      rcases hy with rfl | rfl <;> omega
    · have : i = 0 := by omega
      subst this; cases hy; omega
  · intro r hr c hc
    simp only [List.mem_cons, List.not_mem_nil, or_false] at hr
    rcases hr with rfl | rfl <;> simp only [List.mem_cons, List.not_mem_nil, or_false] at hc <;> omega
theorem known1 {g : Int} (h2 : 2 ≤ g) (h8 : g ≤ 100000001) : Known [[g, 1], [0, 2]] g 1 0 := by
  have wv : ∀ x : Int, ([[g, 1], [0, 2]] : List (List Int)).map (worth · x) = [x + g, 2 * x] := fun x => by simp [worth]
  refine ⟨by simp, by simp, by omega, by omega, by decide, fun x h0 h1 => ?_, fun x h1 => ?_, by simp, ?_, 2, by decide, by simp, by show tri 4 * (2 ^ 2 - 2) ≤ 4000; decide⟩
  · unfold bst; rw [wv]
    refine best_uniq (m := 2 * x) rfl (fun y hy => ?_) fun i hi y hy => ?_
    · simp only [List.mem_cons, List.not_mem_nil, or_false] at hy
      rcases hy with rfl | rfl <;> omega
    · have : i = 0 := by omega
      subst this; cases hy; omega
  · unfold bst; rw [wv]
    refine best_uniq (m := x + g) rfl (fun y hy => ?_) fun i hi => by omega
    simp only [List.mem_cons, List.not_mem_nil, or_false] at hy
    rcases hy with rfl | rfl <;> omega
  · intro r hr c hc
    simp only [List.mem_cons, List.not_mem_nil, or_false] at hr
    rcases hr with rfl | rfl <;> simp only [List.mem_cons, List.not_mem_nil, or_false] at hc <;> omega
theorem known2 {g : Int} (h2 : 2 ≤ g) (h8 : g ≤ 100000001) : Known [[0, 0, 1], [0, g]] (g + 1) 0 1 := by
  have wv : ∀ x : Int, ([[0, 0, 1], [0, g]] : List (List Int)).map (worth · x) = [up x 1 x, up x 1 g] := fun x => by simp [worth, up]
  refine ⟨by simp, by simp, by omega, by omega, by decide, fun x h0 h1 => ?_, fun x h1 => ?_, by simp, ?_, 3, by decide, by simp, by show tri 4 * (2 ^ 3 - 2) ≤ 4000; decide⟩
  · unfold bst; rw [wv]
    have := up_le h0 (show x ≤ g by omega) 1
    refine best_uniq (m := up x 1 x) rfl (fun y hy => ?_) fun i hi => by omega
    simp only [List.mem_cons, List.not_mem_nil, or_false] at hy
    rcases hy with rfl | rfl <;> omega
  · unfold bst; rw [wv]
    have := up_lt (show 0 < x by omega) (show g < x by omega) 1
    refine best_uniq (m := up x 1 g) rfl (fun y hy => ?_) fun i hi y hy => ?_
    · simp only [List.mem_cons, List.not_mem_nil, or_false] at hy
      rcases hy with rfl | rfl <;> omega
    · have : i = 0 := by omega
      subst this; cases hy; omega
  · intro r hr c hc
    simp only [List.mem_cons, List.not_mem_nil, or_false] at hr
    rcases hr with rfl | rfl <;> simp only [List.mem_cons, List.not_mem_nil, or_false] at hc <;> omega
theorem known3 {g : Int} (h2 : 2 ≤ g) (h8 : g ≤ 100000001) : Known [[0, 0, 0, 1], [0, 0, g], [0, g, g]] (g + 1) 0 1 := by
  have wv : ∀ x : Int, ([[0, 0, 0, 1], [0, 0, g], [0, g, g]] : List (List Int)).map (worth · x) = [up x 2 x, up x 2 g, up x 1 (g * x + g)] := fun x => by simp [worth, up]
  have three : ∀ x, up x 2 g ≤ up x 1 (g * x + g) ∨ x < 0 := fun x => by
    by_cases c : x < 0
    · exact .inr c
    · exact .inl (up_le (x := x) (by omega) (show g * x ≤ g * x + g by omega) 1)
  refine ⟨by simp, by simp, by omega, by omega, by decide, fun x h0 h1 => ?_, fun x h1 => ?_, by simp, ?_, 4, by decide, by simp, by show tri 5 * (2 ^ 4 - 2) ≤ 4000; decide⟩
  · unfold bst; rw [wv]
    have := up_le h0 (show x ≤ g by omega) 2
    have := three x
    refine best_uniq (m := up x 2 x) rfl (fun y hy => ?_) fun i hi => by omega
    simp only [List.mem_cons, List.not_mem_nil, or_false] at hy
    rcases hy with rfl | rfl | rfl <;> omega
  · unfold bst; rw [wv]
    have := up_lt (show 0 < x by omega) (show g < x by omega) 2
    have := three x
    refine best_uniq (m := up x 2 g) rfl (fun y hy => ?_) fun i hi y hy => ?_
    · simp only [List.mem_cons, List.not_mem_nil, or_false] at hy
      rcases hy with rfl | rfl | rfl <;> omega
    · have : i = 0 := by omega
      subst this; cases hy; omega
  · intro r hr c hc
    simp only [List.mem_cons, List.not_mem_nil, or_false] at hr
    rcases hr with rfl | rfl | rfl <;> simp only [List.mem_cons, List.not_mem_nil, or_false] at hc <;> omega
theorem known4 {g : Int} (h2 : 2 ≤ g) (h8 : g ≤ 901) : Known [[0, 0, 0, 0, 0, 0, 0, 1], [0, 0, 0, 0, 0, 0, g], [7, 0, 0, 0, 0, 0, g + 1]] (g + 1) 0 1 := by
  have wv : ∀ x : Int, ([[0, 0, 0, 0, 0, 0, 0, 1], [0, 0, 0, 0, 0, 0, g], [7, 0, 0, 0, 0, 0, g + 1]] : List (List Int)).map (worth · x) = [up x 6 x, up x 6 g, up x 6 (g + 1) + 7] := fun x => by simp [worth, up]
  refine ⟨by simp, by simp, by omega, by omega, by decide, fun x h0 h1 => ?_, fun x h1 => ?_, by simp, ?_, 8, by decide, by simp, by show tri 5 * (2 ^ 8 - 2) ≤ 4000; decide⟩
  · unfold bst; rw [wv]
    have := up_le h0 (show x ≤ g by omega) 6
    have := up_le h0 (show g ≤ g + 1 by omega) 6
    refine best_uniq (m := up x 6 x) rfl (fun y hy => ?_) fun i hi => by omega
    simp only [List.mem_cons, List.not_mem_nil, or_false] at hy
    rcases hy with rfl | rfl | rfl <;> omega
  · unfold bst; rw [wv]
    have := up_lt (show 0 < x by omega) (show g < x by omega) 6
    have := up_le (show 0 ≤ x by omega) (show g ≤ g + 1 by omega) 6
    refine best_uniq (m := up x 6 g) rfl (fun y hy => ?_) fun i hi y hy => ?_
    · simp only [List.mem_cons, List.not_mem_nil, or_false] at hy
      rcases hy with rfl | rfl | rfl <;> omega
    · have : i = 0 := by omega
      subst this; cases hy; omega
  · intro r hr c hc
    simp only [List.mem_cons, List.not_mem_nil, or_false] at hr
    rcases hr with rfl | rfl | rfl <;> simp only [List.mem_cons, List.not_mem_nil, or_false] at hc <;> omega
theorem known5 {g : Int} (h2 : 2 ≤ g) (h8 : g ≤ 100000001) : Known [[g], [0, 1], [g], [0, 1], [g - 1, 1]] g 1 0 := by
  have wv : ∀ x : Int, ([[g], [0, 1], [g], [0, 1], [g - 1, 1]] : List (List Int)).map (worth · x) = [g, x, g, x, x + (g - 1)] := fun x => by simp [worth]
  refine ⟨by simp, by simp, by omega, by omega, by decide, fun x h0 h1 => ?_, fun x h1 => ?_, by simp, ?_, 2, by decide, by simp, by show tri 7 * (2 ^ 2 - 2) ≤ 4000; decide⟩
  · unfold bst; rw [wv]
    refine best_uniq (m := x) rfl (fun y hy => ?_) fun i hi y hy => ?_
    · simp only [List.mem_cons, List.not_mem_nil, or_false] at hy
      rcases hy with rfl | rfl | rfl | rfl | rfl <;> omega
    · have : i = 0 := by omega
      subst this; cases hy; omega
  · unfold bst; rw [wv]
    refine best_uniq (m := g) rfl (fun y hy => ?_) fun i hi => by omega
    simp only [List.mem_cons, List.not_mem_nil, or_false] at hy
    rcases hy with rfl | rfl | rfl | rfl | rfl <;> omega
  · intro r hr c hc
    simp only [List.mem_cons, List.not_mem_nil, or_false] at hr
    rcases hr with rfl | rfl | rfl | rfl | rfl <;> simp only [List.mem_cons, List.not_mem_nil, or_false] at hc <;> omega
end Rw
set_option maxRecDepth 100000
set_option maxHeartbeats 4000000
namespace Ea
open PySem PySem.Spec PyProof.Rows L2
section
variable {P : Program} {w : World} {K : PySem.W.Frag} {mg : Str → Option Value} {base : Heap}
theorem But2.free {H H' : Hp} {d q z : Addr} (bt : But2 d q H H') (dl : DealAt H' d q) (hz : H' z = none) : z ≠ d ∧ z ≠ q ∧ H z = none := by
  have f := dl.fresh hz
  refine ⟨f.1, f.2, ?_⟩
  cases e : H z with
  | none => rfl
  | some o => rw [bt _ _ f.1 f.2 e] at hz; cases hz
abbrev s__law_known : Stmt := topS 30
abbrev N__law_known : List Str := ["deal", "great", "small", "kind"]
theorem S__law_known : FnScope N__law_known ["deal"] (defScope s__law_known) := ⟨rfl, rfl, rfl, by decide +kernel, rfl, by decide +kernel, by decide +kernel⟩
/-- what _law_known hands back: the rows and the two due pairs -/
structure KnownAt (H : Hp) (d q p pr du u1 u2 : Addr) (as : List Addr) (rs : List (List Int)) (t : Int) (m n : Nat) : Prop where
  deal : DealAt H d q
  e : H p = some (.tup [.ref pr, .ref du])
  er : H pr = some (.lst (as.map V.ref))
  g : RowsG H as rs
  ed : H du = some (.tup [.ref u1, .ref u2])
  e1 : H u1 = some (.tup [.int 0, .int ((m : Nat) : Int)])
  e2 : H u2 = some (.tup [.int t, .int ((n : Nat) : Int)])
  K : Rw.Known rs t m n
def spKnown : Sp := fun vs H Q _ => ∃ (d q : Addr), vs = [.ref d] ∧ DealAt H d q ∧ ∀ H' p pr du u1 u2 as rs t m n, KnownAt H' d q p pr du u1 u2 as rs t m n → But2 d q H H' → (pr ≠ d ∧ pr ≠ q ∧ H pr = none) → Q (.ref p) H'
theorem ok__law_known {f f1 : Addr} {fd fd1 : FuncData} (D : DefAt K mg "_law_known" s__law_known ["deal"] f fd) (D__law_any : DefAt K mg "_law_any" s__law_any ["deal", "bound"] f1 fd1) (T : Txt mg) : FnOk P w K mg base CX0 2 f fd ["deal"] spKnown := by
  have G__law_any : FnOk P w K mg base CX0 1 f1 fd1 ["deal", "bound"] spAny := ok__law_any D__law_any T
  refine D.F.ok S__law_known (fun vs H Q E h => ?_) (fun cdv A outer s H vs Q E hr h => ?_)
  · obtain ⟨d, q, rfl, _⟩ := h
    rfl
  · obtain ⟨d, q, rfl, dl, k⟩ := h
    refine ⟨_, (pss_cons (ps_par (i := 1) (j := 2) rfl S__law_known.nd rfl rfl (by decide) rfl rfl (pa_cons (pe_op op_add pe_int (pe_call G__law_any (hr.mono (by decide)) (by rfl) D__law_any.g D__law_any.F.kp D__law_any.b .nil pass0 (pa_cons (pv 0) (pa_cons (pe_op op_pow pe_int pe_int) pa_nil)))) (pa_cons (pe_op op_add pe_int (pe_call G__law_any (hr.mono (by decide)) (by rfl) D__law_any.g D__law_any.F.kp D__law_any.b .nil pass0 (pa_cons (pv 0) (pa_cons pe_int pa_nil)))) pa_nil)) (by rfl))
      (pss_cons (ps_set (i := 3) S__law_known.nd rfl (.inl rfl) (pe_call G__law_any (hr.mono (by decide)) (by rfl) D__law_any.g D__law_any.F.kp D__law_any.b .nil pass0 (pa_cons (pv 0) (pa_cons pe_int pa_nil))))
      (pss_cons (ps_if (pt_cmpR op_eq (pv 3) pe_int (nomark _))
        (pss_one (ps_ret (pe_tup (pa_cons (pe_lst (pa_cons (pe_tup (pa_cons pe_int (pa_cons pe_int pa_nil))) (pa_cons (pe_tup (pa_cons (pv 1) (pa_cons pe_int pa_nil))) pa_nil))) (pa_cons (pe_tup (pa_cons (pe_tup (pa_cons pe_int (pa_cons pe_int pa_nil))) (pa_cons (pe_tup (pa_cons (pe_op op_add (pv 1) pe_int) (pa_cons pe_int pa_nil))) pa_nil))) pa_nil)))))
        pss_nil)
      (pss_cons (ps_if (pt_cmpR op_eq (pv 3) pe_int (nomark _))
        (pss_one (ps_ret (pe_tup (pa_cons (pe_lst (pa_cons (pe_tup (pa_cons (pv 1) (pa_cons pe_int pa_nil))) (pa_cons (pe_tup (pa_cons pe_int (pa_cons pe_int pa_nil))) pa_nil))) (pa_cons (pe_tup (pa_cons (pe_tup (pa_cons pe_int (pa_cons pe_int pa_nil))) (pa_cons (pe_tup (pa_cons (pv 1) (pa_cons pe_int pa_nil))) pa_nil))) pa_nil)))))
        pss_nil)
      (pss_cons (ps_if (pt_cmpR op_eq (pv 3) pe_int (nomark _))
        (pss_one (ps_ret (pe_tup (pa_cons (pe_lst (pa_cons (pe_tup (pa_cons pe_int (pa_cons pe_int (pa_cons pe_int pa_nil)))) (pa_cons (pe_tup (pa_cons pe_int (pa_cons (pv 1) pa_nil))) pa_nil))) (pa_cons (pe_tup (pa_cons (pe_tup (pa_cons pe_int (pa_cons pe_int pa_nil))) (pa_cons (pe_tup (pa_cons (pe_op op_add (pv 1) pe_int) (pa_cons pe_int pa_nil))) pa_nil))) pa_nil)))))
        pss_nil)
      (pss_cons (ps_if (pt_cmpR op_eq (pv 3) pe_int (nomark _))
        (pss_one (ps_ret (pe_tup (pa_cons (pe_lst (pa_cons (pe_tup (pa_cons pe_int (pa_cons pe_int (pa_cons pe_int (pa_cons pe_int pa_nil))))) (pa_cons (pe_tup (pa_cons pe_int (pa_cons pe_int (pa_cons (pv 1) pa_nil)))) (pa_cons (pe_tup (pa_cons pe_int (pa_cons (pv 1) (pa_cons (pv 1) pa_nil)))) pa_nil)))) (pa_cons (pe_ifExp (pt_cmpR op_gt (pv 1) pe_int (nomark _)) (pe_tup (pa_cons (pe_tup (pa_cons pe_int (pa_cons pe_int pa_nil))) (pa_cons (pe_tup (pa_cons (pe_op op_add (pv 1) pe_int) (pa_cons pe_int pa_nil))) pa_nil))) (pe_tup (pa_cons (pe_tup (pa_cons pe_int (pa_cons pe_int pa_nil))) (pa_cons (pe_tup (pa_cons (pe_op op_add (pv 1) pe_int) (pa_cons pe_int pa_nil))) pa_nil)))) pa_nil)))))
        pss_nil)
      (pss_cons (ps_if (pt_cmpR op_eq (pv 3) pe_int (nomark _))
        (pss_one (ps_ret (pe_tup (pa_cons (pe_lst (pa_cons (pe_tup (pa_cons pe_int (pa_cons pe_int (pa_cons pe_int (pa_cons pe_int (pa_cons pe_int (pa_cons pe_int (pa_cons pe_int (pa_cons pe_int pa_nil))))))))) (pa_cons (pe_tup (pa_cons pe_int (pa_cons pe_int (pa_cons pe_int (pa_cons pe_int (pa_cons pe_int (pa_cons pe_int (pa_cons (pv 2) pa_nil)))))))) (pa_cons (pe_tup (pa_cons pe_int (pa_cons pe_int (pa_cons pe_int (pa_cons pe_int (pa_cons pe_int (pa_cons pe_int (pa_cons (pe_op op_add (pv 2) pe_int) pa_nil)))))))) pa_nil)))) (pa_cons (pe_tup (pa_cons (pe_tup (pa_cons pe_int (pa_cons pe_int pa_nil))) (pa_cons (pe_tup (pa_cons (pe_op op_add (pv 2) pe_int) (pa_cons pe_int pa_nil))) pa_nil))) pa_nil)))))
        pss_nil)
      (pss_one (ps_ret (pe_tup (pa_cons (pe_lst (pa_cons (pe_tup (pa_cons (pv 1) pa_nil)) (pa_cons (pe_tup (pa_cons pe_int (pa_cons pe_int pa_nil))) (pa_cons (pe_tup (pa_cons (pv 1) pa_nil)) (pa_cons (pe_tup (pa_cons pe_int (pa_cons pe_int pa_nil))) (pa_cons (pe_tup (pa_cons (pe_op op_sub (pv 1) pe_int) (pa_cons pe_int pa_nil))) pa_nil)))))) (pa_cons (pe_tup (pa_cons (pe_tup (pa_cons pe_int (pa_cons pe_int pa_nil))) (pa_cons (pe_tup (pa_cons (pv 1) (pa_cons pe_int pa_nil))) pa_nil))) pa_nil)))))))))))), ?_⟩
    refine ⟨.ref d, rfl, _, _, rfl, rfl, ⟨by decide, by decide, by decide⟩, d, q, _, rfl, dl, by decide, by decide, fun H1 r1 dl1 bt1 lo1 hi1 => ⟨_, _, rfl, rfl, ?_⟩⟩
    refine ⟨.ref d, rfl, d, q, 900, rfl, dl1, by decide, by decide, fun H2 r2 dl2 bt2 lo2 hi2 => ⟨_, _, rfl, rfl, _, _, rfl, ?_⟩⟩
    have hi1' : r1 < 100000000 := hi1
    have g2 : 2 ≤ 2 + r1 := by omega
    have g8 : 2 + r1 ≤ 100000001 := by omega
    have m2 : 2 ≤ 2 + r2 := by omega
    have m8 : 2 + r2 ≤ 901 := by omega
    dsimp only
    generalize 2 + r1 = g at g2 g8 ⊢
    generalize 2 + r2 = m at m2 m8 ⊢
    clear hi1 hi1' lo1 lo2 hi2
    refine ⟨.ref d, rfl, d, q, 6, rfl, dl2, by decide, by decide, fun H3 r3 dl3 bt3 lo3 hi3 => ?_⟩
    have bt : But2 d q H H3 := (bt1.trans bt2).trans bt3
    clear bt1 bt2 bt3 dl1 dl2
    refine ⟨.int r3, rfl, rfl, _, rfl, ?_⟩
    refine ite2 (fun _ => ?_) (fun _ => ?_)
    · skip
      refine ⟨by show 2 ≤ sizeLine; decide, fun t1 ht1 => ⟨.int g, rfl, by show 2 ≤ sizeLine; decide, fun t2 ht2 => ⟨by show 2 ≤ sizeLine; decide, fun pr hpr => ⟨by show 2 ≤ sizeLine; decide, fun u1 hu1 => ⟨.int g, rfl, _, _, rfl, rfl, by show 2 ≤ sizeLine; decide, fun u2 hu2 => ⟨by show 2 ≤ sizeLine; decide, fun du hdu => ⟨by show 2 ≤ sizeLine; decide, fun p hp => ?_⟩⟩⟩⟩⟩⟩⟩
      have st1 := same_new (o := .tup [.int 0, .int 2]) ht1
      have st2 := same_new (o := .tup [.int (g), .int 1]) ht2
      have spr := same_new (o := .lst [.ref t1, .ref t2]) hpr
      have su1 := same_new (o := .tup [.int 0, .int 0]) hu1
      have su2 := same_new (o := .tup [.int (g + 1), .int 1]) hu2
      have sdu := same_new (o := .tup [.ref u1, .ref u2]) hdu
      have sp := same_new (o := .tup [.ref pr, .ref du]) hp
      have sa := st1.trans (st2.trans (spr.trans (su1.trans (su2.trans (sdu.trans (sp))))))
      have et1 := sp _ _ (sdu _ _ (su2 _ _ (su1 _ _ (spr _ _ (st2 _ _ (upd_same (a := t1)))))))
      have et2 := sp _ _ (sdu _ _ (su2 _ _ (su1 _ _ (spr _ _ (upd_same (a := t2))))))
      have epr := sp _ _ (sdu _ _ (su2 _ _ (su1 _ _ (upd_same (a := pr)))))
      have eu1 := sp _ _ (sdu _ _ (su2 _ _ (upd_same (a := u1))))
      have eu2 := sp _ _ (sdu _ _ (upd_same (a := u2)))
      have edu := sp _ _ (upd_same (a := du))
      have G := ((RowsG.one (r := [0, 2]) et1).append (RowsG.one (r := [g, 1]) et2))
      have fpr := (st1.trans (st2)).free hpr
      refine k _ p pr du u1 u2 [t1, t2] [[0, 2], [g, 1]] (g + 1) 0 1 ⟨dl3.same sa, upd_same, epr, G, edu, eu1, eu2, Rw.known0 g2 g8⟩ (bt.trans (But2.of sa)) (bt.free dl3 fpr)
    refine ⟨.int r3, rfl, rfl, _, rfl, ?_⟩
    refine ite2 (fun _ => ?_) (fun _ => ?_)
    · skip
      refine ⟨.int g, rfl, by show 2 ≤ sizeLine; decide, fun t1 ht1 => ⟨by show 2 ≤ sizeLine; decide, fun t2 ht2 => ⟨by show 2 ≤ sizeLine; decide, fun pr hpr => ⟨by show 2 ≤ sizeLine; decide, fun u1 hu1 => ⟨.int g, rfl, by show 2 ≤ sizeLine; decide, fun u2 hu2 => ⟨by show 2 ≤ sizeLine; decide, fun du hdu => ⟨by show 2 ≤ sizeLine; decide, fun p hp => ?_⟩⟩⟩⟩⟩⟩⟩
      have st1 := same_new (o := .tup [.int (g), .int 1]) ht1
      have st2 := same_new (o := .tup [.int 0, .int 2]) ht2
      have spr := same_new (o := .lst [.ref t1, .ref t2]) hpr
      have su1 := same_new (o := .tup [.int 0, .int 1]) hu1
      have su2 := same_new (o := .tup [.int (g), .int 0]) hu2
      have sdu := same_new (o := .tup [.ref u1, .ref u2]) hdu
      have sp := same_new (o := .tup [.ref pr, .ref du]) hp
      have sa := st1.trans (st2.trans (spr.trans (su1.trans (su2.trans (sdu.trans (sp))))))
      have et1 := sp _ _ (sdu _ _ (su2 _ _ (su1 _ _ (spr _ _ (st2 _ _ (upd_same (a := t1)))))))
      have et2 := sp _ _ (sdu _ _ (su2 _ _ (su1 _ _ (spr _ _ (upd_same (a := t2))))))
      have epr := sp _ _ (sdu _ _ (su2 _ _ (su1 _ _ (upd_same (a := pr)))))
      have eu1 := sp _ _ (sdu _ _ (su2 _ _ (upd_same (a := u1))))
      have eu2 := sp _ _ (sdu _ _ (upd_same (a := u2)))
      have edu := sp _ _ (upd_same (a := du))
      have G := ((RowsG.one (r := [g, 1]) et1).append (RowsG.one (r := [0, 2]) et2))
      have fpr := (st1.trans (st2)).free hpr
      refine k _ p pr du u1 u2 [t1, t2] [[g, 1], [0, 2]] (g) 1 0 ⟨dl3.same sa, upd_same, epr, G, edu, eu1, eu2, Rw.known1 g2 g8⟩ (bt.trans (But2.of sa)) (bt.free dl3 fpr)
    refine ⟨.int r3, rfl, rfl, _, rfl, ?_⟩
    refine ite2 (fun _ => ?_) (fun _ => ?_)
    · skip
      refine ⟨by show 3 ≤ sizeLine; decide, fun t1 ht1 => ⟨.int g, rfl, by show 2 ≤ sizeLine; decide, fun t2 ht2 => ⟨by show 2 ≤ sizeLine; decide, fun pr hpr => ⟨by show 2 ≤ sizeLine; decide, fun u1 hu1 => ⟨.int g, rfl, _, _, rfl, rfl, by show 2 ≤ sizeLine; decide, fun u2 hu2 => ⟨by show 2 ≤ sizeLine; decide, fun du hdu => ⟨by show 2 ≤ sizeLine; decide, fun p hp => ?_⟩⟩⟩⟩⟩⟩⟩
      have st1 := same_new (o := .tup [.int 0, .int 0, .int 1]) ht1
      have st2 := same_new (o := .tup [.int 0, .int (g)]) ht2
      have spr := same_new (o := .lst [.ref t1, .ref t2]) hpr
      have su1 := same_new (o := .tup [.int 0, .int 0]) hu1
      have su2 := same_new (o := .tup [.int (g + 1), .int 1]) hu2
      have sdu := same_new (o := .tup [.ref u1, .ref u2]) hdu
      have sp := same_new (o := .tup [.ref pr, .ref du]) hp
      have sa := st1.trans (st2.trans (spr.trans (su1.trans (su2.trans (sdu.trans (sp))))))
      have et1 := sp _ _ (sdu _ _ (su2 _ _ (su1 _ _ (spr _ _ (st2 _ _ (upd_same (a := t1)))))))
      have et2 := sp _ _ (sdu _ _ (su2 _ _ (su1 _ _ (spr _ _ (upd_same (a := t2))))))
      have epr := sp _ _ (sdu _ _ (su2 _ _ (su1 _ _ (upd_same (a := pr)))))
      have eu1 := sp _ _ (sdu _ _ (su2 _ _ (upd_same (a := u1))))
      have eu2 := sp _ _ (sdu _ _ (upd_same (a := u2)))
      have edu := sp _ _ (upd_same (a := du))
      have G := ((RowsG.one (r := [0, 0, 1]) et1).append (RowsG.one (r := [0, g]) et2))
      have fpr := (st1.trans (st2)).free hpr
      refine k _ p pr du u1 u2 [t1, t2] [[0, 0, 1], [0, g]] (g + 1) 0 1 ⟨dl3.same sa, upd_same, epr, G, edu, eu1, eu2, Rw.known2 g2 g8⟩ (bt.trans (But2.of sa)) (bt.free dl3 fpr)
    refine ⟨.int r3, rfl, rfl, _, rfl, ?_⟩
    refine ite2 (fun _ => ?_) (fun _ => ?_)
    · skip
      refine ⟨by show 4 ≤ sizeLine; decide, fun t1 ht1 => ⟨.int g, rfl, by show 3 ≤ sizeLine; decide, fun t2 ht2 => ⟨.int g, rfl, .int g, rfl, by show 3 ≤ sizeLine; decide, fun t3 ht3 => ⟨by show 3 ≤ sizeLine; decide, fun pr hpr => ⟨.int g, rfl, _, _, rfl, rfl, _, rfl, ?_⟩⟩⟩⟩⟩
      refine ite2 (fun _ => ?_) (fun _ => ?_)
      · skip
        refine ⟨by show 2 ≤ sizeLine; decide, fun u1 hu1 => ⟨.int g, rfl, _, _, rfl, rfl, by show 2 ≤ sizeLine; decide, fun u2 hu2 => ⟨by show 2 ≤ sizeLine; decide, fun du hdu => ⟨by show 2 ≤ sizeLine; decide, fun p hp => ?_⟩⟩⟩⟩
        have st1 := same_new (o := .tup [.int 0, .int 0, .int 0, .int 1]) ht1
        have st2 := same_new (o := .tup [.int 0, .int 0, .int (g)]) ht2
        have st3 := same_new (o := .tup [.int 0, .int (g), .int (g)]) ht3
        have spr := same_new (o := .lst [.ref t1, .ref t2, .ref t3]) hpr
        have su1 := same_new (o := .tup [.int 0, .int 0]) hu1
        have su2 := same_new (o := .tup [.int (g + 1), .int 1]) hu2
        have sdu := same_new (o := .tup [.ref u1, .ref u2]) hdu
        have sp := same_new (o := .tup [.ref pr, .ref du]) hp
        have sa := st1.trans (st2.trans (st3.trans (spr.trans (su1.trans (su2.trans (sdu.trans (sp)))))))
        have et1 := sp _ _ (sdu _ _ (su2 _ _ (su1 _ _ (spr _ _ (st3 _ _ (st2 _ _ (upd_same (a := t1))))))))
        have et2 := sp _ _ (sdu _ _ (su2 _ _ (su1 _ _ (spr _ _ (st3 _ _ (upd_same (a := t2)))))))
        have et3 := sp _ _ (sdu _ _ (su2 _ _ (su1 _ _ (spr _ _ (upd_same (a := t3))))))
        have epr := sp _ _ (sdu _ _ (su2 _ _ (su1 _ _ (upd_same (a := pr)))))
        have eu1 := sp _ _ (sdu _ _ (su2 _ _ (upd_same (a := u1))))
        have eu2 := sp _ _ (sdu _ _ (upd_same (a := u2)))
        have edu := sp _ _ (upd_same (a := du))
        have G := ((RowsG.one (r := [0, 0, 0, 1]) et1).append ((RowsG.one (r := [0, 0, g]) et2).append (RowsG.one (r := [0, g, g]) et3)))
        have fpr := (st1.trans (st2.trans (st3))).free hpr
        refine k _ p pr du u1 u2 [t1, t2, t3] [[0, 0, 0, 1], [0, 0, g], [0, g, g]] (g + 1) 0 1 ⟨dl3.same sa, upd_same, epr, G, edu, eu1, eu2, Rw.known3 g2 g8⟩ (bt.trans (But2.of sa)) (bt.free dl3 fpr)
      · skip
        refine ⟨by show 2 ≤ sizeLine; decide, fun u1 hu1 => ⟨.int g, rfl, _, _, rfl, rfl, by show 2 ≤ sizeLine; decide, fun u2 hu2 => ⟨by show 2 ≤ sizeLine; decide, fun du hdu => ⟨by show 2 ≤ sizeLine; decide, fun p hp => ?_⟩⟩⟩⟩
        have st1 := same_new (o := .tup [.int 0, .int 0, .int 0, .int 1]) ht1
        have st2 := same_new (o := .tup [.int 0, .int 0, .int (g)]) ht2
        have st3 := same_new (o := .tup [.int 0, .int (g), .int (g)]) ht3
        have spr := same_new (o := .lst [.ref t1, .ref t2, .ref t3]) hpr
        have su1 := same_new (o := .tup [.int 0, .int 0]) hu1
        have su2 := same_new (o := .tup [.int (g + 1), .int 1]) hu2
        have sdu := same_new (o := .tup [.ref u1, .ref u2]) hdu
        have sp := same_new (o := .tup [.ref pr, .ref du]) hp
        have sa := st1.trans (st2.trans (st3.trans (spr.trans (su1.trans (su2.trans (sdu.trans (sp)))))))
        have et1 := sp _ _ (sdu _ _ (su2 _ _ (su1 _ _ (spr _ _ (st3 _ _ (st2 _ _ (upd_same (a := t1))))))))
        have et2 := sp _ _ (sdu _ _ (su2 _ _ (su1 _ _ (spr _ _ (st3 _ _ (upd_same (a := t2)))))))
        have et3 := sp _ _ (sdu _ _ (su2 _ _ (su1 _ _ (spr _ _ (upd_same (a := t3))))))
        have epr := sp _ _ (sdu _ _ (su2 _ _ (su1 _ _ (upd_same (a := pr)))))
        have eu1 := sp _ _ (sdu _ _ (su2 _ _ (upd_same (a := u1))))
        have eu2 := sp _ _ (sdu _ _ (upd_same (a := u2)))
        have edu := sp _ _ (upd_same (a := du))
        have G := ((RowsG.one (r := [0, 0, 0, 1]) et1).append ((RowsG.one (r := [0, 0, g]) et2).append (RowsG.one (r := [0, g, g]) et3)))
        have fpr := (st1.trans (st2.trans (st3))).free hpr
        refine k _ p pr du u1 u2 [t1, t2, t3] [[0, 0, 0, 1], [0, 0, g], [0, g, g]] (g + 1) 0 1 ⟨dl3.same sa, upd_same, epr, G, edu, eu1, eu2, Rw.known3 g2 g8⟩ (bt.trans (But2.of sa)) (bt.free dl3 fpr)
    refine ⟨.int r3, rfl, rfl, _, rfl, ?_⟩
    refine ite2 (fun _ => ?_) (fun _ => ?_)
    · skip
      refine ⟨by show 8 ≤ sizeLine; decide, fun t1 ht1 => ⟨.int m, rfl, by show 7 ≤ sizeLine; decide, fun t2 ht2 => ⟨.int m, rfl, _, _, rfl, rfl, by show 7 ≤ sizeLine; decide, fun t3 ht3 => ⟨by show 3 ≤ sizeLine; decide, fun pr hpr => ⟨by show 2 ≤ sizeLine; decide, fun u1 hu1 => ⟨.int m, rfl, _, _, rfl, rfl, by show 2 ≤ sizeLine; decide, fun u2 hu2 => ⟨by show 2 ≤ sizeLine; decide, fun du hdu => ⟨by show 2 ≤ sizeLine; decide, fun p hp => ?_⟩⟩⟩⟩⟩⟩⟩⟩
      have st1 := same_new (o := .tup [.int 0, .int 0, .int 0, .int 0, .int 0, .int 0, .int 0, .int 1]) ht1
      have st2 := same_new (o := .tup [.int 0, .int 0, .int 0, .int 0, .int 0, .int 0, .int (m)]) ht2
      have st3 := same_new (o := .tup [.int 7, .int 0, .int 0, .int 0, .int 0, .int 0, .int (m + 1)]) ht3
      have spr := same_new (o := .lst [.ref t1, .ref t2, .ref t3]) hpr
      have su1 := same_new (o := .tup [.int 0, .int 0]) hu1
      have su2 := same_new (o := .tup [.int (m + 1), .int 1]) hu2
      have sdu := same_new (o := .tup [.ref u1, .ref u2]) hdu
      have sp := same_new (o := .tup [.ref pr, .ref du]) hp
      have sa := st1.trans (st2.trans (st3.trans (spr.trans (su1.trans (su2.trans (sdu.trans (sp)))))))
      have et1 := sp _ _ (sdu _ _ (su2 _ _ (su1 _ _ (spr _ _ (st3 _ _ (st2 _ _ (upd_same (a := t1))))))))
      have et2 := sp _ _ (sdu _ _ (su2 _ _ (su1 _ _ (spr _ _ (st3 _ _ (upd_same (a := t2)))))))
      have et3 := sp _ _ (sdu _ _ (su2 _ _ (su1 _ _ (spr _ _ (upd_same (a := t3))))))
      have epr := sp _ _ (sdu _ _ (su2 _ _ (su1 _ _ (upd_same (a := pr)))))
      have eu1 := sp _ _ (sdu _ _ (su2 _ _ (upd_same (a := u1))))
      have eu2 := sp _ _ (sdu _ _ (upd_same (a := u2)))
      have edu := sp _ _ (upd_same (a := du))
      have G := ((RowsG.one (r := [0, 0, 0, 0, 0, 0, 0, 1]) et1).append ((RowsG.one (r := [0, 0, 0, 0, 0, 0, m]) et2).append (RowsG.one (r := [7, 0, 0, 0, 0, 0, m + 1]) et3)))
      have fpr := (st1.trans (st2.trans (st3))).free hpr
      refine k _ p pr du u1 u2 [t1, t2, t3] [[0, 0, 0, 0, 0, 0, 0, 1], [0, 0, 0, 0, 0, 0, m], [7, 0, 0, 0, 0, 0, m + 1]] (m + 1) 0 1 ⟨dl3.same sa, upd_same, epr, G, edu, eu1, eu2, Rw.known4 m2 m8⟩ (bt.trans (But2.of sa)) (bt.free dl3 fpr)
    refine ⟨.int g, rfl, by show 1 ≤ sizeLine; decide, fun t1 ht1 => ⟨by show 2 ≤ sizeLine; decide, fun t2 ht2 => ⟨.int g, rfl, by show 1 ≤ sizeLine; decide, fun t3 ht3 => ⟨by show 2 ≤ sizeLine; decide, fun t4 ht4 => ⟨.int g, rfl, _, _, rfl, rfl, by show 2 ≤ sizeLine; decide, fun t5 ht5 => ⟨by show 5 ≤ sizeLine; decide, fun pr hpr => ⟨by show 2 ≤ sizeLine; decide, fun u1 hu1 => ⟨.int g, rfl, by show 2 ≤ sizeLine; decide, fun u2 hu2 => ⟨by show 2 ≤ sizeLine; decide, fun du hdu => ⟨by show 2 ≤ sizeLine; decide, fun p hp => ?_⟩⟩⟩⟩⟩⟩⟩⟩⟩⟩
    have st1 := same_new (o := .tup [.int (g)]) ht1
    have st2 := same_new (o := .tup [.int 0, .int 1]) ht2
    have st3 := same_new (o := .tup [.int (g)]) ht3
    have st4 := same_new (o := .tup [.int 0, .int 1]) ht4
    have st5 := same_new (o := .tup [.int (g - 1), .int 1]) ht5
    have spr := same_new (o := .lst [.ref t1, .ref t2, .ref t3, .ref t4, .ref t5]) hpr
    have su1 := same_new (o := .tup [.int 0, .int 1]) hu1
    have su2 := same_new (o := .tup [.int (g), .int 0]) hu2
    have sdu := same_new (o := .tup [.ref u1, .ref u2]) hdu
    have sp := same_new (o := .tup [.ref pr, .ref du]) hp
    have sa := st1.trans (st2.trans (st3.trans (st4.trans (st5.trans (spr.trans (su1.trans (su2.trans (sdu.trans (sp)))))))))
    have et1 := sp _ _ (sdu _ _ (su2 _ _ (su1 _ _ (spr _ _ (st5 _ _ (st4 _ _ (st3 _ _ (st2 _ _ (upd_same (a := t1))))))))))
    have et2 := sp _ _ (sdu _ _ (su2 _ _ (su1 _ _ (spr _ _ (st5 _ _ (st4 _ _ (st3 _ _ (upd_same (a := t2)))))))))
    have et3 := sp _ _ (sdu _ _ (su2 _ _ (su1 _ _ (spr _ _ (st5 _ _ (st4 _ _ (upd_same (a := t3))))))))
    have et4 := sp _ _ (sdu _ _ (su2 _ _ (su1 _ _ (spr _ _ (st5 _ _ (upd_same (a := t4)))))))
    have et5 := sp _ _ (sdu _ _ (su2 _ _ (su1 _ _ (spr _ _ (upd_same (a := t5))))))
    have epr := sp _ _ (sdu _ _ (su2 _ _ (su1 _ _ (upd_same (a := pr)))))
    have eu1 := sp _ _ (sdu _ _ (su2 _ _ (upd_same (a := u1))))
    have eu2 := sp _ _ (sdu _ _ (upd_same (a := u2)))
    have edu := sp _ _ (upd_same (a := du))
    have G := ((RowsG.one (r := [g]) et1).append ((RowsG.one (r := [0, 1]) et2).append ((RowsG.one (r := [g]) et3).append ((RowsG.one (r := [0, 1]) et4).append (RowsG.one (r := [g - 1, 1]) et5)))))
    have fpr := (st1.trans (st2.trans (st3.trans (st4.trans (st5))))).free hpr
    refine k _ p pr du u1 u2 [t1, t2, t3, t4, t5] [[g], [0, 1], [g], [0, 1], [g - 1, 1]] (g) 1 0 ⟨dl3.same sa, upd_same, epr, G, edu, eu1, eu2, Rw.known5 g2 g8⟩ (bt.trans (But2.of sa)) (bt.free dl3 fpr)
end
end Ea
set_option maxRecDepth 100000
set_option maxHeartbeats 4000000
namespace Ea
open PySem PySem.Spec PyProof.Rows L2
abbrev s_law : Stmt := topS 31
/-- the defs and classes of the top, as they stand behind it -/
structure Defs (K : PySem.W.Frag) (mg : Str → Option Value) : Prop where
  d_worth : ∃ f fd, DefAt K mg "worth" s_worth ["row", "size"] f fd
  d_sign_of : ∃ f fd, DefAt K mg "sign_of" s_sign_of ["number"] f fd
  d_row_less : ∃ f fd, DefAt K mg "row_less" s_row_less ["one", "other"] f fd
  d_shifted : ∃ f fd, DefAt K mg "shifted" s_shifted ["row"] f fd
  d_growth_row : ∃ f fd, DefAt K mg "growth_row" s_growth_row ["row"] f fd
  d_first_other : ∃ f fd, DefAt K mg "first_other" s_first_other ["row", "low", "high"] f fd
  d_turns_between : ∃ f fd, DefAt K mg "turns_between" s_turns_between ["row", "low", "high"] f fd
  d_turns_of : ∃ f fd, DefAt K mg "turns_of" s_turns_of ["row", "most"] f fd
  d_greatest_turn : ∃ f fd, DefAt K mg "greatest_turn" s_greatest_turn ["row"] f fd
  d_sizes_of_turns : ∃ f fd, DefAt K mg "sizes_of_turns" s_sizes_of_turns ["rows"] f fd
  d_cheapest_row : ∃ f fd, DefAt K mg "cheapest_row" s_cheapest_row ["rows", "size"] f fd
  d_least_rows : ∃ f fd, DefAt K mg "least_rows" s_least_rows ["rows"] f fd
  d__law_deal : ∃ f fd, DefAt K mg "_law_deal" s__law_deal ["script", "salt"] f fd
  d__law_any : ∃ f fd, DefAt K mg "_law_any" s__law_any ["deal", "bound"] f fd
  d__law_is_kind : ∃ f fd, DefAt K mg "_law_is_kind" s__law_is_kind ["told", "due"] f fd
  d__law_same : ∃ f fd, DefAt K mg "_law_same" s__law_same ["told", "due"] f fd
  d__law_all : ∃ f fd, DefAt K mg "_law_all" s__law_all ["pairs"] f fd
  d__law_plain : ∃ f fd, DefAt K mg "_law_plain" s__law_plain ["value"] f fd
  d__law_worth_of : ∃ f fd, DefAt K mg "_law_worth_of" s__law_worth_of ["row", "size"] f fd
  d__law_known : ∃ f fd, DefAt K mg "_law_known" s__law_known ["deal"] f fd
  cl : Cls K mg
  T : Txt mg
section
variable {P : Program} {w : World} {K : PySem.W.Frag} {mg : Str → Option Value} {base : Heap}
def spLaw (K : PySem.W.Frag) : Sp := fun vs H Q _ => ∃ (a : Addr) (ns : List Int), vs = [.ref a] ∧ SqL K H a (ns.map V.int) ∧ ns.length ≤ 63 ∧ ∀ H', Q (.bl true) H'
theorem cut_take {xs : List V} {k : Nat} : cutV xs none (some (k : Int)) = xs.take k := by
  unfold cutV
  rw [HT.sIx_none, HT.sIx_nat, List.drop_zero, Nat.sub_zero]
  rcases Nat.le_total k xs.length with h | h
  · rw [Nat.min_eq_left h]
  · rw [Nat.min_eq_right h, List.take_length, List.take_of_length_le h]
/-- all tuples are kept, and the lists that are named -/
structure Kp (L : List Addr) (H H' : Hp) : Prop where
  tup : ∀ b xs, H b = some (.tup xs) → H' b = some (.tup xs)
  lst : ∀ b ∈ L, ∀ xs, H b = some (.lst xs) → H' b = some (.lst xs)
theorem Kp.refl (L : List Addr) (H : Hp) : Kp L H H := ⟨fun _ _ e => e, fun _ _ _ e => e⟩
theorem Kp.trans {L : List Addr} {H H' H'' : Hp} (h : Kp L H H') (k : Kp L H' H'') : Kp L H H'' := ⟨fun b xs e => k.tup b xs (h.tup b xs e), fun b m xs e => k.lst b m xs (h.lst b m xs e)⟩
theorem Kp.same {L : List Addr} {H H' : Hp} (s : Same H H') : Kp L H H' := ⟨tupKeep s, fun b _ xs e => s _ _ e⟩
theorem Kp.but {L : List Addr} {H H' : Hp} {d q : Addr} (bt : But2 d q H H') (dl : DealAt H d q) (h : ∀ b ∈ L, b ≠ d ∧ b ≠ q) : Kp L H H' := ⟨bt.tup dl, fun b m xs e => bt b _ (h b m).1 (h b m).2 e⟩
theorem Kp.upd {L : List Addr} {H : Hp} {p : Addr} {xs : List V} {o : HO} (e : H p = some (.lst xs)) (h : ∀ b ∈ L, b ≠ p) : Kp L H (upd H p o) := ⟨updTup e, fun b m ys eb => by rw [upd_ne (h b m)]; exact eb⟩
theorem Kp.less {L L' : List Addr} {H H' : Hp} (h : Kp L H H') (s : ∀ b ∈ L', b ∈ L) : Kp L' H H' := ⟨h.tup, fun b m => h.lst b (s b m)⟩
theorem Inv1.kp {H H' : Hp} {d q pp : Addr} {ts L : List Addr} (I : Inv1 H d q pp ts) (k : Kp L H H') (m : pp ∈ L) (dl : DealAt H' d q) : Inv1 H' d q pp ts := ⟨dl, I.pd, I.pq, k.lst _ m _ I.pairs, I.ok.keep k.tup⟩
theorem Spare.ok {rs ss : List (List Int)} {t : Int} {m n : Nat} (K : Rw.Known rs t m n) (h : Rw.Spare rs ss) (l : ss.length ≤ 2) : ∃ L, RowsOk L (rs ++ ss) := by
  obtain ⟨L, l8, hl, cap⟩ := K.cap
  have few := K.few
  refine ⟨L, fun r hr => ?_, fun r hr => ?_, l8, fun r hr => ?_, ?_, by rw [List.length_append]; omega⟩
  · rcases List.mem_append.mp hr with hr | hr
    · exact K.len r hr
    · obtain ⟨r', hr', _, ab⟩ := h r hr
      rw [ab.len]; exact K.len r' hr'
  · rcases List.mem_append.mp hr with hr | hr
    · exact hl r hr
    · obtain ⟨r', hr', _, ab⟩ := h r hr
      rw [ab.len]; exact hl r' hr'
  · have key : ∀ r : List Int, r.length ≤ 8 → (∀ c ∈ r, 0 ≤ c ∧ c ≤ 100000012) → Rw.asum r ≤ 2 ^ 50 := fun r h8 hc => by
      have := Rw.asum_le (lo := 0) (hi := 100000012) (B := 100000012) (by decide) (by decide) r hc
      omega
    rcases List.mem_append.mp hr with hr | hr
    · exact key r (Nat.le_trans (hl r hr) l8) fun c hc => by have := K.vals r hr c hc; omega
    · obtain ⟨r', hr', _, ab⟩ := h r hr
      refine key r (by rw [ab.len]; exact Nat.le_trans (hl r' hr') l8) fun c hc => ?_
      have := ab.mem (K.vals r' hr') c hc
      omega
  · rw [List.length_append]
    exact Nat.le_trans (Nat.mul_le_mul_right _ (Rw.tri_mono (by omega))) cap
theorem above_snoc {r s : List Int} {a b : Int} (h1 : a + 1 ≤ b) (h2 : b ≤ a + 9) : ∀ {r s : List Int}, Rw.Above r s → Rw.Above (r ++ [a]) (s ++ [b])
  | _, _, .nil => .cons h1 h2 .nil
  | _, _, .cons k1 k2 t => .cons k1 k2 (above_snoc (r := []) (s := []) h1 h2 t)
theorem filt1 {α : Type} {p : α → Bool} {x : α} (h : p x = true) : [x].filter p = [x] := by simp [h]
theorem filt0 {α : Type} {p : α → Bool} {x : α} (h : ¬ p x = true) : [x].filter p = [] := by simp [h]
theorem at_lastV (l : List V) (x : V) : atI (l ++ [x]) (-(1 : Int)) = some x := by
  rw [at_last (by rw [List.length_append]; exact Nat.succ_pos _), List.length_append, List.length_singleton, Nat.add_sub_cancel, List.getElem?_append_right (Nat.le_refl _), Nat.sub_self]
  rfl
theorem begun_is {rs : List (List Int)} {t y : Int} {m n : Nat} (K : Rw.Known rs t m n) (h : 0 ≤ y) : ∃ l0 : List V, ([((0 : Int), m), (t, n)].filter (fun p => decide (p.1 ≤ y))).map (fun p => V.int ((p.2 : Nat) : Int)) = l0 ++ [V.int ((Rw.bst rs y : Nat) : Int)] := by
  by_cases c : t ≤ y
  · refine ⟨[V.int ((m : Nat) : Int)], ?_⟩
    rw [K.hi y c]
    simp [h, c]
  · refine ⟨[], ?_⟩
    rw [K.lo y h (by omega)]
    simp [h, c]
theorem map_snoc (l : List Int) (x : Int) : (l ++ [x]).map V.int = l.map V.int ++ [V.int x] := by
  rw [List.map_append]; rfl
abbrev N_law : List Str := ["script", "deal", "pairs", "turn", "rows", "due", "number", "spare", "told", "size", "at", "begun", "steps", "row", "pair"]
theorem S_law : FnScope N_law ["script"] (defScope s_law) := ⟨rfl, rfl, rfl, by decide +kernel, rfl, by decide +kernel, by decide +kernel⟩
theorem ok_law {f : Addr} {fd : FuncData} (F : Fun K "law" "law" s_law f fd) (D : Defs K mg) : FnOk P w K mg base CX0 7 f fd ["script"] (spLaw K) := by
  have T := D.T
  have C := D.cl
  obtain ⟨f1, fd1, D_worth⟩ := D.d_worth
  obtain ⟨f2, fd2, D_sign_of⟩ := D.d_sign_of
  obtain ⟨f3, fd3, D_row_less⟩ := D.d_row_less
  obtain ⟨f4, fd4, D_shifted⟩ := D.d_shifted
  obtain ⟨f5, fd5, D_growth_row⟩ := D.d_growth_row
  obtain ⟨f6, fd6, D_first_other⟩ := D.d_first_other
  obtain ⟨f7, fd7, D_turns_between⟩ := D.d_turns_between
  obtain ⟨f8, fd8, D_turns_of⟩ := D.d_turns_of
  obtain ⟨f9, fd9, D_greatest_turn⟩ := D.d_greatest_turn
  obtain ⟨f10, fd10, D_sizes_of_turns⟩ := D.d_sizes_of_turns
  obtain ⟨f11, fd11, D_cheapest_row⟩ := D.d_cheapest_row
  obtain ⟨f12, fd12, D_least_rows⟩ := D.d_least_rows
  obtain ⟨f13, fd13, D__law_deal⟩ := D.d__law_deal
  obtain ⟨f14, fd14, D__law_any⟩ := D.d__law_any
  obtain ⟨f15, fd15, D__law_is_kind⟩ := D.d__law_is_kind
  obtain ⟨f16, fd16, D__law_same⟩ := D.d__law_same
  obtain ⟨f17, fd17, D__law_all⟩ := D.d__law_all
  obtain ⟨f18, fd18, D__law_plain⟩ := D.d__law_plain
  obtain ⟨f19, fd19, D__law_worth_of⟩ := D.d__law_worth_of
  obtain ⟨f20, fd20, D__law_known⟩ := D.d__law_known
  have G_least_rows : FnOk P w K mg base CX0 6 f12 fd12 ["rows"] (spLeast K) := ok_least_rows D_least_rows D_sizes_of_turns D_cheapest_row D_turns_of D_turns_between D_first_other D_worth D_sign_of D_growth_row D_row_less D_shifted D_greatest_turn T
  have G__law_deal : FnOk P w K mg base CX0 1 f13 fd13 ["script", "salt"] (spDeal K) := ok__law_deal D__law_deal T
  have G__law_any : FnOk P w K mg base CX0 1 f14 fd14 ["deal", "bound"] spAny := ok__law_any D__law_any T
  have G__law_known : FnOk P w K mg base CX0 2 f20 fd20 ["deal"] spKnown := ok__law_known D__law_known D__law_any T
  have G__law_worth_of : FnOk P w K mg base CX0 1 f19 fd19 ["row", "size"] (spWorth K) := ok__law_worth_of D__law_worth_of T
  have G__law_all : FnOk P w K mg base CX0 3 f17 fd17 ["pairs"] spAll := ok__law_all D__law_all D__law_same D__law_plain D__law_is_kind C T
  have K_least_rows : KBinds K fd12 ["rows"] ["rows"] (fun us ws => us ++ ws) (fun vs zs => vs ++ zs) := EaK.kb_one D_least_rows.F (fun _ _ _ _ _ _ _ => rfl) (fun _ _ _ _ _ _ _ => rfl)
  refine F.ok S_law (fun vs H Q E h => ?_) (fun cdv A outer s H vs Q E hr h => ?_)
  · obtain ⟨a, ns, rfl, _⟩ := h
    rfl
  · obtain ⟨a, ns, rfl, hA, l63, q⟩ := h
    refine ⟨_, (pss_cons (ps_asg (pe_tup (pa_cons (pe_call G__law_deal (hr.mono (by decide)) (by rfl) D__law_deal.g D__law_deal.F.kp D__law_deal.b .nil pass0 (pa_cons (pv 0) (pa_cons pe_int pa_nil))) (pa_cons (pe_lst pa_nil) pa_nil))) (pg_tup rfl (pgs_cons (pg_name (i := 1) S_law.nd rfl (.inr rfl)) (pgs_cons (pg_name (i := 2) S_law.nd rfl (.inl rfl)) pgs_nil))))
      (pss_cons (ps_for PassesOwn.never rfl (pi_range1 (by rfl) T.n_range (pa_cons pe_int pa_nil)) (pg_name (i := 3) S_law.nd rfl (.inl rfl))
        (pss_cons (ps_asg (pe_call G__law_known (hr.mono (by decide)) (by rfl) D__law_known.g D__law_known.F.kp D__law_known.b .nil pass0 (pa_cons (pv 1) pa_nil)) (pg_tup rfl (pgs_cons (pg_name (i := 4) S_law.nd rfl (.inl rfl)) (pgs_cons (pg_name (i := 5) S_law.nd rfl (.inl rfl)) pgs_nil))))
          (pss_cons (ps_setLc (i := 7) (own := [("row", 13)]) rfl S_law.nd rfl rfl (sw_true rfl rfl rfl (by decide +kernel)) (pi_list (pe_slice sl_list (pv 4) po_none (po_some (pe_call G__law_any (hr.mono (by decide)) (by rfl) D__law_any.g D__law_any.F.kp D__law_any.b .nil pass0 (pa_cons (pv 1) (pa_cons pe_int pa_nil)))))) (blkOk_by (own := [("row", 13)]) (N := N_law) (sc := defScope s_law) (by decide +kernel)) (fun _ _ _ _ _ => (pg_name (i := 13) S_law.nd rfl (.inl rfl))) (fun _ _ _ _ _ => pts_nil) (fun _ _ _ _ _ => (pe_callTy (T := "tuple") (EaK.tuple_ofK (K := K) rfl) (by rfl) T.n_tuple (by decide +kernel) (pa_cons (pe_lc (own := [("number", 6)]) rfl S_law.nd (EaK.pi_tupK (K := K) rfl (pv 13)) (by exact blkOk_by (own := [("number", 6)]) (N := N_law) (sc := { kind := .function, names := [(".0", .local), ("row", .local), ("tuple", .globalImplicit), ("deal", .cell)], isGenerator := false, isCoroutine := false }) (by decide +kernel)) (fun _ _ _ _ _ => (pg_name (i := 6) S_law.nd rfl (.inl rfl))) (fun _ _ _ _ _ => pts_nil) (fun _ _ _ _ _ => (pe_op op_add (pe_op op_add (pv 6) pe_int) (pe_call G__law_any (hr.mono (by decide)) (by rfl) D__law_any.g D__law_any.F.kp D__law_any.b .nil pass0 (pa_cons (pv 1) (pa_cons pe_int pa_nil)))))) pa_nil))))
          (pss_cons (ps_set (i := 8) S_law.nd rfl (.inl rfl) (pe_ifExp (pt_cmpR op_lt (pv 3) pe_int (nomark _)) (pe_call G_least_rows (hr.mono (by decide)) (by rfl) D_least_rows.g D_least_rows.F.kp D_least_rows.b .nil pass0 (pa_cons (pe_op op_cat (pv 4) (pv 7)) pa_nil)) (EaK.pe_callK0 G_least_rows (hr.mono (by decide)) (by rfl) D_least_rows.g D_least_rows.F.kp K_least_rows pass0 (pk_cons (pe_callTy call_tuple_of (by rfl) T.n_tuple (by decide +kernel) (pa_cons (pe_op op_cat (pv 4) (pv 7)) pa_nil)) pk_nil))))
          (pss_cons (ps_expr (pe_bm PySem.F.plainAttrs_list PySem.F.slot_list_append PySem.F.type_list_append mt_append (pv 2) (pa_cons (pe_tup (pa_cons (pv 8) (pa_cons (pv 5) pa_nil))) pa_nil)))
          (pss_one (ps_for PassesOwn.never rfl (pi_tup (pv 5)) (pg_tup rfl (pgs_cons (pg_name (i := 9) S_law.nd rfl (.inl rfl)) (pgs_cons (pg_name (i := 6) S_law.nd rfl (.inl rfl)) pgs_nil)))
          (pss_one (ps_for PassesOwn.never rfl (pi_list (pe_op op_cat (pe_lst (pa_cons (pv 9) (pa_cons (pe_op op_add (pv 9) (pe_call G__law_any (hr.mono (by decide)) (by rfl) D__law_any.g D__law_any.F.kp D__law_any.b .nil pass0 (pa_cons (pv 1) (pa_cons (pe_op op_pow pe_int pe_int) pa_nil)))) pa_nil))) (pe_ifExp (pt_cmpR op_gt (pv 9) pe_int (nomark _)) (pe_lst (pa_cons (pe_op op_sub (pv 9) pe_int) pa_nil)) (pe_lst pa_nil)))) (pg_name (i := 10) S_law.nd rfl (.inr rfl))
            (pss_cons (ps_set (i := 11) S_law.nd rfl (.inl rfl) (pe_ix ix_list (pe_lc (own := [("pair", 14)]) rfl S_law.nd (pi_tup (pv 5)) (blkOk_by (own := [("pair", 14)]) (N := N_law) (sc := defScope s_law) (by decide +kernel)) (fun _ _ _ _ _ => (pg_name (i := 14) S_law.nd rfl (.inl rfl))) (fun _ _ _ _ _ => (pts_one (pt_cmpR op_le (pe_ix (EaK.ix_tupK (K := K) rfl) (pv 14) pe_int (fun _ _ => rfl)) (pv 10) (nomark _)))) (fun _ _ _ _ _ => (pe_ix (EaK.ix_tupK (K := K) rfl) (pv 14) pe_int (fun _ _ => rfl)))) (pe_un un_neg pe_int) (fun _ _ => rfl)))
              (pss_cons (ps_setLc (i := 12) (own := [("row", 13)]) rfl S_law.nd rfl rfl (sw_true rfl rfl rfl (by decide +kernel)) (pi_list (pe_op op_cat (pv 4) (pv 7))) (blkOk_by (own := [("row", 13)]) (N := N_law) (sc := defScope s_law) (by decide +kernel)) (fun _ _ _ _ _ => (pg_name (i := 13) S_law.nd rfl (.inl rfl))) (fun _ _ _ _ _ => pts_nil) (fun _ _ _ _ _ => (pe_call G__law_worth_of (hr.mono (by decide)) (by rfl) D__law_worth_of.g D__law_worth_of.F.kp D__law_worth_of.b .nil pass0 (pa_cons (pv 13) (pa_cons (pv 10) pa_nil)))))
              (pss_one (ps_expr (pe_bm PySem.F.plainAttrs_list PySem.F.slot_list_append PySem.F.type_list_append mt_append (pv 2) (pa_cons (pe_tup (pa_cons (pe_bm PySem.F.plainAttrs_list PySem.F.slot_list_index PySem.F.type_list_index mt_index (pv 12) (pa_cons (pe_callB (cr_min rfl) (by rfl) T.n_min (by decide +kernel) (pa_cons (pv 12) pa_nil)) pa_nil)) (pa_cons (pv 11) pa_nil))) pa_nil)))))))))))))))
      (pss_one (ps_ret (pe_call G__law_all (hr.mono (by decide)) (by rfl) D__law_all.g D__law_all.F.kp D__law_all.b .nil pass0 (pa_cons (pv 2) pa_nil)))))), ?_⟩
    refine ⟨.ref a, rfl, a, ns, 63, rfl, hA, l63, by decide, by decide, fun H1 d q1 s1 dl nd nq => ⟨by show 0 ≤ sizeLine; decide, fun pp hpp => ⟨by show 2 ≤ sizeLine; decide, fun t ht => ⟨t, _, rfl, .inl (.inl upd_same), rfl, _, _, rfl, _, _, rfl, rfl, ?_⟩⟩⟩⟩
    have I0 : Inv1 (upd (upd H1 pp (.lst [])) t (.tup [.ref d, .ref pp])) d q1 pp [] :=
      ⟨(dl.same (same_new hpp)).same (same_new ht), (dl.fresh hpp).1, (dl.fresh hpp).2, same_new ht _ _ upd_same, fun t ht => by cases ht⟩
    generalize upd (upd H1 pp (.lst [])) t (.tup [.ref d, .ref pp]) = H2 at I0 ⊢
    clear s1 dl nd nq hpp ht
    refine ⟨_, rfl, by decide, by decide, ?_⟩
    refine for_range (lo := 0) (n := 6) (fun i σ H' => ∃ (ts : List Addr) (v3 v4 v5 v6 v7 v8 v9 v10 v11 v12 : Option V), σ = [some (.ref a), some (.ref d), some (.ref pp), v3, v4, v5, v6, v7, v8, v9, v10, v11, v12, none, none] ∧ Inv1 H' d q1 pp ts ∧ ts.length ≤ 7 * i)
      ⟨[], none, none, none, none, none, none, none, none, none, none, rfl, I0, Nat.le_refl _⟩ ?_ ?_
    · rintro i σ H3 hi ⟨ts, v3, v4, v5, v6, v7, v8, v9, v10, v11, v12, rfl, I3, lt⟩
      refine ⟨.ref d, rfl, d, q1, rfl, I3.deal, fun H4 p pr du u1 u2 as rs t m n KA bt4 fr => ⟨p, _, rfl, .inl (.inl KA.e), rfl, _, _, rfl, _, _, rfl, rfl, ?_⟩⟩
      have I4 := I3.but bt4 KA.deal
      obtain ⟨_, _, er, g, ed, e1, e2, KN⟩ := KA
      have prd := fr.1
      have prq := fr.2.1
      have prp : pr ≠ pp := (ne_of_none I3.pairs fr.2.2).symm
      have R4 : RowsL H4 d q1 pp pr as rs := ⟨prd, prq, prp, er, g⟩
      clear I3 bt4 fr
      have lr := g.len
      -- spare
      refine ⟨.ref pr, rfl, .ref d, rfl, d, q1, 3, rfl, I4.deal, by decide, by decide, fun H5 r dl5 bt5 r0 r1 => ?_⟩
      obtain ⟨k, rfl⟩ := Int.eq_ofNat_of_zero_le r0
      have kp5 : Kp [pr] H4 H5 := Kp.but bt5 I4.deal (fun b hb => by rw [List.mem_singleton] at hb; subst hb; exact ⟨prd, prq⟩)
      have I5 := I4.but bt5 dl5
      have R5 := R4.but bt5 I4.deal
      have ed5 := kp5.tup _ _ ed
      have e15 := kp5.tup _ _ e1
      have e25 := kp5.tup _ _ e2
      clear I4 R4 ed e1 e2 kp5 bt5 er g
      refine ⟨_, rfl, pr, _, rfl, SqL.of R5.e, fun gg hgg => ⟨gg, rfl, ⟨_, SqL.of upd_same⟩, fun D hD => ?_⟩⟩
      rw [cut_take, ← List.map_take] at hD ⊢
      have fgg := I5.deal.fresh hgg
      have s6 := same_new (o := .lst ((as.take k).map V.ref)) hgg
      have I6 := I5.same s6
      have R6 := R5.same s6
      have ed6 := s6 _ _ ed5
      have e16 := s6 _ _ e15
      have e26 := s6 _ _ e25
      have eg6 : upd H5 gg (.lst ((as.take k).map V.ref)) gg = some (.lst ((as.take k).map V.ref)) := upd_same
      generalize upd H5 gg (.lst ((as.take k).map V.ref)) = H6 at I6 R6 ed6 e16 e26 eg6 hD ⊢
      clear I5 R5 ed5 e15 e25 s6 hgg dl5
      have fD := I6.deal.fresh hD
      have Dpp : D ≠ pp := (ne_of_none I6.pairs hD).symm
      have Dpr : D ≠ pr := (ne_of_none R6.e hD).symm
      have Dgg : D ≠ gg := (ne_of_none eg6 hD).symm
      refine lc_list (xs := (as.take k).map V.ref) (fun j H' => ∃ (bs : List Addr) (ss : List (List Int)), DealAt H' d q1 ∧ Kp [pp, pr, gg] H6 H' ∧ H' D = some (.lst (bs.map V.ref)) ∧ RowsG H' bs ss ∧ ss.length = j ∧ Rw.Spare rs ss)
        ⟨[], [], I6.deal.same (same_new hD), .same (same_new hD), upd_same, .nil _, rfl, fun s hs => by cases hs⟩ (fun j H' _ h => by obtain ⟨_, _, _, h, _⟩ := h; exact SqL.of (h.lst gg (by simp) _ eg6)) ?_ ?_
      · rintro j y H7 hy ⟨bs, ss, dl7, kp7, eD, G7, lss, SP⟩
        rw [List.getElem?_map, Option.map_eq_some_iff] at hy
        obtain ⟨u, hu, rfl⟩ := hy
        have hj := lt_of_get hu
        rw [List.length_take] at hj
        obtain ⟨r, hr0⟩ : ∃ r, rs[j]? = some r := ⟨_, List.getElem?_eq_getElem (by omega)⟩
        have hu' : as[j]? = some u := by rw [List.getElem?_take, if_pos (by omega)] at hu; exact hu
        have hrm := List.mem_of_getElem? hr0
        have e7 := kp7.tup _ _ (R6.g.at_ j u r hu' hr0)
        refine ⟨rfl, .ref u, rfl, u, rfl, ⟨_, SqT.of e7⟩, fun D2 hD2 => ?_⟩
        have f2 := dl7.fresh hD2
        have n2 : D ≠ D2 := ne_of_none eD hD2
        have n3 : pp ≠ D2 := ne_of_none (kp7.lst pp (by simp) _ I6.pairs) hD2
        have n4 : pr ≠ D2 := ne_of_none (kp7.lst pr (by simp) _ R6.e) hD2
        have n5 : gg ≠ D2 := ne_of_none (kp7.lst gg (by simp) _ eg6) hD2
        have small8 : r.length ≤ 8 := by
          obtain ⟨L, l8, hl, _⟩ := KN.cap
          exact Nat.le_trans (hl r hrm) l8
        refine lc_tup (xs := r.map V.int) (fun c H' => ∃ cs : List Int, DealAt H' d q1 ∧ Kp [pp, pr, gg, D] H7 H' ∧ H' D2 = some (.lst (cs.map V.int)) ∧ Rw.Above (r.take c) cs)
          ⟨[], dl7.same (same_new hD2), .same (same_new hD2), upd_same, .nil⟩ (fun c H' _ h => by obtain ⟨_, _, h, _⟩ := h; exact SqT.of (h.tup _ _ e7)) ?_ ?_
        · rintro c z H8 hz ⟨cs, dl8, kp8, eD2, ab⟩
          obtain ⟨v, hv, rfl⟩ := get_mapI hz
          have lcs := ab.len
          have hc := lt_of_get hv
          rw [List.length_take] at lcs
          refine ⟨rfl, .int v, rfl, _, _, rfl, rfl, .ref d, rfl, d, q1, 9, rfl, dl8, by decide, by decide, fun H9 x dl9 bt9 x0 x1 => ⟨_, _, rfl, rfl, ?_⟩⟩
          have eD9 := bt9 _ _ f2.1 f2.2 eD2
          refine ⟨_, eD9, small1000 (by rw [List.length_map]; omega), cs ++ [v + 1 + x], dl9.upd f2.1 f2.2, ?_, by rw [upd_same, List.map_append]; rfl, ?_⟩
          · refine (kp8.trans (.but bt9 dl8 fun b hb => ?_)).trans (.upd eD9 fun b hb => ?_)
            · simp only [List.mem_cons, List.not_mem_nil, or_false] at hb
              rcases hb with rfl | rfl | rfl | rfl
              · exact ⟨I6.pd, I6.pq⟩
              · exact ⟨prd, prq⟩
              · exact fgg
              · exact fD
            · simp only [List.mem_cons, List.not_mem_nil, or_false] at hb
              rcases hb with rfl | rfl | rfl | rfl <;> assumption
          · rw [take_get hv]
            exact above_snoc (r := []) (s := []) (by omega) (by omega) ab
        · rintro H8 ⟨cs, dl8, kp8, eD2, ab⟩
          rw [List.length_map, List.take_length] at ab
          refine ⟨D2, _, rfl, .inl ⟨SqL.of eD2, fun t2 ht2 => ?_⟩⟩
          have st := same_new (o := .tup (cs.map V.int)) ht2
          have eD8 := st _ _ (kp8.lst D (by simp) _ eD)
          have bl := G7.len
          refine ⟨_, eD8, small1000 (by rw [List.length_map]; omega), bs ++ [t2], ss ++ [cs], (dl8.same st).upd fD.1 fD.2, ?_, by rw [upd_same, List.map_append]; rfl, ?_, by rw [List.length_append, lss]; rfl, fun s hs => ?_⟩
          · refine ((kp7.trans ((kp8.trans (.same st)).less fun b hb => ?_))).trans (.upd eD8 fun b hb => ?_)
            · simp only [List.mem_cons, List.not_mem_nil, or_false] at hb ⊢
              rcases hb with rfl | rfl | rfl <;> simp
            · simp only [List.mem_cons, List.not_mem_nil, or_false] at hb
              rcases hb with rfl | rfl | rfl
              · exact Dpp.symm
              · exact Dpr.symm
              · exact Dgg.symm
          · exact ((G7.keep (kp8.trans (.same st)).tup).append (.one upd_same)).keep (updTup eD8)
          · rcases List.mem_append.mp hs with hs | hs
            · exact SP s hs
            · rw [List.mem_singleton] at hs; subst hs
              exact ⟨r, hrm, List.length_pos_iff.mp (KN.len r hrm), ab⟩
      · rintro H7 ⟨bs, ss, dl7, kp7, eD, G7, lss, SP⟩
        rw [List.length_map, List.length_take] at lss
        have I7 := I6.kp kp7 (by simp) dl7
        have er7 := kp7.lst pr (by simp) _ R6.e
        have g7 := R6.g.keep kp7.tup
        have ed7 := kp7.tup _ _ ed6
        have e17 := kp7.tup _ _ e16
        have e27 := kp7.tup _ _ e26
        clear kp7 I6 R6 ed6 e16 e26 eg6 hD
        have few := KN.few
        have l2 : ss.length ≤ 2 := by omega
        have bl := G7.len
        obtain ⟨L, OK⟩ := Spare.ok KN SP l2
        refine ⟨.int (0 + (i : Nat)), rfl, _, _, rfl, rfl, _, rfl, ?_⟩
        refine EaK.both (fun v H' => ∃ (g : Addr) (gs : List Addr) (l : List (Int × Nat)), v = .ref g ∧ H' g = some (.tup (gs.map V.ref)) ∧ PairsAt H' gs l ∧ Rw.IsDue (Rw.bst (rs ++ ss)) l ∧ Same H7 H') ?_ (fun _ Q' h => ?_) (fun _ Q' h => ?_)
        · rintro _ H8 ⟨g, gs, l, rfl, eg, pg, dg, s8⟩
          have el := dg.uniq (KN.due SP)
          subst el
          have I8 := I7.same s8
          refine ⟨.ref pp, rfl, .inl ⟨rfl, _, SqL.of I8.pairs⟩, .ref g, rfl, .ref du, rfl, by show 2 ≤ sizeLine; decide, fun tp htp => ⟨pp, _, _, rfl, rfl, same_new htp _ _ I8.pairs, small1000 (by rw [List.length_map]; omega), ?_⟩⟩
          have e18 := s8 _ _ e17
          have e28 := s8 _ _ e27
          have pu : PairsAt H8 [u1, u2] [(0, m), (t, n)] := ((PairsAt.nil _).snoc (p := (0, m)) e18).snoc (p := (t, n)) e28
          have I9 := I8.snoc (n := 3 * 2 + 1) htp (.tup eg (s8 _ _ ed7) (pg.eqv pu)) (by decide)
          have npp : pr ≠ pp := prp
          have kp9 : Kp [pr, D] H7 (upd (upd H8 tp (.tup [.ref g, .ref du])) pp (.lst (ts.map V.ref ++ [.ref tp]))) :=
            (Kp.same (s8.trans (same_new htp))).trans (.upd (same_new htp _ _ I8.pairs) fun b hb => by
              simp only [List.mem_cons, List.not_mem_nil, or_false] at hb
              rcases hb with rfl | rfl <;> assumption)
          generalize upd (upd H8 tp (.tup [.ref g, .ref du])) pp (.lst (ts.map V.ref ++ [.ref tp])) = H9 at I9 kp9 ⊢
          have er9 := kp9.lst pr (by simp) _ er7
          have eD9 := kp9.lst D (by simp) _ eD
          have gr9 := (g7.append G7).keep kp9.tup
          have ed9 := kp9.tup _ _ ed7
          have e19 := kp9.tup _ _ e17
          have e29 := kp9.tup _ _ e27
          clear kp9 e18 e28 pu I8 eg pg dg s8 I7 er7 g7 ed7 e17 e27 eD G7 dl7
          have KT := KN.top
          have KP := KN.pos
          refine ⟨.ref du, rfl, du, rfl, ⟨_, SqT.of ed9⟩, ?_⟩
          refine for_tup (xs := [.ref u1, .ref u2]) (fun c σ H' => ∃ (ts : List Addr) (v6 v9 v10 v11 v12 : Option V), σ = [some (.ref a), some (.ref d), some (.ref pp), some (.int (0 + (i : Nat))), some (.ref pr), some (.ref du), v6, some (.ref D), some (.ref g), v9, v10, v11, v12, none, none] ∧ Inv1 H' d q1 pp ts ∧ ts.length ≤ 7 * i + 1 + 3 * c ∧ Kp [pr, D] H9 H')
            ⟨ts ++ [tp], _, _, _, _, _, rfl, I9, by rw [List.length_append, List.length_singleton]; omega, .refl _ _⟩ (fun c σ H' _ h => by obtain ⟨_, _, _, _, _, _, _, _, _, h⟩ := h; exact SqT.of (h.tup _ _ ed9)) ?_ ?_
          · rintro c x σ H10 hx ⟨ts, v6, v9, v10, v11, v12, rfl, I10, lt10, kp10⟩
            have hcc := lt_of_get hx
            have hcc' : c < 2 := hcc
            obtain ⟨u, sz, nn, rfl, eu, sz0, sz1⟩ : ∃ (u : Addr) (sz nn : Int), x = .ref u ∧ H9 u = some (.tup [.int sz, .int nn]) ∧ 0 ≤ sz ∧ sz ≤ 100000003 := by
              rcases Nat.lt_or_eq_of_le (show c ≤ 1 by omega) with z | z
              · have : c = 0 := by omega
                subst this
                cases hx
                exact ⟨u1, 0, _, rfl, e19, by decide, by decide⟩
              · subst z
                cases hx
                exact ⟨u2, t, _, rfl, e29, by omega, KT⟩
            refine ⟨u, _, rfl, .inl (.inl (kp10.tup _ _ eu)), rfl, _, _, rfl, _, _, rfl, rfl, ?_⟩
            refine ⟨.int sz, rfl, .int sz, rfl, .ref d, rfl, _, _, rfl, rfl, ⟨by decide, by decide, by decide⟩, d, q1, _, rfl, I10.deal, by decide, by decide, fun H11 r dl11 bt11 r0 r1 => ⟨_, _, rfl, rfl, by show 2 ≤ sizeLine; decide, fun z1 hz1 => ?_⟩⟩
            have r1' : r < 1000000 := r1
            have I11 := I10.but bt11 dl11
            have kp11 : Kp [pr, D] H9 H11 := kp10.trans (.but bt11 I10.deal fun b hb => by
              simp only [List.mem_cons, List.not_mem_nil, or_false] at hb
              rcases hb with rfl | rfl
              · exact ⟨prd, prq⟩
              · exact fD)
            have s12 := same_new (o := .lst [.int sz, .int (sz + r)]) hz1
            have I12 := I11.same s12
            have kp12 := kp11.trans (.same s12)
            have ez1 : upd H11 z1 (.lst [.int sz, .int (sz + r)]) z1 = some (.lst [.int sz, .int (sz + r)]) := upd_same
            generalize upd H11 z1 (.lst [.int sz, .int (sz + r)]) = H12 at I12 kp12 ez1 ⊢
            clear I10 kp10 I11 kp11 s12 bt11 dl11 hz1
            refine ⟨.int sz, rfl, _, _, rfl, rfl, _, rfl, ?_⟩
            refine EaK.both (fun v H' => ∃ (z2 : Addr) (ws : List Int), v = .ref z2 ∧ H' z2 = some (.lst (ws.map V.int)) ∧ ws.length ≤ 1 ∧ (∀ y ∈ ws, 0 ≤ y ∧ y ≤ 100000003) ∧ Same H12 H') ?_ (fun e Q' h => ?_) (fun _ Q' h => ?_)
            · rintro _ H13 ⟨z2, ws, rfl, ez2, lws, bws, s13⟩
              refine ⟨z1, z2, _, _, rfl, rfl, s13 _ _ ez1, ez2, small_line (by rw [List.length_map]; show 2 + ws.length ≤ 2000; omega), fun ya hya => ?_⟩
              have e2 : ([V.int sz, V.int (sz + r)] ++ ws.map V.int) = ([sz, sz + r] ++ ws).map V.int := by rw [List.map_append]; rfl
              rw [e2]
              have bat : ∀ y ∈ [sz, sz + r] ++ ws, 0 ≤ y ∧ y ≤ 200000000 := fun y hy => by
                rcases List.mem_append.mp hy with hy | hy
                · rcases Rw.mem2 hy with rfl | rfl <;> omega
                · have := bws y hy; omega
              have lat : ([sz, sz + r] ++ ws).length ≤ 3 := by rw [List.length_append]; show 2 + ws.length ≤ 3; omega
              generalize [sz, sz + r] ++ ws = ats at bat lat ⊢
              refine ⟨ya, rfl, ⟨_, SqL.of upd_same⟩, ?_⟩
              have s14 := s13.trans (same_new (o := .lst (ats.map V.int)) hya)
              have I14 := I12.same s14
              have kp14 := kp12.trans (.same s14)
              have eya : upd H13 ya (.lst (ats.map V.int)) ya = some (.lst (ats.map V.int)) := upd_same
              have ypp : ya ≠ pp := (ne_of_none (s13 _ _ I12.pairs) hya).symm
              generalize upd H13 ya (.lst (ats.map V.int)) = H14 at I14 kp14 eya ⊢
              clear I12 kp12 ez1 ez2 s13 s14 hya
              refine for_list (xs := ats.map V.int) (fun e σ H' => ∃ (ts : List Addr) (v10 v11 v12 : Option V), σ = [some (.ref a), some (.ref d), some (.ref pp), some (.int (0 + (i : Nat))), some (.ref pr), some (.ref du), some (.int nn), some (.ref D), some (.ref g), some (.int sz), v10, v11, v12, none, none] ∧ Inv1 H' d q1 pp ts ∧ ts.length ≤ 7 * i + 1 + 3 * c + e ∧ Kp [pr, D, ya] H14 H')
                ⟨ts, v10, v11, v12, rfl, I14, by omega, .refl _ _⟩ (fun e σ H' _ h => by obtain ⟨_, _, _, _, _, _, _, h⟩ := h; exact SqL.of (h.lst ya (by simp) _ eya)) ?_ ?_
              · rintro e x σ H15 hx ⟨ts, v10, v11, v12, rfl, I15, lt15, kp15⟩
                obtain ⟨y, hy, rfl⟩ := get_mapI hx
                have hyb := bat y (List.mem_of_getElem? hy)
                have he := lt_of_get hy
                have kpA : Kp [pr, D] H9 H15 := kp14.trans (kp15.less fun b hb => by
                  simp only [List.mem_cons, List.not_mem_nil, or_false] at hb ⊢
                  rcases hb with rfl | rfl <;> simp)
                have ed15 := kpA.tup _ _ ed9
                have e115 := kpA.tup _ _ e19
                have e215 := kpA.tup _ _ e29
                have er15 := kpA.lst pr (by simp) _ er9
                have eD15 := kpA.lst D (by simp) _ eD9
                have g15 := gr9.keep kpA.tup
                -- begun
                refine ⟨.ref du, rfl, du, rfl, ⟨_, SqT.of ed15⟩, fun B hB => ?_⟩
                refine lc_tup (xs := [.ref u1, .ref u2]) (fun c H' => Same H15 H' ∧ H' B = some (.lst (((([((0 : Int), m), (t, n)].take c).filter (fun p => decide (p.1 ≤ y))).map (fun p => V.int ((p.2 : Nat) : Int)))))) ⟨same_new hB, upd_same⟩ (fun c H' _ h => SqT.of (h.1 _ _ ed15)) ?_ ?_
                · rintro c x H' hx ⟨sm, eB⟩
                  have hc2 : c < 2 := lt_of_get hx
                  obtain ⟨u, pq, hpq, rfl, eu⟩ : ∃ (u : Addr) (pq : Int × Nat), [((0 : Int), m), (t, n)][c]? = some pq ∧ x = .ref u ∧ H' u = some (.tup [.int pq.1, .int ((pq.2 : Nat) : Int)]) := by
                    rcases Nat.lt_or_eq_of_le (show c ≤ 1 by omega) with z | z
                    · have : c = 0 := by omega
                      subst this
                      cases hx
                      exact ⟨u1, (0, m), rfl, rfl, sm _ _ e115⟩
                    · subst z
                      cases hx
                      exact ⟨u2, (t, n), rfl, rfl, sm _ _ e215⟩
                  refine ⟨rfl, .ref u, rfl, u, _, 0, _, rfl, rfl, SqT.of eu, rfl, .int y, rfl, _, _, rfl, rfl, _, rfl, ?_⟩
                  rw [take_get hpq, List.filter_append, List.map_append]
                  refine ite2 (fun ge => ?_) fun ge => ⟨sm, ?_⟩
                  · refine ⟨.ref u, rfl, u, _, 1, _, rfl, rfl, SqT.of eu, rfl, _, eB, ?_, fun b o eb => ?_, ?_⟩
                    · rw [List.length_map]
                      refine Nat.lt_of_le_of_lt (List.length_filter_le _ _) (Nat.lt_of_le_of_lt (List.length_take_le _ _) ?_)
                      exact small1000 (by omega)
                    · rw [upd_ne (ne_of_none eb hB)]; exact sm _ _ eb
                    · have f1 : [pq].filter (fun p => decide (p.1 ≤ y)) = [pq] := filt1 (p := fun p : Int × Nat => decide (p.1 ≤ y)) ge
                      rw [upd_same, f1]; rfl
                  · have f1 : [pq].filter (fun p => decide (p.1 ≤ y)) = [] := filt0 (p := fun p : Int × Nat => decide (p.1 ≤ y)) ge
                    rw [f1, List.map_nil, List.append_nil]; exact eB
                · rintro H16 ⟨s16, eB⟩
                  obtain ⟨l0, hl0⟩ := begun_is KN hyb.1
                  have eB' : H16 B = some (.lst (l0 ++ [V.int ((Rw.bst rs y : Nat) : Int)])) := eB.trans (congrArg (fun l => some (HO.lst l)) hl0)
                  refine ⟨1, rfl, B, _, _, _, rfl, rfl, SqL.of eB', at_lastV _ _, ?_⟩
                  -- steps
                  have er16 := s16 _ _ er15
                  have eD16 := s16 _ _ eD15
                  refine ⟨.ref pr, rfl, .ref D, rfl, pr, D, _, _, rfl, rfl, er16, eD16, small_line (by rw [List.length_map, List.length_map]; omega), fun z hz => ?_⟩
                  rw [← List.map_append]
                  refine ⟨z, rfl, ⟨_, SqL.of upd_same⟩, fun W hW => ?_⟩
                  have s17 := s16.trans (same_new (o := .lst ((as ++ bs).map V.ref)) hz)
                  have ez : upd H16 z (.lst ((as ++ bs).map V.ref)) z = some (.lst ((as ++ bs).map V.ref)) := upd_same
                  generalize upd H16 z (.lst ((as ++ bs).map V.ref)) = H17 at s17 ez hW ⊢
                  have g17 := g15.keep (tupKeep s17)
                  have I17 := I15.same s17
                  have labs := g17.len
                  have lall : (rs ++ ss).length ≤ 7 := by rw [List.length_append]; omega
                  refine lc_list (xs := (as ++ bs).map V.ref) (fun j H' => Same H17 H' ∧ H' W = some (.lst ((((rs ++ ss).map (Rw.worth · y)).take j).map V.int))) ⟨same_new hW, upd_same⟩ (fun j H' _ h => SqL.of (h.1 _ _ ez)) ?_ ?_
                  · rintro j x H' hx ⟨sm, ew⟩
                    rw [List.getElem?_map, Option.map_eq_some_iff] at hx
                    obtain ⟨u, hu, rfl⟩ := hx
                    have hj := lt_of_get hu
                    obtain ⟨r, hr0⟩ : ∃ r, (rs ++ ss)[j]? = some r := ⟨_, List.getElem?_eq_getElem (by omega)⟩
                    have hm : ((rs ++ ss).map (Rw.worth · y))[j]? = some (Rw.worth r y) := by rw [List.getElem?_map, hr0]; rfl
                    refine ⟨rfl, .ref u, rfl, .int y, rfl, u, r, y, rfl, SqT.of (sm _ _ (g17.at_ j u r hu hr0)), by omega, by omega, fun H2 s2 => ?_⟩
                    refine ⟨_, s2 _ _ ew, ?_, fun b o eb => ?_, ?_⟩
                    · rw [List.length_map, List.length_take]
                      exact Nat.lt_of_le_of_lt (Nat.min_le_right _ _) (small1000 (by rw [List.length_map]; omega))
                    · rw [upd_ne (ne_of_none eb hW)]
                      exact s2 _ _ (sm _ _ eb)
                    · rw [upd_same, take_get hm, map_snoc]
                  · rintro H18 ⟨sm, ew⟩
                    have el : ((rs ++ ss).map (Rw.worth · y)).take ((as ++ bs).map V.ref).length = (rs ++ ss).map (Rw.worth · y) := List.take_of_length_le (by rw [List.length_map, List.length_map]; omega)
                    rw [el] at ew
                    have ne' : (rs ++ ss).map (Rw.worth · y) ≠ [] := fun z => KN.ne (List.append_eq_nil_iff.mp (List.map_eq_nil_iff.mp z)).1
                    have I18 := I17.same sm
                    refine ⟨.ref pp, rfl, .inl ⟨rfl, _, SqL.of I18.pairs⟩, .ref W, rfl, .inl ⟨rfl, _, SqL.of ew⟩, .ref W, rfl, W, _, rfl, SqL.of ew, List.length_pos_iff.mpr ne', fun mm hm hle => ?_⟩
                    obtain ⟨m', k1, k2, k3⟩ := Rw.best_spec _ ne'
                    have em : mm = m' := by
                      have a1 := hle m' (List.mem_of_getElem? k1)
                      have a2 := k2 mm hm
                      omega
                    subst em
                    refine ⟨W, _, .int mm, Rw.best ((rs ++ ss).map (Rw.worth · y)), .int mm, rfl, rfl, SqL.of ew, rfl, flat_ints _, by rw [List.getElem?_map, k1]; rfl, beq_self_eq_true mm, fun j z hj hz => ?_, ?_⟩
                    · obtain ⟨v, hv, rfl⟩ := get_mapI hz
                      have := k3 j hj v hv
                      show (v == mm) = false
                      exact beq_eq_false_iff_ne.mpr (by omega)
                    have eb : Rw.best ((rs ++ ss).map (Rw.worth · y)) = Rw.bst rs y := Rw.bst_spare SP KN.ne hyb.1
                    rw [eb]
                    refine ⟨.int ((Rw.bst rs y : Nat) : Int), rfl, by show 2 ≤ sizeLine; decide, fun tq htq => ⟨pp, _, _, rfl, rfl, same_new htq _ _ I18.pairs, small1000 (by rw [List.length_map]; omega), ?_⟩⟩
                    refine ⟨ts ++ [tq], _, _, _, rfl, I18.snoc (n := 1) htq (.int _) (by decide), by rw [List.length_append, List.length_singleton]; omega, ?_⟩
                    refine (kp15.trans (.same ((s17.trans sm).trans (same_new htq)))).trans (.upd (same_new htq _ _ I18.pairs) fun b hb => ?_)
                    simp only [List.mem_cons, List.not_mem_nil, or_false] at hb
                    rcases hb with rfl | rfl | rfl <;> assumption
              · rintro σ H15 ⟨ts, v10, v11, v12, rfl, I15, lt15, kp15⟩
                rw [List.length_map] at lt15
                exact ⟨ts, _, _, _, _, _, rfl, I15, by omega, kp14.trans (kp15.less fun b hb => by
                  simp only [List.mem_cons, List.not_mem_nil, or_false] at hb ⊢
                  rcases hb with rfl | rfl <;> simp)⟩
            · have e' := of_decide_eq_true e
              refine ⟨.int sz, rfl, _, _, rfl, rfl, by show 1 ≤ sizeLine; decide, fun z2 hz2 => h _ _ ⟨z2, [sz - 1], rfl, upd_same, Nat.le_refl _, fun y hy => ?_, same_new hz2⟩⟩
              rw [List.mem_singleton] at hy
              omega
            · exact ⟨by show 0 ≤ sizeLine; decide, fun z2 hz2 => h _ _ ⟨z2, [], rfl, upd_same, Nat.zero_le _, (fun y hy => by simp at hy), same_new hz2⟩⟩
          · rintro σ H10 ⟨ts, v6, v9, v10, v11, v12, rfl, I10, lt10, kp10⟩
            exact ⟨ts, _, _, _, _, _, _, _, _, _, _, rfl, I10, (by have : ts.length ≤ 7 * i + 1 + 3 * 2 := lt10; omega)⟩
        · refine ⟨.ref pr, rfl, .ref D, rfl, pr, D, _, _, rfl, rfl, er7, eD, small_line (by rw [List.length_map, List.length_map]; omega), fun z hz => ?_⟩
          rw [← List.map_append]
          have sz := same_new (o := .lst ((as ++ bs).map V.ref)) hz
          exact ⟨z, as ++ bs, rs ++ ss, L, rfl, ((g7.append G7).keep (tupKeep sz)).rows (.inl (SqL.of upd_same)), OK, fun H' p gs l s e pa _ z2 _ => h _ _ ⟨p, gs, l, rfl, e, pa, z2 (fun z => KN.ne (List.append_eq_nil_iff.mp z).1), sz.trans s⟩⟩
        · refine ⟨.ref pr, rfl, .ref D, rfl, pr, D, _, _, rfl, rfl, er7, eD, small_line (by rw [List.length_map, List.length_map]; omega), fun z hz => ?_⟩
          rw [← List.map_append]
          have sz := same_new (o := .lst ((as ++ bs).map V.ref)) hz
          refine ⟨z, _, rfl, .inl ⟨SqL.of upd_same, fun z3 hz3 => ?_⟩⟩
          have sz3 := sz.trans (same_new (o := .tup ((as ++ bs).map V.ref)) hz3)
          exact ⟨z3, as ++ bs, rs ++ ss, L, rfl, ((g7.append G7).keep (tupKeep sz3)).rows (.inr (SqT.of upd_same)), OK, fun H' p gs l s e pa _ z2 _ => h _ _ ⟨p, gs, l, rfl, e, pa, z2 (fun z => KN.ne (List.append_eq_nil_iff.mp z).1), sz3.trans s⟩⟩
    · rintro σ H3 ⟨ts, v3, v4, v5, v6, v7, v8, v9, v10, v11, v12, rfl, I3, lt⟩
      exact ⟨.ref pp, rfl, pp, ts, rfl, I3.pairs, by omega, I3.ok, fun H' => q H'⟩
end
end Ea
namespace Ea
open PySem PySem.Spec PyProof.Rows L2
theorem all_mk {l : PySem.W.OpenLaw} {w : World} {K : PySem.W.Frag} {h : Heap} {mg : Str → Option Value} {fa f0 f1 f2 f3 f4 f5 f6 f7 f8 f9 f10 f11 f12 f13 f14 f15 f16 f17 f18 f19 f20 C0 C1 C2 C3 C4 : Addr} (X : K.In h) (G : h.Ns mainGlobals mg) (hfa : mg "law" = some (.ref fa))
    {od0 an0 od1 an1 od2 an2 od3 an3 od4 an4 od5 an5 od6 an6 od7 an7 od8 an8 od9 an9 od10 an10 od11 an11 od12 an12 od13 an13 od14 an14 od15 an15 od16 an16 od17 an17 od18 an18 od19 an19 od20 an20 : Option Addr} {sl0 sl1 sl2 sl3 sl4 sl5 sl6 sl7 sl8 sl9 sl10 sl11 sl12 sl13 sl14 sl15 sl16 sl17 sl18 sl19 sl20 : Array (Option Value)} {oc0 kV0 dc0 pm0 cd0 ct0 oc1 kV1 dc1 pm1 cd1 ct1 oc2 kV2 dc2 pm2 cd2 ct2 oc3 kV3 dc3 pm3 cd3 ct3 oc4 kV4 dc4 pm4 cd4 ct4 oc5 kV5 dc5 pm5 cd5 ct5 oc6 kV6 dc6 pm6 cd6 ct6 oc7 kV7 dc7 pm7 cd7 ct7 oc8 kV8 dc8 pm8 cd8 ct8 oc9 kV9 dc9 pm9 cd9 ct9 oc10 kV10 dc10 pm10 cd10 ct10 oc11 kV11 dc11 pm11 cd11 ct11 oc12 kV12 dc12 pm12 cd12 ct12 oc13 kV13 dc13 pm13 cd13 ct13 oc14 kV14 dc14 pm14 cd14 ct14 oc15 kV15 dc15 pm15 cd15 ct15 oc16 kV16 dc16 pm16 cd16 ct16 oc17 kV17 dc17 pm17 cd17 ct17 oc18 kV18 dc18 pm18 cd18 ct18 oc19 kV19 dc19 pm19 cd19 ct19 oc20 kV20 dc20 pm20 cd20 ct20 : Value}
    (a0 : PySem.W.nsIn K mainGlobals "worth" = some (some (.ref f0))) (l0 : K.lookup f0 = some ⟨oc0, od0, .func (PySem.W.fnOf "worth" "worth" (defArgs s_worth) (defBody s_worth) (defScope s_worth) .none kV0 dc0 pm0 an0 cd0 ct0), sl0⟩) (c0 : PySem.W.codeIn K cd0 "worth" = true) (k0 : PySem.W.keepIn K (.ref f0) = true)
    (a1 : PySem.W.nsIn K mainGlobals "sign_of" = some (some (.ref f1))) (l1 : K.lookup f1 = some ⟨oc1, od1, .func (PySem.W.fnOf "sign_of" "sign_of" (defArgs s_sign_of) (defBody s_sign_of) (defScope s_sign_of) .none kV1 dc1 pm1 an1 cd1 ct1), sl1⟩) (c1 : PySem.W.codeIn K cd1 "sign_of" = true) (k1 : PySem.W.keepIn K (.ref f1) = true)
    (a2 : PySem.W.nsIn K mainGlobals "row_less" = some (some (.ref f2))) (l2 : K.lookup f2 = some ⟨oc2, od2, .func (PySem.W.fnOf "row_less" "row_less" (defArgs s_row_less) (defBody s_row_less) (defScope s_row_less) .none kV2 dc2 pm2 an2 cd2 ct2), sl2⟩) (c2 : PySem.W.codeIn K cd2 "row_less" = true) (k2 : PySem.W.keepIn K (.ref f2) = true)
    (a3 : PySem.W.nsIn K mainGlobals "shifted" = some (some (.ref f3))) (l3 : K.lookup f3 = some ⟨oc3, od3, .func (PySem.W.fnOf "shifted" "shifted" (defArgs s_shifted) (defBody s_shifted) (defScope s_shifted) .none kV3 dc3 pm3 an3 cd3 ct3), sl3⟩) (c3 : PySem.W.codeIn K cd3 "shifted" = true) (k3 : PySem.W.keepIn K (.ref f3) = true)
    (a4 : PySem.W.nsIn K mainGlobals "growth_row" = some (some (.ref f4))) (l4 : K.lookup f4 = some ⟨oc4, od4, .func (PySem.W.fnOf "growth_row" "growth_row" (defArgs s_growth_row) (defBody s_growth_row) (defScope s_growth_row) .none kV4 dc4 pm4 an4 cd4 ct4), sl4⟩) (c4 : PySem.W.codeIn K cd4 "growth_row" = true) (k4 : PySem.W.keepIn K (.ref f4) = true)
    (a5 : PySem.W.nsIn K mainGlobals "first_other" = some (some (.ref f5))) (l5 : K.lookup f5 = some ⟨oc5, od5, .func (PySem.W.fnOf "first_other" "first_other" (defArgs s_first_other) (defBody s_first_other) (defScope s_first_other) .none kV5 dc5 pm5 an5 cd5 ct5), sl5⟩) (c5 : PySem.W.codeIn K cd5 "first_other" = true) (k5 : PySem.W.keepIn K (.ref f5) = true)
    (a6 : PySem.W.nsIn K mainGlobals "turns_between" = some (some (.ref f6))) (l6 : K.lookup f6 = some ⟨oc6, od6, .func (PySem.W.fnOf "turns_between" "turns_between" (defArgs s_turns_between) (defBody s_turns_between) (defScope s_turns_between) .none kV6 dc6 pm6 an6 cd6 ct6), sl6⟩) (c6 : PySem.W.codeIn K cd6 "turns_between" = true) (k6 : PySem.W.keepIn K (.ref f6) = true)
    (a7 : PySem.W.nsIn K mainGlobals "turns_of" = some (some (.ref f7))) (l7 : K.lookup f7 = some ⟨oc7, od7, .func (PySem.W.fnOf "turns_of" "turns_of" (defArgs s_turns_of) (defBody s_turns_of) (defScope s_turns_of) .none kV7 dc7 pm7 an7 cd7 ct7), sl7⟩) (c7 : PySem.W.codeIn K cd7 "turns_of" = true) (k7 : PySem.W.keepIn K (.ref f7) = true)
    (a8 : PySem.W.nsIn K mainGlobals "greatest_turn" = some (some (.ref f8))) (l8 : K.lookup f8 = some ⟨oc8, od8, .func (PySem.W.fnOf "greatest_turn" "greatest_turn" (defArgs s_greatest_turn) (defBody s_greatest_turn) (defScope s_greatest_turn) .none kV8 dc8 pm8 an8 cd8 ct8), sl8⟩) (c8 : PySem.W.codeIn K cd8 "greatest_turn" = true) (k8 : PySem.W.keepIn K (.ref f8) = true)
    (a9 : PySem.W.nsIn K mainGlobals "sizes_of_turns" = some (some (.ref f9))) (l9 : K.lookup f9 = some ⟨oc9, od9, .func (PySem.W.fnOf "sizes_of_turns" "sizes_of_turns" (defArgs s_sizes_of_turns) (defBody s_sizes_of_turns) (defScope s_sizes_of_turns) .none kV9 dc9 pm9 an9 cd9 ct9), sl9⟩) (c9 : PySem.W.codeIn K cd9 "sizes_of_turns" = true) (k9 : PySem.W.keepIn K (.ref f9) = true)
    (a10 : PySem.W.nsIn K mainGlobals "cheapest_row" = some (some (.ref f10))) (l10 : K.lookup f10 = some ⟨oc10, od10, .func (PySem.W.fnOf "cheapest_row" "cheapest_row" (defArgs s_cheapest_row) (defBody s_cheapest_row) (defScope s_cheapest_row) .none kV10 dc10 pm10 an10 cd10 ct10), sl10⟩) (c10 : PySem.W.codeIn K cd10 "cheapest_row" = true) (k10 : PySem.W.keepIn K (.ref f10) = true)
    (a11 : PySem.W.nsIn K mainGlobals "least_rows" = some (some (.ref f11))) (l11 : K.lookup f11 = some ⟨oc11, od11, .func (PySem.W.fnOf "least_rows" "least_rows" (defArgs s_least_rows) (defBody s_least_rows) (defScope s_least_rows) .none kV11 dc11 pm11 an11 cd11 ct11), sl11⟩) (c11 : PySem.W.codeIn K cd11 "least_rows" = true) (k11 : PySem.W.keepIn K (.ref f11) = true)
    (a12 : PySem.W.nsIn K mainGlobals "_law_deal" = some (some (.ref f12))) (l12 : K.lookup f12 = some ⟨oc12, od12, .func (PySem.W.fnOf "_law_deal" "_law_deal" (defArgs s__law_deal) (defBody s__law_deal) (defScope s__law_deal) .none kV12 dc12 pm12 an12 cd12 ct12), sl12⟩) (c12 : PySem.W.codeIn K cd12 "_law_deal" = true) (k12 : PySem.W.keepIn K (.ref f12) = true)
    (a13 : PySem.W.nsIn K mainGlobals "_law_any" = some (some (.ref f13))) (l13 : K.lookup f13 = some ⟨oc13, od13, .func (PySem.W.fnOf "_law_any" "_law_any" (defArgs s__law_any) (defBody s__law_any) (defScope s__law_any) .none kV13 dc13 pm13 an13 cd13 ct13), sl13⟩) (c13 : PySem.W.codeIn K cd13 "_law_any" = true) (k13 : PySem.W.keepIn K (.ref f13) = true)
    (a14 : PySem.W.nsIn K mainGlobals "_law_is_kind" = some (some (.ref f14))) (l14 : K.lookup f14 = some ⟨oc14, od14, .func (PySem.W.fnOf "_law_is_kind" "_law_is_kind" (defArgs s__law_is_kind) (defBody s__law_is_kind) (defScope s__law_is_kind) .none kV14 dc14 pm14 an14 cd14 ct14), sl14⟩) (c14 : PySem.W.codeIn K cd14 "_law_is_kind" = true) (k14 : PySem.W.keepIn K (.ref f14) = true)
    (a15 : PySem.W.nsIn K mainGlobals "_law_same" = some (some (.ref f15))) (l15 : K.lookup f15 = some ⟨oc15, od15, .func (PySem.W.fnOf "_law_same" "_law_same" (defArgs s__law_same) (defBody s__law_same) (defScope s__law_same) .none kV15 dc15 pm15 an15 cd15 ct15), sl15⟩) (c15 : PySem.W.codeIn K cd15 "_law_same" = true) (k15 : PySem.W.keepIn K (.ref f15) = true)
    (a16 : PySem.W.nsIn K mainGlobals "_law_all" = some (some (.ref f16))) (l16 : K.lookup f16 = some ⟨oc16, od16, .func (PySem.W.fnOf "_law_all" "_law_all" (defArgs s__law_all) (defBody s__law_all) (defScope s__law_all) .none kV16 dc16 pm16 an16 cd16 ct16), sl16⟩) (c16 : PySem.W.codeIn K cd16 "_law_all" = true) (k16 : PySem.W.keepIn K (.ref f16) = true)
    (a17 : PySem.W.nsIn K mainGlobals "_law_plain" = some (some (.ref f17))) (l17 : K.lookup f17 = some ⟨oc17, od17, .func (PySem.W.fnOf "_law_plain" "_law_plain" (defArgs s__law_plain) (defBody s__law_plain) (defScope s__law_plain) .none kV17 dc17 pm17 an17 cd17 ct17), sl17⟩) (c17 : PySem.W.codeIn K cd17 "_law_plain" = true) (k17 : PySem.W.keepIn K (.ref f17) = true)
    (a18 : PySem.W.nsIn K mainGlobals "_law_worth_of" = some (some (.ref f18))) (l18 : K.lookup f18 = some ⟨oc18, od18, .func (PySem.W.fnOf "_law_worth_of" "_law_worth_of" (defArgs s__law_worth_of) (defBody s__law_worth_of) (defScope s__law_worth_of) .none kV18 dc18 pm18 an18 cd18 ct18), sl18⟩) (c18 : PySem.W.codeIn K cd18 "_law_worth_of" = true) (k18 : PySem.W.keepIn K (.ref f18) = true)
    (a19 : PySem.W.nsIn K mainGlobals "_law_known" = some (some (.ref f19))) (l19 : K.lookup f19 = some ⟨oc19, od19, .func (PySem.W.fnOf "_law_known" "_law_known" (defArgs s__law_known) (defBody s__law_known) (defScope s__law_known) .none kV19 dc19 pm19 an19 cd19 ct19), sl19⟩) (c19 : PySem.W.codeIn K cd19 "_law_known" = true) (k19 : PySem.W.keepIn K (.ref f19) = true)
    (a20 : PySem.W.nsIn K mainGlobals "law" = some (some (.ref f20))) (l20 : K.lookup f20 = some ⟨oc20, od20, .func (PySem.W.fnOf "law" "law" (defArgs s_law) (defBody s_law) (defScope s_law) .none kV20 dc20 pm20 an20 cd20 ct20), sl20⟩) (c20 : PySem.W.codeIn K cd20 "law" = true) (k20 : PySem.W.keepIn K (.ref f20) = true)
    (b0 : PySem.W.nsIn K mainGlobals "Finding" = some (some (.ref C0))) (e0 : PySem.W.kitOne K (.type "int") (.ref C0) = some false) (t0 : PySem.W.kitOne K (.type "tuple") (.ref C0) = some false)
    (b1 : PySem.W.nsIn K mainGlobals "NamesAnswer" = some (some (.ref C1))) (e1 : PySem.W.kitOne K (.type "int") (.ref C1) = some false) (t1 : PySem.W.kitOne K (.type "tuple") (.ref C1) = some false)
    (b2 : PySem.W.nsIn K mainGlobals "LevelsAnswer" = some (some (.ref C2))) (e2 : PySem.W.kitOne K (.type "int") (.ref C2) = some false) (t2 : PySem.W.kitOne K (.type "tuple") (.ref C2) = some false)
    (b3 : PySem.W.nsIn K mainGlobals "TongueAnswer" = some (some (.ref C3))) (e3 : PySem.W.kitOne K (.type "int") (.ref C3) = some false) (t3 : PySem.W.kitOne K (.type "tuple") (.ref C3) = some false)
    (b4 : PySem.W.nsIn K mainGlobals "Web" = some (some (.ref C4))) (e4 : PySem.W.kitOne K (.type "int") (.ref C4) = some false) (t4 : PySem.W.kitOne K (.type "tuple") (.ref C4) = some false)
    (z0 : PySem.W.nsIn K mainGlobals "len" = some none) (z1 : PySem.W.nsIn K mainGlobals "max" = some none) (z2 : PySem.W.nsIn K mainGlobals "min" = some none) (z3 : PySem.W.nsIn K mainGlobals "sum" = some none) (z4 : PySem.W.nsIn K mainGlobals "abs" = some none) (z5 : PySem.W.nsIn K mainGlobals "int" = some none) (z6 : PySem.W.nsIn K mainGlobals "str" = some none) (z7 : PySem.W.nsIn K mainGlobals "bool" = some none) (z8 : PySem.W.nsIn K mainGlobals "tuple" = some none) (z9 : PySem.W.nsIn K mainGlobals "list" = some none) (z10 : PySem.W.nsIn K mainGlobals "dict" = some none) (z11 : PySem.W.nsIn K mainGlobals "zip" = some none) (z12 : PySem.W.nsIn K mainGlobals "range" = some none) (z13 : PySem.W.nsIn K mainGlobals "sorted" = some none) (z14 : PySem.W.nsIn K mainGlobals "set" = some none) (z15 : PySem.W.nsIn K mainGlobals "isinstance" = some none) :
    ∃ fd : FuncData, (∀ (s : Shared) (v : Value), BindsTo s fd ⟨[v], []⟩ [("script", v)]) ∧ ∀ base : Heap, K.In base → base.Ns mainGlobals mg → FnOk l.prog w K mg base CX0 7 fa fd ["script"] (spLaw K) := by
  have e := hfa.symm.trans (PySem.W.mg_of X G a20)
  cases e
  have T : Txt mg := ⟨PySem.W.mg_none_of X G z0, PySem.W.mg_none_of X G z1, PySem.W.mg_none_of X G z2, PySem.W.mg_none_of X G z3, PySem.W.mg_none_of X G z4, PySem.W.mg_none_of X G z5, PySem.W.mg_none_of X G z6, PySem.W.mg_none_of X G z7, PySem.W.mg_none_of X G z8, PySem.W.mg_none_of X G z9, PySem.W.mg_none_of X G z10, PySem.W.mg_none_of X G z11, PySem.W.mg_none_of X G z12, PySem.W.mg_none_of X G z13, PySem.W.mg_none_of X G z14, PySem.W.mg_none_of X G z15⟩
  have C : Cls K mg := ⟨⟨C0, PySem.W.mg_of X G b0, e0, t0⟩, ⟨C1, PySem.W.mg_of X G b1, e1, t1⟩, ⟨C2, PySem.W.mg_of X G b2, e2, t2⟩, ⟨C3, PySem.W.mg_of X G b3, e3, t3⟩, ⟨C4, PySem.W.mg_of X G b4, e4, t4⟩⟩
  have F0 := fun_mk (st := s_worth) l0 c0 k0
  have B0 := F0.binds (ps := ["row", "size"]) fun _ _ _ _ _ _ us hl => match us, hl with | [_, _], _ => rfl
  have D0 : ∃ f fd, DefAt K mg "worth" s_worth ["row", "size"] f fd := ⟨_, _, F0, PySem.W.mg_of X G a0, B0⟩
  have F1 := fun_mk (st := s_sign_of) l1 c1 k1
  have B1 := F1.binds (ps := ["number"]) fun _ _ _ _ _ _ us hl => match us, hl with | [_], _ => rfl
  have D1 : ∃ f fd, DefAt K mg "sign_of" s_sign_of ["number"] f fd := ⟨_, _, F1, PySem.W.mg_of X G a1, B1⟩
  have F2 := fun_mk (st := s_row_less) l2 c2 k2
  have B2 := F2.binds (ps := ["one", "other"]) fun _ _ _ _ _ _ us hl => match us, hl with | [_, _], _ => rfl
  have D2 : ∃ f fd, DefAt K mg "row_less" s_row_less ["one", "other"] f fd := ⟨_, _, F2, PySem.W.mg_of X G a2, B2⟩
  have F3 := fun_mk (st := s_shifted) l3 c3 k3
  have B3 := F3.binds (ps := ["row"]) fun _ _ _ _ _ _ us hl => match us, hl with | [_], _ => rfl
  have D3 : ∃ f fd, DefAt K mg "shifted" s_shifted ["row"] f fd := ⟨_, _, F3, PySem.W.mg_of X G a3, B3⟩
  have F4 := fun_mk (st := s_growth_row) l4 c4 k4
  have B4 := F4.binds (ps := ["row"]) fun _ _ _ _ _ _ us hl => match us, hl with | [_], _ => rfl
  have D4 : ∃ f fd, DefAt K mg "growth_row" s_growth_row ["row"] f fd := ⟨_, _, F4, PySem.W.mg_of X G a4, B4⟩
  have F5 := fun_mk (st := s_first_other) l5 c5 k5
  have B5 := F5.binds (ps := ["row", "low", "high"]) fun _ _ _ _ _ _ us hl => match us, hl with | [_, _, _], _ => rfl
  have D5 : ∃ f fd, DefAt K mg "first_other" s_first_other ["row", "low", "high"] f fd := ⟨_, _, F5, PySem.W.mg_of X G a5, B5⟩
  have F6 := fun_mk (st := s_turns_between) l6 c6 k6
  have B6 := F6.binds (ps := ["row", "low", "high"]) fun _ _ _ _ _ _ us hl => match us, hl with | [_, _, _], _ => rfl
  have D6 : ∃ f fd, DefAt K mg "turns_between" s_turns_between ["row", "low", "high"] f fd := ⟨_, _, F6, PySem.W.mg_of X G a6, B6⟩
  have F7 := fun_mk (st := s_turns_of) l7 c7 k7
  have B7 := F7.binds (ps := ["row", "most"]) fun _ _ _ _ _ _ us hl => match us, hl with | [_, _], _ => rfl
  have D7 : ∃ f fd, DefAt K mg "turns_of" s_turns_of ["row", "most"] f fd := ⟨_, _, F7, PySem.W.mg_of X G a7, B7⟩
  have F8 := fun_mk (st := s_greatest_turn) l8 c8 k8
  have B8 := F8.binds (ps := ["row"]) fun _ _ _ _ _ _ us hl => match us, hl with | [_], _ => rfl
  have D8 : ∃ f fd, DefAt K mg "greatest_turn" s_greatest_turn ["row"] f fd := ⟨_, _, F8, PySem.W.mg_of X G a8, B8⟩
  have F9 := fun_mk (st := s_sizes_of_turns) l9 c9 k9
  have B9 := F9.binds (ps := ["rows"]) fun _ _ _ _ _ _ us hl => match us, hl with | [_], _ => rfl
  have D9 : ∃ f fd, DefAt K mg "sizes_of_turns" s_sizes_of_turns ["rows"] f fd := ⟨_, _, F9, PySem.W.mg_of X G a9, B9⟩
  have F10 := fun_mk (st := s_cheapest_row) l10 c10 k10
  have B10 := F10.binds (ps := ["rows", "size"]) fun _ _ _ _ _ _ us hl => match us, hl with | [_, _], _ => rfl
  have D10 : ∃ f fd, DefAt K mg "cheapest_row" s_cheapest_row ["rows", "size"] f fd := ⟨_, _, F10, PySem.W.mg_of X G a10, B10⟩
  have F11 := fun_mk (st := s_least_rows) l11 c11 k11
  have B11 := F11.binds (ps := ["rows"]) fun _ _ _ _ _ _ us hl => match us, hl with | [_], _ => rfl
  have D11 : ∃ f fd, DefAt K mg "least_rows" s_least_rows ["rows"] f fd := ⟨_, _, F11, PySem.W.mg_of X G a11, B11⟩
  have F12 := fun_mk (st := s__law_deal) l12 c12 k12
  have B12 := F12.binds (ps := ["script", "salt"]) fun _ _ _ _ _ _ us hl => match us, hl with | [_, _], _ => rfl
  have D12 : ∃ f fd, DefAt K mg "_law_deal" s__law_deal ["script", "salt"] f fd := ⟨_, _, F12, PySem.W.mg_of X G a12, B12⟩
  have F13 := fun_mk (st := s__law_any) l13 c13 k13
  have B13 := F13.binds (ps := ["deal", "bound"]) fun _ _ _ _ _ _ us hl => match us, hl with | [_, _], _ => rfl
  have D13 : ∃ f fd, DefAt K mg "_law_any" s__law_any ["deal", "bound"] f fd := ⟨_, _, F13, PySem.W.mg_of X G a13, B13⟩
  have F14 := fun_mk (st := s__law_is_kind) l14 c14 k14
  have B14 := F14.binds (ps := ["told", "due"]) fun _ _ _ _ _ _ us hl => match us, hl with | [_, _], _ => rfl
  have D14 : ∃ f fd, DefAt K mg "_law_is_kind" s__law_is_kind ["told", "due"] f fd := ⟨_, _, F14, PySem.W.mg_of X G a14, B14⟩
  have F15 := fun_mk (st := s__law_same) l15 c15 k15
  have B15 := F15.binds (ps := ["told", "due"]) fun _ _ _ _ _ _ us hl => match us, hl with | [_, _], _ => rfl
  have D15 : ∃ f fd, DefAt K mg "_law_same" s__law_same ["told", "due"] f fd := ⟨_, _, F15, PySem.W.mg_of X G a15, B15⟩
  have F16 := fun_mk (st := s__law_all) l16 c16 k16
  have B16 := F16.binds (ps := ["pairs"]) fun _ _ _ _ _ _ us hl => match us, hl with | [_], _ => rfl
  have D16 : ∃ f fd, DefAt K mg "_law_all" s__law_all ["pairs"] f fd := ⟨_, _, F16, PySem.W.mg_of X G a16, B16⟩
  have F17 := fun_mk (st := s__law_plain) l17 c17 k17
  have B17 := F17.binds (ps := ["value"]) fun _ _ _ _ _ _ us hl => match us, hl with | [_], _ => rfl
  have D17 : ∃ f fd, DefAt K mg "_law_plain" s__law_plain ["value"] f fd := ⟨_, _, F17, PySem.W.mg_of X G a17, B17⟩
  have F18 := fun_mk (st := s__law_worth_of) l18 c18 k18
  have B18 := F18.binds (ps := ["row", "size"]) fun _ _ _ _ _ _ us hl => match us, hl with | [_, _], _ => rfl
  have D18 : ∃ f fd, DefAt K mg "_law_worth_of" s__law_worth_of ["row", "size"] f fd := ⟨_, _, F18, PySem.W.mg_of X G a18, B18⟩
  have F19 := fun_mk (st := s__law_known) l19 c19 k19
  have B19 := F19.binds (ps := ["deal"]) fun _ _ _ _ _ _ us hl => match us, hl with | [_], _ => rfl
  have D19 : ∃ f fd, DefAt K mg "_law_known" s__law_known ["deal"] f fd := ⟨_, _, F19, PySem.W.mg_of X G a19, B19⟩
  have F20 := fun_mk (st := s_law) l20 c20 k20
  have D : Defs K mg := ⟨D0, D1, D2, D3, D4, D5, D6, D7, D8, D9, D10, D11, D12, D13, D14, D15, D16, D17, D18, D19, C, T⟩
  exact ⟨PySem.W.fnOf "law" "law" (defArgs s_law) (defBody s_law) (defScope s_law) .none kV20 dc20 pm20 an20 cd20 ct20, fun s v => .of_eq rfl, fun base _ _ => ok_law F20 D⟩
end Ea
open PySem PySem.W PyProof.Rows
set_option maxRecDepth 100000 in
set_option maxHeartbeats 0 in
theorem PySem.Challenge.cw_eachtongue_k63_great_rows_turn_at_told_s_holds : PySem.Challenge.rw_eachtongue_k63_great_rows_turn_at_told_s.Holds := by
  w_on; o_law; k_head; (case hw => w_witness2)
  k_fill
  refine L2.walk_of (l := PySem.Challenge.rw_eachtongue_k63_great_rows_turn_at_told_s) (n := 63) (k := 7) (x := "script") (CX := fun _ => L2.CX0) (sp := fun w => Ea.spLaw _) rfl (by decide) rfl ⟨rfl, by decide, by decide⟩ (fun w h Y => PySem.W.kIn_of Y) ?F (fun _ _ a ns hl _ hS => ⟨a, ns, rfl, hS, hl, fun _ => rfl⟩) (fun _ _ _ _ _ h => h)
  case F =>
    intro w mg fa h KX G hmg
    refine' Ea.all_mk KX G hmg ?a0 ?l0 ?c0 ?k0 ?a1 ?l1 ?c1 ?k1 ?a2 ?l2 ?c2 ?k2 ?a3 ?l3 ?c3 ?k3 ?a4 ?l4 ?c4 ?k4 ?a5 ?l5 ?c5 ?k5 ?a6 ?l6 ?c6 ?k6 ?a7 ?l7 ?c7 ?k7 ?a8 ?l8 ?c8 ?k8 ?a9 ?l9 ?c9 ?k9 ?a10 ?l10 ?c10 ?k10 ?a11 ?l11 ?c11 ?k11 ?a12 ?l12 ?c12 ?k12 ?a13 ?l13 ?c13 ?k13 ?a14 ?l14 ?c14 ?k14 ?a15 ?l15 ?c15 ?k15 ?a16 ?l16 ?c16 ?k16 ?a17 ?l17 ?c17 ?k17 ?a18 ?l18 ?c18 ?k18 ?a19 ?l19 ?c19 ?k19 ?a20 ?l20 ?c20 ?k20 ?b0 ?e0 ?t0 ?b1 ?e1 ?t1 ?b2 ?e2 ?t2 ?b3 ?e3 ?t3 ?b4 ?e4 ?t4 ?z0 ?z1 ?z2 ?z3 ?z4 ?z5 ?z6 ?z7 ?z8 ?z9 ?z10 ?z11 ?z12 ?z13 ?z14 ?z15
    (case a0 => k_is)
    (case l0 => k_is)
    (case c0 => k_is)
    (case k0 => k_is)
    (case a1 => k_is)
    (case l1 => k_is)
    (case c1 => k_is)
    (case k1 => k_is)
    (case a2 => k_is)
    (case l2 => k_is)
    (case c2 => k_is)
    (case k2 => k_is)
    (case a3 => k_is)
    (case l3 => k_is)
    (case c3 => k_is)
    (case k3 => k_is)
    (case a4 => k_is)
    (case l4 => k_is)
    (case c4 => k_is)
    (case k4 => k_is)
    (case a5 => k_is)
    (case l5 => k_is)
    (case c5 => k_is)
    (case k5 => k_is)
    (case a6 => k_is)
    (case l6 => k_is)
    (case c6 => k_is)
    (case k6 => k_is)
    (case a7 => k_is)
    (case l7 => k_is)
    (case c7 => k_is)
    (case k7 => k_is)
    (case a8 => k_is)
    (case l8 => k_is)
    (case c8 => k_is)
    (case k8 => k_is)
    (case a9 => k_is)
    (case l9 => k_is)
    (case c9 => k_is)
    (case k9 => k_is)
    (case a10 => k_is)
    (case l10 => k_is)
    (case c10 => k_is)
    (case k10 => k_is)
    (case a11 => k_is)
    (case l11 => k_is)
    (case c11 => k_is)
    (case k11 => k_is)
    (case a12 => k_is)
    (case l12 => k_is)
    (case c12 => k_is)
    (case k12 => k_is)
    (case a13 => k_is)
    (case l13 => k_is)
    (case c13 => k_is)
    (case k13 => k_is)
    (case a14 => k_is)
    (case l14 => k_is)
    (case c14 => k_is)
    (case k14 => k_is)
    (case a15 => k_is)
    (case l15 => k_is)
    (case c15 => k_is)
    (case k15 => k_is)
    (case a16 => k_is)
    (case l16 => k_is)
    (case c16 => k_is)
    (case k16 => k_is)
    (case a17 => k_is)
    (case l17 => k_is)
    (case c17 => k_is)
    (case k17 => k_is)
    (case a18 => k_is)
    (case l18 => k_is)
    (case c18 => k_is)
    (case k18 => k_is)
    (case a19 => k_is)
    (case l19 => k_is)
    (case c19 => k_is)
    (case k19 => k_is)
    (case a20 => k_is)
    (case l20 => k_is)
    (case c20 => k_is)
    (case k20 => k_is)
    (case b0 => k_is)
    (case e0 => kit_is)
    (case t0 => kit_is)
    (case b1 => k_is)
    (case e1 => kit_is)
    (case t1 => kit_is)
    (case b2 => k_is)
    (case e2 => kit_is)
    (case t2 => kit_is)
    (case b3 => k_is)
    (case e3 => kit_is)
    (case t3 => kit_is)
    (case b4 => k_is)
    (case e4 => kit_is)
    (case t4 => kit_is)
    (case z0 => k_is)
    (case z1 => k_is)
    (case z2 => k_is)
    (case z3 => k_is)
    (case z4 => k_is)
    (case z5 => k_is)
    (case z6 => k_is)
    (case z7 => k_is)
    (case z8 => k_is)
    (case z9 => k_is)
    (case z10 => k_is)
    (case z11 => k_is)
    (case z12 => k_is)
    (case z13 => k_is)
    (case z14 => k_is)
    (case z15 => k_is)
