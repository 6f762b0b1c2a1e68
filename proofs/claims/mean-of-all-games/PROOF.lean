import PyProof.Rows.All
import Wide.All
import OpenK.AllK
import Wide.FinOn
import HandS.ForMost
import HandS.Zip
import KE.GoesEnum
import KE.GoesEnumKw
import HandS.TupMul
import HandS.IsInst
import HandS.Evl
import HandS.Walk
import HandS.TupAny
import HandS.SortInts
import HandS.Exc
import HandS.Style
import PySem.Challenge.RW_splitclimb_k35_whole_the_mean_of_all_gam
set_option Elab.async false
set_option linter.all false
set_option maxRecDepth 100000
set_option maxHeartbeats 4000000
/-! ## ScMath1 -/
/-! The circle of words: how many of some consecutive words lie in an arc. -/
namespace SC

/-- climbers of a row in an arc, as the program reckons it: `place` is where the arc begins, seen from the first word -/
def btw (count size length place : Int) : Int :=
  (count / size) * length + max 0 (min (count % size) (place + length) - place) + max 0 (min (count % size) (place + length - size))

/-- how many climbers stand at the words below x, on the line -/
def cumH (count size x : Int) : Int := (x / size) * count + ((count / size) * (x % size) + min (x % size) (count % size))

theorem cumH_add_size (count size x : Int) (hs : 0 < size) : cumH count size (size + x) = count + cumH count size x := by
  unfold cumH
  have h1 : (size + x) / size = 1 + x / size := by
    rw [Int.add_ediv_of_dvd_left (Int.dvd_refl size), Int.ediv_self (by omega)]
  have h2 : (size + x) % size = x % size := by simp
  rw [h1, h2]
  grind

theorem btw_cumH (count size length y : Int) (hs : 0 < size) (_hc : 0 ≤ count) (hl : 0 ≤ length) (hl2 : length ≤ size) :
    btw count size length (y % size) = cumH count size (y + length) - cumH count size y := by
  have hp0 : 0 ≤ y % size := Int.emod_nonneg y (by omega)
  have hp1 : y % size < size := Int.emod_lt_of_pos y hs
  have hr0 : 0 ≤ count % size := Int.emod_nonneg count (by omega)
  have hr1 : count % size < size := Int.emod_lt_of_pos count hs
  have hy : size * (y / size) + y % size = y := Int.mul_ediv_add_emod y size
  have hcn : size * (count / size) + count % size = count := Int.mul_ediv_add_emod count size
  unfold btw cumH
  by_cases hlt : y % size + length < size
  · have e1 : (y + length) / size = y / size := by
      have : y + length = (y % size + length) + size * (y / size) := by omega
      rw [this, Int.add_mul_ediv_left _ _ (by omega), Int.ediv_eq_zero_of_lt (by omega) hlt]
      omega
    have e2 : (y + length) % size = y % size + length := by
      have h := Int.mul_ediv_add_emod (y + length) size
      rw [e1] at h
      omega
    rw [e1, e2]
    generalize y / size = k at *
    generalize y % size = p at *
    generalize count / size = t at *
    generalize count % size = r at *
    have e3 : t * (p + length) = t * p + t * length := by grind
    rw [e3]
    omega
  · have e1 : (y + length) / size = y / size + 1 := by
      have : y + length = (y % size + length - size) + size * (y / size + 1) := by grind
      rw [this, Int.add_mul_ediv_left _ _ (by omega), Int.ediv_eq_zero_of_lt (by omega) (by omega)]
      omega
    have e2 : (y + length) % size = y % size + length - size := by
      have h := Int.mul_ediv_add_emod (y + length) size
      rw [e1] at h
      have : size * (y / size + 1) = size * (y / size) + size := by grind
      omega
    rw [e1, e2]
    generalize y / size = k at *
    generalize y % size = p at *
    generalize count / size = t at *
    generalize count % size = r at *
    have e3 : t * (p + length - size) = t * p + t * length - size * t := by grind
    have e4 : (k + 1) * count = k * count + count := by grind
    rw [e3, e4]
    omega

theorem btw_nonneg (count size length place : Int) (hs : 0 < size) (hc : 0 ≤ count) (hl : 0 ≤ length) : 0 ≤ btw count size length place := by
  unfold btw
  have h1 : 0 ≤ count / size := Int.ediv_nonneg hc (by omega)
  have h2 : 0 ≤ (count / size) * length := Int.mul_nonneg h1 hl
  omega

/-- the whole circle -/
theorem btw_whole (count size y : Int) (hs : 0 < size) (hc : 0 ≤ count) : btw count size size (y % size) = count := by
  rw [btw_cumH count size size y hs hc (by omega) (by omega), Int.add_comm y size, cumH_add_size count size y hs]
  omega

/-- the arcs side by side -/
theorem btw_sum (count size length y : Int) (hs : 0 < size) (hc : 0 ≤ count) (hl : 0 ≤ length) (hl2 : length ≤ size) : ∀ n : Nat,
    ((List.range n).map fun g : Nat => btw count size length ((y + (g : Int) * length) % size)).sum = cumH count size (y + (n : Int) * length) - cumH count size y
  | 0 => by simp
  | n + 1 => by
    rw [List.range_succ, List.map_append, List.sum_append, btw_sum count size length y hs hc hl hl2 n]
    simp only [List.map_cons, List.map_nil, List.sum_cons, List.sum_nil]
    rw [btw_cumH count size length _ hs hc hl hl2]
    have : y + (n : Int) * length + length = y + ((n + 1 : Nat) : Int) * length := by grind
    rw [this]
    omega
theorem btw_split (count size length y : Int) (n : Nat) (hs : 0 < size) (hc : 0 ≤ count) (hl : 0 ≤ length) (hn : (n : Int) * length ≤ size) (hn1 : 0 < n) :
    ((List.range n).map fun g : Nat => btw count size length ((y + (g : Int) * length) % size)).sum = btw count size ((n : Int) * length) (y % size) := by
  have hl2 : length ≤ size := by
    have : (1 : Int) * length ≤ (n : Int) * length := Int.mul_le_mul_of_nonneg_right (by omega) hl
    omega
  rw [btw_sum count size length y hs hc hl hl2 n, btw_cumH count size _ y hs hc (Int.mul_nonneg (by omega) hl) hn]

/-- how much of [0, x) on the line lies over the arc [s, s + length) of the circle -/
def cumF (size length s x : Int) : Int := (x / size) * length + max 0 (min length (x % size - s))

theorem cumF_zero (size length s : Int) (_hs : 0 < size) (h0 : 0 ≤ s) : cumF size length s 0 = 0 := by
  unfold cumF
  simp
  omega
theorem cumF_add_mul (size length s x k : Int) (hs : 0 < size) : cumF size length s (x + size * k) = k * length + cumF size length s x := by
  unfold cumF
  rw [Int.add_mul_ediv_left _ _ (by omega), Int.add_mul_emod_self_left]
  grind
theorem cumF_scale (size length s x m : Int) (hm : 0 < m) : cumF (size * m) (length * m) (s * m) (x * m) = cumF size length s x * m := by
  unfold cumF
  have e1 : x * m / (size * m) = x / size := Int.mul_ediv_mul_of_pos_left _ _ hm
  have e2 : x * m % (size * m) = x % size * m := by
    have h := Int.mul_ediv_add_emod (x * m) (size * m)
    have h' := Int.mul_ediv_add_emod x size
    rw [e1] at h
    grind
  have e3 : x % size * m - s * m = (x % size - s) * m := by grind
  rw [e1, e2, e3]
  generalize x % size - s = d
  generalize x / size = k
  have e4 : min (length * m) (d * m) = min length d * m := by
    rcases Int.le_total length d with h | h
    · rw [Int.min_eq_left h, Int.min_eq_left (Int.mul_le_mul_of_nonneg_right h (by omega))]
    · rw [Int.min_eq_right h, Int.min_eq_right (Int.mul_le_mul_of_nonneg_right h (by omega))]
  rw [e4]
  generalize min length d = z
  have e5 : max 0 (z * m) = max 0 z * m := by
    rcases Int.le_total 0 z with h | h
    · rw [Int.max_eq_right h, Int.max_eq_right (Int.mul_nonneg h (by omega))]
    · rw [Int.max_eq_left h, Int.max_eq_left (by have := Int.mul_le_mul_of_nonneg_right h (Int.le_of_lt hm); omega)]
      omega
  rw [e5]
  grind

theorem cumF_step (count first size length s : Int) (hs : 0 < size) (hc : 0 ≤ count) (hf0 : 0 ≤ first) (hf1 : first < size) (h0 : 0 ≤ s) (h1 : s < size) (hl : 0 ≤ length) (hsl : s + length ≤ size) :
    cumF size length s (first + count) - cumF size length s first = btw count size length ((s - first) % size) := by
  have hr0 : 0 ≤ count % size := Int.emod_nonneg count (by omega)
  have hr1 : count % size < size := Int.emod_lt_of_pos count hs
  have hcn : count % size + size * (count / size) = count := Int.emod_add_mul_ediv count size
  have e0 : first + count = (first + count % size) + size * (count / size) := by omega
  rw [e0, cumF_add_mul _ _ _ _ _ hs]
  unfold btw
  generalize count / size = t at *
  generalize count % size = r at *
  have hfd : first / size = 0 := Int.ediv_eq_zero_of_lt hf0 hf1
  have hfm : first % size = first := Int.emod_eq_of_lt hf0 hf1
  have hp : (s - first) % size = if first ≤ s then s - first else s - first + size := by
    split
    · exact Int.emod_eq_of_lt (by omega) (by omega)
    · have : s - first = (s - first + size) + size * (-1) := by omega
      rw [this, Int.add_mul_emod_self_left]
      exact (Int.emod_eq_of_lt (by omega) (by omega)).trans (by omega)
  rw [hp]
  unfold cumF
  rw [hfd, hfm]
  by_cases hw : first + r < size
  · rw [Int.ediv_eq_zero_of_lt (by omega) hw, Int.emod_eq_of_lt (by omega) hw]
    simp only [Int.zero_mul]
    split <;> omega
  · have e1 : (first + r) / size = 1 := by
      have : first + r = (first + r - size) + size * 1 := by omega
      rw [this, Int.add_mul_ediv_left _ _ (by omega), Int.ediv_eq_zero_of_lt (by omega) (by omega)]
      omega
    have e2 : (first + r) % size = first + r - size := by
      have h := Int.mul_ediv_add_emod (first + r) size
      rw [e1] at h
      omega
    rw [e1, e2]
    simp only [Int.zero_mul, Int.one_mul]
    split <;> omega

/-- a number of whole circles, and one more if something is left -/
def ceilD (x size : Int) : Int := if x % size = 0 then x / size else x / size + 1
theorem cumF_low (size length s x : Int) : (x / size) * length ≤ cumF size length s x := by
  unfold cumF
  omega
theorem cumF_high (size length s x : Int) (hl : 0 ≤ length) (h0 : 0 ≤ s) : cumF size length s x ≤ ceilD x size * length := by
  unfold cumF ceilD
  split
  · rename_i h
    rw [h]
    omega
  · have : (x / size + 1) * length = x / size * length + length := by grind
    rw [this]
    omega
end SC

/-! ## ScMath2 -/
/-! Weights, splits, games along a path, the mean over all paths. -/
namespace SC

def prod : List Int → Int
  | [] => 1
  | q :: r => q * prod r
theorem prod_append : ∀ a b : List Int, prod (a ++ b) = prod a * prod b
  | [], b => by simp [prod]
  | q :: r, b => by
    show q * prod (r ++ b) = q * prod r * prod b
    rw [prod_append r b, Int.mul_assoc]
theorem prod_pos : ∀ {a : List Int}, (∀ q ∈ a, 2 ≤ q) → 0 < prod a
  | [], _ => by decide
  | q :: r, h => by
    have h1 := h q List.mem_cons_self
    exact Int.mul_pos (by omega) (prod_pos fun x hx => h x (List.mem_cons_of_mem _ hx))
/-- the product of the first i entries -/
def pp (q : List Int) (i : Nat) : Int := prod (q.take i)
theorem pp_zero (q : List Int) : pp q 0 = 1 := by simp [pp, prod]
theorem pp_succ {q : List Int} {i : Nat} {e : Int} (h : q[i]? = some e) : pp q (i + 1) = pp q i * e := by
  unfold pp
  rw [List.take_add_one, h, prod_append]
  show prod (q.take i) * (e * 1) = _
  rw [Int.mul_one]
theorem pp_all (q : List Int) : pp q q.length = prod q := by
  unfold pp
  rw [List.take_length]
theorem pp_rest (q : List Int) (i : Nat) : pp q i * prod (q.drop i) = prod q := by
  unfold pp
  rw [← prod_append, List.take_append_drop]
theorem pp_pos {q : List Int} (h : ∀ x ∈ q, 2 ≤ x) (i : Nat) : 0 < pp q i := prod_pos fun x hx => h x (List.mem_of_mem_take hx)
theorem pp_le {q : List Int} (h : ∀ x ∈ q, 2 ≤ x) (i : Nat) : pp q i ≤ prod q := by
  rw [← pp_rest q i]
  have h1 := pp_pos h i
  have h2 : 0 < prod (q.drop i) := prod_pos fun x hx => h x (List.mem_of_mem_drop hx)
  have h3 := Int.mul_le_mul_of_nonneg_left (show (1 : Int) ≤ prod (q.drop i) by omega) (Int.le_of_lt h1)
  omega

/-- the weight of counts times the product of the whole schedule -/
def sw : List Int → List Int → Int
  | [], _ => 0
  | _ :: _, [] => 0
  | _ :: r, c :: cs => c * prod r + sw r cs
theorem sw_nil : ∀ q : List Int, sw q [] = 0
  | [] => rfl
  | _ :: _ => rfl
def hd0 (g : List Int) : Int := g.getD 0 0
def shift : List Int → List Int
  | [] => []
  | _ :: cs => cs ++ [0]
theorem shift_length : ∀ g : List Int, (shift g).length = g.length
  | [] => rfl
  | _ :: cs => by simp [shift]
theorem sw_zero_end : ∀ (q cs : List Int), sw q (cs ++ [0]) = sw q cs
  | [], _ => rfl
  | _ :: r, [] => by
    show 0 * prod r + sw r [] = 0
    rw [sw_nil]; simp
  | _ :: r, c :: cs => by
    show c * prod r + sw r (cs ++ [0]) = c * prod r + sw r cs
    rw [sw_zero_end r cs]
theorem sw_climb (q : Int) (r : List Int) : ∀ g : List Int, sw (q :: r) g = hd0 g * prod r + sw r (shift g)
  | [] => by simp [hd0, shift, sw, sw_nil]
  | c :: cs => by
    show c * prod r + sw r cs = c * prod r + sw r (cs ++ [0])
    rw [sw_zero_end]
theorem sw_nonneg : ∀ {q c : List Int}, (∀ x ∈ q, 2 ≤ x) → (∀ x ∈ c, 0 ≤ x) → 0 ≤ sw q c
  | [], _, _, _ => Int.le_refl 0
  | _ :: _, [], _, _ => Int.le_refl 0
  | q :: r, c :: cs, hq, hc => by
    show 0 ≤ c * prod r + sw r cs
    have h1 := sw_nonneg (q := r) (c := cs) (fun x hx => hq x (List.mem_cons_of_mem _ hx)) (fun x hx => hc x (List.mem_cons_of_mem _ hx))
    have h2 : 0 < prod r := prod_pos fun x hx => hq x (List.mem_cons_of_mem _ hx)
    have h3 := Int.mul_nonneg (hc c List.mem_cons_self) (Int.le_of_lt h2)
    omega

theorem sum_map_add {α : Type} (f g : α → Int) : ∀ l : List α, (l.map fun x => f x + g x).sum = (l.map f).sum + (l.map g).sum
  | [] => by simp
  | a :: l => by
    simp only [List.map_cons, List.sum_cons, sum_map_add f g l]
    omega
theorem sum_map_mul {α : Type} (f : α → Int) (k : Int) : ∀ l : List α, (l.map fun x => f x * k).sum = (l.map f).sum * k
  | [] => by simp
  | a :: l => by
    simp only [List.map_cons, List.sum_cons, sum_map_mul f k l, Int.add_mul]
theorem sum_map_const {α : Type} (k : Int) : ∀ l : List α, (l.map fun _ => k).sum = l.length * k
  | [] => by simp
  | a :: l => by
    simp only [List.map_cons, List.sum_cons, sum_map_const k l, List.length_cons]
    grind
theorem sum_flatMap {α β : Type} (f : β → Int) (g : α → List β) : ∀ l : List α, ((l.flatMap g).map f).sum = (l.map fun x => ((g x).map f).sum).sum
  | [] => by simp
  | a :: l => by
    simp only [List.flatMap_cons, List.map_append, List.sum_append, List.map_cons, List.sum_cons, sum_flatMap f g l]
theorem sum_congr {α : Type} {f g : α → Int} : ∀ {l : List α}, (∀ x ∈ l, f x = g x) → (l.map f).sum = (l.map g).sum
  | [], _ => rfl
  | a :: l, h => by
    simp only [List.map_cons, List.sum_cons]
    rw [h a List.mem_cons_self, sum_congr fun x hx => h x (List.mem_cons_of_mem _ hx)]

/-- a split of counts -/
structure IsSplit (q : Int) (c : List Int) (gs : List (List Int)) : Prop where
  len : (gs.length : Int) = q
  row : ∀ g ∈ gs, g.length = c.length ∧ ∀ x ∈ g, 0 ≤ x
  col : ∀ j, (gs.map fun g => g.getD j 0).sum = c.getD j 0

theorem sw_split : ∀ (q : List Int) (c : List Int) (gs : List (List Int)), (∀ j : Nat, (gs.map fun g => g.getD j 0).sum = c.getD j 0) → (gs.map (sw q)).sum = sw q c
  | [], c, gs, _ => by
    rw [show (gs.map (sw [])).sum = (gs.map fun _ => (0 : Int)).sum from sum_congr fun x _ => rfl, sum_map_const]
    simp [sw]
  | q :: r, c, gs, h => by
    have key : ∀ g : List Int, sw (q :: r) g = g.getD 0 0 * prod r + sw r g.tail := fun g => by
      cases g with
      | nil => simp [sw, sw_nil]
      | cons a l => rfl
    have tl : ∀ (g : List Int) (j : Nat), g.tail.getD j 0 = g.getD (j + 1) 0 := fun g j => by
      cases g with
      | nil => simp
      | cons a l => rfl
    rw [sum_congr fun x _ => key x, sum_map_add, sum_map_mul, h 0, key c]
    have ih := sw_split r c.tail (gs.map List.tail) fun j => by
      rw [List.map_map, tl, ← h (j + 1)]
      exact sum_congr fun x _ => tl x j
    rw [List.map_map] at ih
    rw [← ih]
    rfl

/-! ### a game along a path -/
abbrev Strat := List Int → List (List Int)
/-- the group that the choices' last one takes -/
def grp (st : Strat) (ch : List Int) (g : Int) : List Int := (st ch).getD g.toNat []
/-- the position after some choices -/
def pos (st : Strat) (c : List Int) (ch : List Int) : List Int := match ch.getLast? with
  | none => c
  | some g => shift (grp st ch.dropLast g)
theorem pos_nil (st : Strat) (c : List Int) : pos st c [] = c := rfl
theorem pos_snoc (st : Strat) (c ch : List Int) (g : Int) : pos st c (ch ++ [g]) = shift (grp st ch g) := by
  unfold pos
  rw [List.getLast?_concat, List.dropLast_concat]
/-- the arrivals along some choices -/
def arr (st : Strat) (ch : List Int) : Int := ((List.range ch.length).map fun i => hd0 (grp st (ch.take i) (ch.getD i 0))).sum
theorem arr_nil (st : Strat) : arr st [] = 0 := rfl
theorem arr_snoc (st : Strat) (ch : List Int) (g : Int) : arr st (ch ++ [g]) = arr st ch + hd0 (grp st ch g) := by
  unfold arr
  rw [List.length_append, List.length_singleton, List.range_succ, List.map_append, List.sum_append]
  congr 1
  · refine sum_congr fun i hi => ?_
    have hi : i < ch.length := List.mem_range.mp hi
    rw [List.take_append_of_le_length (Nat.le_of_lt hi)]
    simp [List.getD_eq_getElem?_getD, List.getElem?_append_left hi]
  · simp [List.getD_eq_getElem?_getD]

/-- choices of the first rounds -/
def Ok (rs : List Int) (ch : List Int) : Prop := ch.length ≤ rs.length ∧ ∀ (i : Nat) (g e : Int), ch[i]? = some g → rs[i]? = some e → 0 ≤ g ∧ g < e
/-- a strategy whose splits are splits -/
def Valid (rs c : List Int) (st : Strat) : Prop := ∀ (ch : List Int) (e : Int), Ok rs ch → rs[ch.length]? = some e → IsSplit e (pos st c ch) (st ch)

/-- all lists of choices, as the law makes them -/
def ext (e : Int) (ps : List (List Int)) : List (List Int) := ps.flatMap fun p => (List.range e.toNat).map fun k : Nat => p ++ [(k : Int)]
def paths (rs : List Int) : List (List Int) := rs.foldl (fun ps e => ext e ps) [[]]
theorem paths_snoc (rs : List Int) (e : Int) : paths (rs ++ [e]) = ext e (paths rs) := by
  unfold paths
  rw [List.foldl_append]
  rfl
theorem ext_length (e : Int) (he : 0 ≤ e) : ∀ ps : List (List Int), ((ext e ps).length : Int) = ps.length * e := by
  intro ps
  unfold ext
  induction ps with
  | nil => simp
  | cons p ps ih =>
    rw [List.flatMap_cons, List.length_append, List.length_map, List.length_range, List.length_cons]
    have : ((e.toNat + (ps.flatMap fun p => (List.range e.toNat).map fun k : Nat => p ++ [(k : Int)]).length : Nat) : Int) = e + ps.length * e := by
      rw [← ih]; omega
    rw [this]
    grind
theorem ok_take {rs ch : List Int} {i : Nat} (h : Ok (rs.take i) ch) : Ok rs ch := by
  obtain ⟨h1, h2⟩ := h
  refine ⟨Nat.le_trans h1 (by simp; omega), fun j g e hg he => ?_⟩
  refine h2 j g e hg ?_
  have hj : j < ch.length := (List.getElem?_eq_some_iff.mp hg).1
  have : j < i := by
    have := List.length_take_le i rs
    omega
  rw [List.getElem?_take, if_pos this]
  exact he
theorem mem_paths : ∀ (i : Nat) (rs p : List Int), i ≤ rs.length → p ∈ paths (rs.take i) → p.length = i ∧ Ok rs p
  | 0, rs, p, _, h => by
    have : p = [] := by simpa [paths] using h
    subst this
    exact ⟨rfl, Nat.zero_le _, fun j g e h => by simp at h⟩
  | i + 1, rs, p, hi, h => by
    have hlt : i < rs.length := hi
    rw [List.take_add_one, List.getElem?_eq_getElem hlt] at h
    rw [show (some rs[i]).toList = [rs[i]] from rfl, paths_snoc] at h
    unfold ext at h
    obtain ⟨p0, hp0, hk⟩ := List.mem_flatMap.mp h
    obtain ⟨k, hk, rfl⟩ := List.mem_map.mp hk
    have hk : k < rs[i].toNat := List.mem_range.mp (by assumption)
    obtain ⟨h1, h2, h3⟩ := mem_paths i rs p0 (Nat.le_of_lt hlt) hp0
    refine ⟨by simp [h1], ⟨by simp [h1]; omega, fun j g e hg he => ?_⟩⟩
    by_cases hj : j < p0.length
    · rw [List.getElem?_append_left hj] at hg
      exact h3 j g e hg he
    · have hl := (List.getElem?_eq_some_iff.mp hg).1
      rw [List.length_append, List.length_singleton] at hl
      have ej : j = p0.length := by omega
      subst ej
      rw [List.getElem?_concat_length] at hg
      cases hg
      rw [h1, List.getElem?_eq_getElem hlt] at he
      cases he
      omega
theorem paths_len (rs : List Int) (h : ∀ x ∈ rs, 2 ≤ x) : ∀ i, i ≤ rs.length → ((paths (rs.take i)).length : Int) = pp rs i
  | 0, _ => by simp [paths, pp, prod]
  | i + 1, hi => by
    have hlt : i < rs.length := hi
    have e1 : rs[i]? = some rs[i] := List.getElem?_eq_getElem hlt
    have ih := paths_len rs h i (Nat.le_of_lt hlt)
    rw [List.take_add_one, e1, show (some rs[i]).toList = [rs[i]] from rfl, paths_snoc, ext_length _ (by have := h rs[i] (List.getElem_mem hlt); omega), ih, pp_succ e1]
theorem paths_length (rs : List Int) (h : ∀ x ∈ rs, 2 ≤ x) : ((paths rs).length : Int) = prod rs := by
  have := paths_len rs h rs.length (Nat.le_refl _)
  rw [List.take_length] at this
  rw [this, pp_all]

theorem drop_cons {rs : List Int} {i : Nat} (h : i < rs.length) : rs.drop i = rs[i] :: rs.drop (i + 1) := List.drop_eq_getElem_cons h

/-- the sum over the k-th groups, told by place -/
theorem sum_groups (f : List Int → Int) (gs : List (List Int)) (e : Int) (h : (gs.length : Int) = e) : ((List.range e.toNat).map fun k : Nat => f (gs.getD k [])).sum = (gs.map f).sum := by
  have he : e.toNat = gs.length := by omega
  rw [he]
  congr 1
  apply List.ext_getElem
  · simp
  · intro i h1 h2
    have h1 : i < gs.length := by simpa using h1
    simp [List.getElem?_eq_getElem h1]

theorem mean_step {rs c : List Int} {st : Strat} (hv : Valid rs c st) (hq : ∀ x ∈ rs, 2 ≤ x) : ∀ i, i ≤ rs.length →
    ((paths (rs.take i)).map fun p => arr st p * prod (rs.drop i) + sw (rs.drop i) (pos st c p)).sum = sw rs c
  | 0, _ => by simp [paths, arr_nil, pos_nil]
  | i + 1, hi => by
    have hlt : i < rs.length := hi
    have e1 : rs[i]? = some rs[i] := List.getElem?_eq_getElem hlt
    rw [← mean_step hv hq i (Nat.le_of_lt hlt), List.take_add_one, e1, show (some rs[i]).toList = [rs[i]] from rfl, paths_snoc]
    unfold ext
    rw [sum_flatMap]
    refine sum_congr fun p hp => ?_
    obtain ⟨hl, hok⟩ := mem_paths i rs p (Nat.le_of_lt hlt) hp
    have sp := hv p rs[i] hok (by rw [hl]; exact e1)
    rw [List.map_map]
    have h2 := hq rs[i] (List.getElem_mem hlt)
    have key : ∀ k : Nat, ((fun p => arr st p * prod (rs.drop (i + 1)) + sw (rs.drop (i + 1)) (pos st c p)) ∘ fun k : Nat => p ++ [(k : Int)]) k
        = arr st p * prod (rs.drop (i + 1)) + sw (rs.drop i) ((st p).getD k []) := fun k => by
      show arr st (p ++ [(k : Int)]) * prod (rs.drop (i + 1)) + sw (rs.drop (i + 1)) (pos st c (p ++ [(k : Int)])) = _
      rw [arr_snoc, pos_snoc, drop_cons hlt, sw_climb]
      unfold grp
      rw [Int.toNat_natCast]
      grind
    rw [sum_congr (fun k _ => key k), sum_map_add, sum_map_const, sum_groups (sw (rs.drop i)) (st p) rs[i] sp.len, sw_split _ _ _ sp.col, List.length_range, drop_cons hlt]
    show (rs[i].toNat : Int) * (arr st p * prod (rs.drop (i + 1))) + _ = arr st p * (rs[i] * prod (rs.drop (i + 1))) + _
    rw [Int.toNat_of_nonneg (by omega)]
    grind
/-- the mean of all games -/
theorem mean {rs c : List Int} {st : Strat} (hv : Valid rs c st) (hq : ∀ x ∈ rs, 2 ≤ x) : ((paths rs).map (arr st)).sum = sw rs c := by
  have h := mean_step hv hq rs.length (Nat.le_refl _)
  rw [List.take_length, List.drop_length] at h
  rw [← h]
  refine sum_congr fun p _ => ?_
  show arr st p = arr st p * 1 + 0
  omega
end SC

/-! ## ScMath3 -/
/-! The balanced split; bounds; the sorted list. -/
namespace SC

/-- the running value of counts in the schedule's digits -/
def Sx (rs v : List Int) : Nat → Int
  | 0 => 0
  | i + 1 => Sx rs v i * rs.getD i 0 + v.getD i 0
theorem getD_drop (l : List Int) (i j : Nat) : (l.drop i).getD j 0 = l.getD (i + j) 0 := by
  simp [List.getD_eq_getElem?_getD]
theorem sw_head (q : Int) (r c : List Int) : sw (q :: r) c = c.getD 0 0 * prod r + sw r (c.drop 1) := by
  cases c with
  | nil => simp [sw, sw_nil]
  | cons a l => rfl
theorem Sx_sw (rs v : List Int) : ∀ i, i ≤ rs.length → Sx rs v i * prod (rs.drop i) + sw (rs.drop i) (v.drop i) = sw rs v
  | 0, _ => by simp [Sx]
  | i + 1, hi => by
    have hlt : i < rs.length := hi
    rw [← Sx_sw rs v i (Nat.le_of_lt hlt), drop_cons hlt, sw_head, List.drop_drop]
    have e1 : rs.getD i 0 = rs[i] := by simp [List.getD_eq_getElem?_getD, hlt]
    show (Sx rs v i * rs.getD i 0 + v.getD i 0) * prod (rs.drop (i + 1)) + sw (rs.drop (i + 1)) (v.drop (i + 1)) = Sx rs v i * (rs[i] * prod (rs.drop (i + 1))) + ((v.drop i).getD 0 0 * prod (rs.drop (i + 1)) + sw (rs.drop (i + 1)) (v.drop (i + 1)))
    rw [e1, getD_drop, Nat.add_zero]
    grind
theorem Sx_all (rs v : List Int) : Sx rs v rs.length = sw rs v := by
  have h := Sx_sw rs v rs.length (Nat.le_refl _)
  rw [List.drop_length] at h
  rw [← h]
  show _ = Sx rs v rs.length * 1 + 0
  omega

/-- the first word for the next climbers, kept within the circle -/
def fb (rs c : List Int) : Nat → Int
  | 0 => 0
  | i + 1 => (fb rs c i * rs.getD i 0 % pp rs (i + 1) + c.getD i 0) % pp rs (i + 1)
/-- the first word at turn i -/
def fr (rs c : List Int) (i : Nat) : Int := fb rs c i * rs.getD i 0 % pp rs (i + 1)
/-- the words of length i that begin with a given group -/
def ln (rs : List Int) (i : Nat) : Int := prod ((rs.take i).tail)
theorem pp_ln {q : Int} {r : List Int} (i : Nat) : pp (q :: r) (i + 1) = ln (q :: r) (i + 1) * q := by
  unfold pp ln
  rw [List.take_succ_cons, List.tail_cons]
  exact Int.mul_comm _ _
theorem ln_succ {q : Int} {r : List Int} {i : Nat} {e : Int} (h : (q :: r)[i + 1]? = some e) : ln (q :: r) (i + 2) = ln (q :: r) (i + 1) * e := by
  unfold ln
  rw [List.take_succ_cons, List.tail_cons, List.take_succ_cons, List.tail_cons]
  exact pp_succ (q := r) (by simpa using h)
theorem ln_pos {q : Int} {r : List Int} (h : ∀ x ∈ q :: r, 2 ≤ x) (i : Nat) : 0 < ln (q :: r) (i + 1) := by
  unfold ln
  rw [List.take_succ_cons, List.tail_cons]
  exact prod_pos fun x hx => h x (List.mem_cons_of_mem _ (List.mem_of_mem_take hx))
/-- a group's climbers of one distance -/
def colB (rs c : List Int) (i : Nat) (g : Int) : Int :=
  if i < rs.length then btw (c.getD i 0) (pp rs (i + 1)) (ln rs (i + 1)) ((g * ln rs (i + 1) - fr rs c i) % pp rs (i + 1)) else if g = 0 then c.getD i 0 else 0
theorem btw_zero (size length place : Int) (h0 : 0 ≤ place) : btw 0 size length place = 0 := by
  unfold btw
  simp
  omega
theorem mul_emod (a b e : Int) : a % b * e % (b * e) = a * e % (b * e) := by
  have h : a * e = a % b * e + b * e * (a / b) := by
    have := Int.mul_ediv_add_emod a b
    have h2 : a * e = (b * (a / b) + a % b) * e := by rw [this]
    rw [h2]
    grind
  rw [h, Int.add_mul_emod_self_left]
theorem getD_nonneg {c : List Int} (hc : ∀ x ∈ c, 0 ≤ x) (i : Nat) : 0 ≤ c.getD i 0 := by
  rw [List.getD_eq_getElem?_getD]
  cases e : c[i]? with
  | none => simp
  | some x => exact hc x (List.mem_of_getElem? e)
theorem fb_eq {q : Int} {r c : List Int} (h : ∀ x ∈ q :: r, 2 ≤ x) : ∀ i, i ≤ (q :: r).length → fb (q :: r) c i = Sx (q :: r) c i % pp (q :: r) i
  | 0, _ => by simp [fb, Sx, pp, prod]
  | i + 1, hi => by
    have hlt : i < (q :: r).length := hi
    have e1 : (q :: r)[i]? = some (q :: r)[i] := List.getElem?_eq_getElem hlt
    have e2 : (q :: r).getD i 0 = (q :: r)[i] := by rw [List.getD_eq_getElem?_getD, e1]; rfl
    show (fb (q :: r) c i * (q :: r).getD i 0 % pp (q :: r) (i + 1) + c.getD i 0) % pp (q :: r) (i + 1) = (Sx (q :: r) c i * (q :: r).getD i 0 + c.getD i 0) % pp (q :: r) (i + 1)
    rw [fb_eq h i (Nat.le_of_lt hlt), pp_succ e1, e2, mul_emod, Int.emod_add_emod]
theorem fr_eq {q : Int} {r c : List Int} (h : ∀ x ∈ q :: r, 2 ≤ x) {i : Nat} (hlt : i < (q :: r).length) : fr (q :: r) c i = Sx (q :: r) c i * (q :: r).getD i 0 % pp (q :: r) (i + 1) := by
  have e1 : (q :: r)[i]? = some (q :: r)[i] := List.getElem?_eq_getElem hlt
  have e2 : (q :: r).getD i 0 = (q :: r)[i] := by rw [List.getD_eq_getElem?_getD, e1]; rfl
  unfold fr
  rw [fb_eq h i (Nat.le_of_lt hlt), pp_succ e1, e2, mul_emod]

theorem Sx_nonneg {rs c : List Int} (h : ∀ x ∈ rs, 2 ≤ x) (hc : ∀ x ∈ c, 0 ≤ x) : ∀ i, 0 ≤ Sx rs c i
  | 0 => Int.le_refl 0
  | i + 1 => by
    show 0 ≤ Sx rs c i * rs.getD i 0 + c.getD i 0
    have h1 : 0 ≤ rs.getD i 0 := by
      rw [List.getD_eq_getElem?_getD]
      cases e : rs[i]? with
      | none => simp
      | some x => have := h x (List.mem_of_getElem? e); simp; omega
    have h2 := getD_nonneg hc i
    have := Int.mul_nonneg (Sx_nonneg h hc i) h1
    omega

/-- a group's weight is what the climbers cover of its part of the circle -/
theorem Sx_cumF {q : Int} {r c v : List Int} {g : Int} (h : ∀ x ∈ q :: r, 2 ≤ x) (hc : ∀ x ∈ c, 0 ≤ x) (hg0 : 0 ≤ g) (hg1 : g < q) (hv : ∀ i, i < (q :: r).length → v.getD i 0 = colB (q :: r) c i g) :
    ∀ i, i + 1 ≤ (q :: r).length → Sx (q :: r) v (i + 1) = cumF (pp (q :: r) (i + 1)) (ln (q :: r) (i + 1)) (g * ln (q :: r) (i + 1)) (Sx (q :: r) c (i + 1))
  | 0, hi => by
    have hlt : 0 < (q :: r).length := hi
    have hq := h q List.mem_cons_self
    have p1 : pp (q :: r) 1 = q := by simp [pp, prod]
    have l1 : ln (q :: r) 1 = 1 := by simp [ln, prod]
    show Sx (q :: r) v 0 * _ + v.getD 0 0 = cumF _ _ _ (Sx (q :: r) c 0 * _ + c.getD 0 0)
    have z : ∀ w : List Int, Sx (q :: r) w 0 = 0 := fun _ => rfl
    rw [hv 0 hlt, z, z, Int.zero_mul, Int.zero_add, Int.zero_add]
    unfold colB
    rw [if_pos hlt, fr_eq h hlt, z, Int.zero_mul]
    simp only [Nat.zero_add]
    rw [p1, l1, Int.mul_one, Int.zero_emod, Int.sub_zero]
    have k := cumF_step (c.getD 0 0) 0 q 1 g (by omega) (getD_nonneg hc 0) (by omega) (by omega) hg0 hg1 (by omega) (by omega)
    rw [Int.zero_add, cumF_zero q 1 g (by omega) hg0, Int.sub_zero, Int.sub_zero] at k
    exact k.symm
  | i + 1, hi => by
    have hlt : i + 1 < (q :: r).length := hi
    have e1 : (q :: r)[i + 1]? = some (q :: r)[i + 1] := List.getElem?_eq_getElem hlt
    have e2 : (q :: r).getD (i + 1) 0 = (q :: r)[i + 1] := by rw [List.getD_eq_getElem?_getD, e1]; rfl
    have he := h _ (List.getElem_mem hlt)
    have hq := h q List.mem_cons_self
    have ih := Sx_cumF h hc hg0 hg1 hv i (Nat.le_of_lt hlt)
    show Sx (q :: r) v (i + 1) * (q :: r).getD (i + 1) 0 + v.getD (i + 1) 0 = cumF _ _ _ (Sx (q :: r) c (i + 1) * (q :: r).getD (i + 1) 0 + c.getD (i + 1) 0)
    rw [hv _ hlt, ih, e2]
    unfold colB
    rw [if_pos hlt, fr_eq h hlt, e2, pp_succ e1, ln_succ e1]
    have pz : 0 < pp (q :: r) (i + 1) := pp_pos h _
    have lz := ln_pos h i
    have plq := pp_ln (q := q) (r := r) i
    generalize (q :: r)[i + 1] = e at *
    generalize pp (q :: r) (i + 1) = P at *
    generalize ln (q :: r) (i + 1) = L at *
    generalize Sx (q :: r) c (i + 1) = S at *
    have gl : g * L + L ≤ P := by
      have := Int.mul_le_mul_of_nonneg_left (show g + 1 ≤ q by omega) (Int.le_of_lt lz)
      rw [plq]
      grind
    have g0 : 0 ≤ g * L := Int.mul_nonneg hg0 (Int.le_of_lt lz)
    have e3 : g * L * e = g * (L * e) := Int.mul_assoc _ _ _
    have f0 : 0 ≤ S * e % (P * e) := Int.emod_nonneg _ (by have := Int.mul_pos pz (show 0 < e by omega); omega)
    have f1 : S * e % (P * e) < P * e := Int.emod_lt_of_pos _ (Int.mul_pos pz (by omega))
    have gl2 : g * (L * e) + L * e ≤ P * e := by
      rw [← e3, ← Int.add_mul]
      exact Int.mul_le_mul_of_nonneg_right gl (by omega)
    have g02 : 0 ≤ g * (L * e) := by
      rw [← e3]
      exact Int.mul_nonneg g0 (by omega)
    have le0 : 0 < L * e := Int.mul_pos lz (by omega)
    have k := cumF_step (c.getD (i + 1) 0) (S * e % (P * e)) (P * e) (L * e) (g * (L * e)) (Int.mul_pos pz (by omega)) (getD_nonneg hc _) f0 f1 g02 (by omega) (by omega) gl2
    rw [← k, ← cumF_scale P L (g * L) S e (by omega), e3]
    have d : S * e = S * e % (P * e) + P * e * (S * e / (P * e)) := (Int.emod_add_mul_ediv _ _).symm
    have m1 : cumF (P * e) (L * e) (g * (L * e)) (S * e + c.getD (i + 1) 0) = S * e / (P * e) * (L * e) + cumF (P * e) (L * e) (g * (L * e)) (S * e % (P * e) + c.getD (i + 1) 0) := by
      have : S * e + c.getD (i + 1) 0 = (S * e % (P * e) + c.getD (i + 1) 0) + P * e * (S * e / (P * e)) := by omega
      rw [this, cumF_add_mul _ _ _ _ _ (Int.mul_pos pz (by omega))]
    have m2 : cumF (P * e) (L * e) (g * (L * e)) (S * e) = S * e / (P * e) * (L * e) + cumF (P * e) (L * e) (g * (L * e)) (S * e % (P * e)) := by
      have := cumF_add_mul (P * e) (L * e) (g * (L * e)) (S * e % (P * e)) (S * e / (P * e)) (Int.mul_pos pz (by omega))
      rw [← d] at this
      exact this
    rw [m1, m2]
    omega
theorem sw_cumF {q : Int} {r c v : List Int} {g : Int} (h : ∀ x ∈ q :: r, 2 ≤ x) (hc : ∀ x ∈ c, 0 ≤ x) (hg0 : 0 ≤ g) (hg1 : g < q) (hv : ∀ i, i < (q :: r).length → v.getD i 0 = colB (q :: r) c i g) :
    sw (q :: r) v = cumF (prod (q :: r)) (prod r) (g * prod r) (sw (q :: r) c) := by
  have k := Sx_cumF h hc hg0 hg1 hv r.length (by simp)
  have e1 : pp (q :: r) (r.length + 1) = prod (q :: r) := pp_all (q :: r)
  have e2 : ln (q :: r) (r.length + 1) = prod r := by
    unfold ln
    rw [List.take_succ_cons, List.tail_cons, List.take_length]
  have e3 : ∀ w, Sx (q :: r) w (r.length + 1) = sw (q :: r) w := fun w => Sx_all (q :: r) w
  rw [e1, e2, e3, e3] at k
  exact k

/-! ### the three splits -/
/-- a table: row g, place i -/
def tab (q : Int) (n : Nat) (f : Nat → Int → Int) : List (List Int) := (List.range q.toNat).map fun g : Nat => (List.range n).map fun i => f i (g : Int)
theorem tab_split {q : Int} {c : List Int} {f : Nat → Int → Int} (hq : 0 ≤ q) (hf : ∀ (i : Nat) (g : Int), i < c.length → 0 ≤ g → g < q → 0 ≤ f i g) (hs : ∀ i, i < c.length → ((List.range q.toNat).map fun g : Nat => f i (g : Int)).sum = c.getD i 0) : IsSplit q c (tab q c.length f) := by
  refine ⟨by simp [tab]; omega, fun row hr => ?_, fun j => ?_⟩
  · obtain ⟨g, hg, rfl⟩ := List.mem_map.mp hr
    have hg : g < q.toNat := List.mem_range.mp hg
    refine ⟨by simp, fun x hx => ?_⟩
    obtain ⟨i, hi, rfl⟩ := List.mem_map.mp hx
    exact hf i g (List.mem_range.mp hi) (by omega) (by omega)
  · unfold tab
    rw [List.map_map]
    by_cases hj : j < c.length
    · rw [← hs j hj]
      refine sum_congr fun g _ => ?_
      simp [List.getD_eq_getElem?_getD, hj]
    · have e : c.getD j 0 = 0 := by simp [List.getD_eq_getElem?_getD, List.getElem?_eq_none (by omega : c.length ≤ j)]
      have z : ((List.range q.toNat).map fun _ : Nat => (0 : Int)).sum = 0 := by rw [sum_map_const]; simp
      rw [e, ← z]
      refine sum_congr fun g _ => ?_
      rw [z]
      simp [List.getD_eq_getElem?_getD, List.getElem?_eq_none (by simp; omega : ((List.range c.length).map fun i => f i (g : Int)).length ≤ j)]
theorem sum_first (n : Nat) (hn : 0 < n) (x : Int) : ((List.range n).map fun g : Nat => if (g : Int) = 0 then x else 0).sum = x := by
  obtain ⟨m, rfl⟩ : ∃ m, n = m + 1 := ⟨n - 1, by omega⟩
  rw [List.range_succ_eq_map, List.map_cons, List.sum_cons, List.map_map, sum_congr (g := fun _ => (0 : Int)) (fun k _ => ?_), sum_map_const]
  · simp
  · show (if ((k + 1 : Nat) : Int) = 0 then x else 0) = 0
    rw [if_neg (by omega)]

def bal : List Int → List Int → List (List Int) := fun rs c => tab (rs.getD 0 0) c.length (colB rs c)
theorem bal_split {q : Int} {r c : List Int} (h : ∀ x ∈ q :: r, 2 ≤ x) (hc : ∀ x ∈ c, 0 ≤ x) : IsSplit q c (bal (q :: r) c) := by
  have hq := h q List.mem_cons_self
  refine tab_split (by omega) (fun i g hi g0 g1 => ?_) (fun i hi => ?_)
  · unfold colB
    split
    · exact btw_nonneg _ _ _ _ (pp_pos h _) (getD_nonneg hc i) (Int.le_of_lt (ln_pos h _))
    · split
      · exact getD_nonneg hc i
      · exact Int.le_refl 0
  · unfold colB
    by_cases hlt : i < (q :: r).length
    · simp only [if_pos hlt]
      have e : (q.toNat : Int) * ln (q :: r) (i + 1) = pp (q :: r) (i + 1) := by
        rw [pp_ln, Int.toNat_of_nonneg (by omega), Int.mul_comm]
      have k := btw_split (c.getD i 0) (pp (q :: r) (i + 1)) (ln (q :: r) (i + 1)) (-fr (q :: r) c i) q.toNat (pp_pos h _) (getD_nonneg hc i) (Int.le_of_lt (ln_pos h _)) (Int.le_of_eq e) (by omega)
      rw [e, btw_whole _ _ _ (pp_pos h _) (getD_nonneg hc i)] at k
      refine Eq.trans (sum_congr fun g _ => ?_) k
      rw [show (g : Int) * ln (q :: r) (i + 1) - fr (q :: r) c i = -fr (q :: r) c i + (g : Int) * ln (q :: r) (i + 1) by omega]
    · simp only [if_neg hlt]
      exact sum_first _ (by omega) _
def even : List Int → List Int → List (List Int) := fun rs c => tab (rs.getD 0 0) c.length fun i g => c.getD i 0 / rs.getD 0 0 + if g < c.getD i 0 % rs.getD 0 0 then 1 else 0
theorem sum_below (m : Int) (hm : 0 ≤ m) : ∀ n : Nat, ((List.range n).map fun g : Nat => if (g : Int) < m then (1 : Int) else 0).sum = min m n
  | 0 => by simp; omega
  | n + 1 => by
    rw [List.range_succ, List.map_append, List.sum_append, sum_below m hm n]
    simp only [List.map_cons, List.map_nil, List.sum_cons, List.sum_nil]
    split <;> omega
theorem even_split {q : Int} {r c : List Int} (hq : 2 ≤ q) (hc : ∀ x ∈ c, 0 ≤ x) : IsSplit q c (even (q :: r) c) := by
  refine tab_split (by omega) (fun i g hi g0 g1 => ?_) (fun i hi => ?_)
  · have := Int.ediv_nonneg (getD_nonneg hc i) (show 0 ≤ q by omega)
    show 0 ≤ c.getD i 0 / q + if g < c.getD i 0 % q then 1 else 0
    split <;> omega
  · show ((List.range q.toNat).map fun g : Nat => c.getD i 0 / q + if (g : Int) < c.getD i 0 % q then 1 else 0).sum = c.getD i 0
    have h0 := Int.emod_nonneg (c.getD i 0) (show q ≠ 0 by omega)
    have h1 := Int.emod_lt_of_pos (c.getD i 0) (show 0 < q by omega)
    rw [sum_map_add, sum_map_const, sum_below _ h0, List.length_range]
    have := Int.mul_ediv_add_emod (c.getD i 0) q
    rw [Int.toNat_of_nonneg (by omega)]
    omega
def joint : List Int → List Int → List (List Int) := fun rs c => c :: (List.range (rs.getD 0 0 - 1).toNat).map fun _ => List.replicate c.length 0
theorem joint_split {q : Int} {r c : List Int} (hq : 2 ≤ q) (hc : ∀ x ∈ c, 0 ≤ x) : IsSplit q c (joint (q :: r) c) := by
  refine ⟨?_, fun g hg => ?_, fun j => ?_⟩
  · show ((((List.range (q - 1).toNat).map fun _ => List.replicate c.length (0 : Int)).length + 1 : Nat) : Int) = q
    simp
    omega
  · rcases List.mem_cons.mp hg with rfl | hg
    · exact ⟨rfl, hc⟩
    · obtain ⟨_, _, rfl⟩ := List.mem_map.mp hg
      exact ⟨by simp, fun x hx => by rw [(List.mem_replicate.mp hx).2]; exact Int.le_refl 0⟩
  · show ((c :: (List.range (q - 1).toNat).map fun _ => List.replicate c.length (0 : Int)).map fun g => g.getD j 0).sum = _
    rw [List.map_cons, List.sum_cons, List.map_map, sum_congr (g := fun _ => (0 : Int)) (fun k _ => ?_), sum_map_const]
    · simp
    · show (List.replicate c.length (0 : Int)).getD j 0 = 0
      rw [List.getD_eq_getElem?_getD, List.getElem?_replicate]
      split <;> rfl
end SC

/-! ## ScMath4 -/
/-! Strategies that look at the position; the balanced bounds; the sorted list. -/
namespace SC

/-- the position after some choices, for a split that is a function of the rest and the position -/
def posR (f : List Int → List Int → List (List Int)) : List Int → List Int → List Int → List Int
  | _, c, [] => c
  | rs, c, g :: ch => posR f rs.tail (shift ((f rs c).getD g.toNat [])) ch
def stF (f : List Int → List Int → List (List Int)) (rs c : List Int) : Strat := fun ch => f (rs.drop ch.length) (posR f rs c ch)
theorem posR_snoc (f : List Int → List Int → List (List Int)) : ∀ (rs c ch : List Int) (g : Int), posR f rs c (ch ++ [g]) = shift ((f (rs.drop ch.length) (posR f rs c ch)).getD g.toNat [])
  | rs, c, [], g => by simp [posR]
  | rs, c, h :: ch, g => by
    show posR f rs.tail (shift ((f rs c).getD h.toNat [])) (ch ++ [g]) = _
    rw [posR_snoc f rs.tail _ ch g]
    cases rs with
    | nil => simp [posR]
    | cons a l => simp [posR]
theorem pos_stF (f : List Int → List Int → List (List Int)) (rs c ch : List Int) : pos (stF f rs c) c ch = posR f rs c ch := by
  rcases List.eq_nil_or_concat ch with rfl | ⟨l, g, rfl⟩
  · rfl
  · rw [List.concat_eq_append, pos_snoc, posR_snoc]
    rfl
/-- good schedules and counts -/
structure Splits (f : List Int → List Int → List (List Int)) : Prop where
  ok : ∀ (q : Int) (r c : List Int), (∀ x ∈ q :: r, 2 ≤ x) → (∀ x ∈ c, 0 ≤ x) → IsSplit q c (f (q :: r) c)
theorem bal_splits : Splits bal := ⟨fun _ _ _ h hc => bal_split h hc⟩
theorem even_splits : Splits even := ⟨fun q _ _ h hc => even_split (h q List.mem_cons_self) hc⟩
theorem joint_splits : Splits joint := ⟨fun q _ _ h hc => joint_split (h q List.mem_cons_self) hc⟩

theorem shift_mem : ∀ {g : List Int} {x : Int}, x ∈ shift g → x ∈ g ∨ x = 0
  | [], x, h => by simp [shift] at h
  | a :: l, x, h => by
    rcases List.mem_append.mp h with h | h
    · exact .inl (List.mem_cons_of_mem _ h)
    · exact .inr (by simpa using h)
theorem split_grp {q : Int} {c : List Int} {gs : List (List Int)} (s : IsSplit q c gs) {g : Int} (h0 : 0 ≤ g) (h1 : g < q) : gs.getD g.toNat [] ∈ gs := by
  have hl := s.len
  have hlt : g.toNat < gs.length := by omega
  rw [List.getD_eq_getElem?_getD, List.getElem?_eq_getElem hlt]
  exact List.getElem_mem hlt
theorem split_pos {q : Int} {c : List Int} {gs : List (List Int)} (s : IsSplit q c gs) {g : Int} (h0 : 0 ≤ g) (h1 : g < q) :
    (shift (gs.getD g.toNat [])).length = c.length ∧ ∀ x ∈ shift (gs.getD g.toNat []), 0 ≤ x := by
  obtain ⟨e1, e2⟩ := s.row _ (split_grp s h0 h1)
  refine ⟨(shift_length _).trans e1, fun x hx => ?_⟩
  rcases shift_mem hx with h | rfl
  · exact e2 x h
  · exact Int.le_refl 0
theorem ok_snoc {rs ch : List Int} {g : Int} (h : Ok rs (ch ++ [g])) : Ok rs ch ∧ ∃ e, rs[ch.length]? = some e ∧ 0 ≤ g ∧ g < e := by
  obtain ⟨h1, h2⟩ := h
  rw [List.length_append, List.length_singleton] at h1
  have hlt : ch.length < rs.length := h1
  refine ⟨⟨Nat.le_of_lt hlt, fun i g' e hg he => ?_⟩, rs[ch.length], List.getElem?_eq_getElem hlt, h2 ch.length g _ (by simp) (List.getElem?_eq_getElem hlt)⟩
  have hi := (List.getElem?_eq_some_iff.mp hg).1
  exact h2 i g' e (by rw [List.getElem?_append_left hi]; exact hg) he
theorem ok_add {rs ch : List Int} {g e : Int} (h : Ok rs ch) (he : rs[ch.length]? = some e) (h0 : 0 ≤ g) (h1 : g < e) : Ok rs (ch ++ [g]) := by
  have hlt := (List.getElem?_eq_some_iff.mp he).1
  refine ⟨by simp; omega, fun i g' e' hg he' => ?_⟩
  by_cases hi : i < ch.length
  · rw [List.getElem?_append_left hi] at hg
    exact h.2 i g' e' hg he'
  · have hl := (List.getElem?_eq_some_iff.mp hg).1
    rw [List.length_append, List.length_singleton] at hl
    have ei : i = ch.length := by omega
    subst ei
    rw [List.getElem?_concat_length] at hg
    cases hg
    rw [he] at he'
    cases he'
    exact ⟨h0, h1⟩
/-- what a position is, for any strategy of splits -/
theorem pos_ok {rs c : List Int} {st : Strat} (hc : ∀ x ∈ c, 0 ≤ x) (hv : Valid rs c st) : ∀ (n : Nat) (ch : List Int), ch.length = n → Ok rs ch → (pos st c ch).length = c.length ∧ ∀ x ∈ pos st c ch, 0 ≤ x
  | 0, ch, hn, _ => by
    have e : ch = [] := List.length_eq_zero_iff.mp hn
    subst e
    exact ⟨rfl, hc⟩
  | n + 1, ch, hn, h => by
    rcases List.eq_nil_or_concat ch with rfl | ⟨l, g, rfl⟩
    · cases hn
    · rw [List.concat_eq_append] at h hn ⊢
      obtain ⟨h1, e, he, h0, h2⟩ := ok_snoc h
      have sp := hv l e h1 he
      rw [List.length_append, List.length_singleton] at hn
      have ih := pos_ok hc hv n l (by omega) h1
      rw [pos_snoc]
      unfold grp
      obtain ⟨a, b⟩ := split_pos sp h0 h2
      exact ⟨a.trans ih.1, b⟩
theorem stF_valid {f : List Int → List Int → List (List Int)} (F : Splits f) {rs c : List Int} (hq : ∀ x ∈ rs, 2 ≤ x) (hc : ∀ x ∈ c, 0 ≤ x) : Valid rs c (stF f rs c) := by
  suffices H : ∀ (n : Nat) (ch : List Int), ch.length = n → Ok rs ch → (∀ x ∈ posR f rs c ch, 0 ≤ x) by
    intro ch e hok he
    have hlt := (List.getElem?_eq_some_iff.mp he).1
    rw [pos_stF]
    unfold stF
    rw [drop_cons hlt]
    have : rs[ch.length] = e := by
      rw [List.getElem?_eq_getElem hlt] at he
      exact Option.some.inj he
    rw [this]
    refine F.ok _ _ _ (fun x hx => hq x ?_) (H _ ch rfl hok)
    rw [← this, ← drop_cons hlt] at hx
    exact List.mem_of_mem_drop hx
  intro n
  induction n with
  | zero =>
    intro ch hn _
    cases ch with
    | nil => exact hc
    | cons _ _ => cases hn
  | succ n ih =>
    intro ch hn h
    rcases List.eq_nil_or_concat ch with rfl | ⟨l, g, rfl⟩
    · cases hn
    · rw [List.concat_eq_append] at h hn ⊢
      obtain ⟨h1, e, he, h0, h2⟩ := ok_snoc h
      rw [List.length_append, List.length_singleton] at hn
      have hl := ih l (by omega) h1
      have hlt := (List.getElem?_eq_some_iff.mp he).1
      rw [posR_snoc, drop_cons hlt]
      have : rs[l.length] = e := by
        rw [List.getElem?_eq_getElem hlt] at he
        exact Option.some.inj he
      rw [this]
      refine (split_pos (F.ok _ _ _ (fun x hx => hq x ?_) hl) h0 h2).2
      rw [← this, ← drop_cons hlt] at hx
      exact List.mem_of_mem_drop hx

/-! ### the balanced games -/
theorem bal_row {q : Int} {r c : List Int} {g : Int} (h : ∀ x ∈ q :: r, 2 ≤ x) (hc : ∀ x ∈ c, 0 ≤ x) (h0 : 0 ≤ g) (h1 : g < q) :
    sw (q :: r) ((bal (q :: r) c).getD g.toNat []) = cumF (prod (q :: r)) (prod r) (g * prod r) (sw (q :: r) c) := by
  refine sw_cumF h hc h0 h1 fun i hi => ?_
  have hg : g.toNat < q.toNat := by omega
  have e1 : (bal (q :: r) c).getD g.toNat [] = (List.range c.length).map fun i => colB (q :: r) c i g := by
    have eg : ((g.toNat : Nat) : Int) = g := Int.toNat_of_nonneg h0
    unfold bal tab
    simp [List.getD_eq_getElem?_getD, hg, eg]
  rw [e1]
  by_cases hj : i < c.length
  · simp [List.getD_eq_getElem?_getD, hj]
  · have e2 : c.getD i 0 = 0 := by simp [List.getD_eq_getElem?_getD, List.getElem?_eq_none (by omega : c.length ≤ i)]
    unfold colB
    rw [if_pos hi, e2, btw_zero _ _ _ (Int.emod_nonneg _ (by have := pp_pos h (i + 1); omega))]
    rw [List.getD_eq_getElem?_getD, List.getElem?_eq_none (by simp; omega)]
    rfl
theorem le_floor {a w R : Int} (hR : 0 < R) (h : a * R ≤ w) : a ≤ w / R := (Int.le_ediv_iff_mul_le hR).mpr h
theorem ceil_le {a w R : Int} (hR : 0 < R) (h : w ≤ a * R) : ceilD w R ≤ a := by
  unfold ceilD
  have h1 := Int.mul_ediv_add_emod w R
  have h2 := Int.emod_nonneg w (show R ≠ 0 by omega)
  split
  · rename_i e
    have : R * (w / R) ≤ R * a := by rw [Int.mul_comm R a]; omega
    exact Int.le_of_mul_le_mul_left this hR
  · have : R * (w / R) < R * a := by rw [Int.mul_comm R a]; omega
    have := Int.lt_of_mul_lt_mul_left this (Int.le_of_lt hR)
    omega
theorem bal_bounds {rs c : List Int} (hq : ∀ x ∈ rs, 2 ≤ x) (hc : ∀ x ∈ c, 0 ≤ x) : ∀ (i : Nat) (p : List Int), i ≤ rs.length → p.length = i → Ok rs p →
    sw rs c / prod rs * prod (rs.drop i) ≤ arr (stF bal rs c) p * prod (rs.drop i) + sw (rs.drop i) (pos (stF bal rs c) c p) ∧
    arr (stF bal rs c) p * prod (rs.drop i) + sw (rs.drop i) (pos (stF bal rs c) c p) ≤ ceilD (sw rs c) (prod rs) * prod (rs.drop i)
  | 0, p, _, hp, _ => by
    have e : p = [] := List.length_eq_zero_iff.mp hp
    subst e
    rw [arr_nil, pos_nil, List.drop_zero, Int.zero_mul, Int.zero_add]
    have hP : 0 < prod rs := prod_pos hq
    have h1 := Int.mul_ediv_add_emod (sw rs c) (prod rs)
    have h2 := Int.emod_nonneg (sw rs c) (show prod rs ≠ 0 by omega)
    have h3 := Int.emod_lt_of_pos (sw rs c) hP
    rw [Int.mul_comm] at h1
    refine ⟨by omega, ?_⟩
    unfold ceilD
    split
    · omega
    · rw [Int.add_mul, Int.one_mul]
      omega
  | i + 1, p, hi, hp, hok => by
    have hlt : i < rs.length := hi
    rcases List.eq_nil_or_concat p with rfl | ⟨l, g, rfl⟩
    · cases hp
    rw [List.concat_eq_append] at hok hp ⊢
    rw [List.length_append, List.length_singleton] at hp
    have hl : l.length = i := by omega
    obtain ⟨h1, e, he, h0, h2⟩ := ok_snoc hok
    obtain ⟨a, b⟩ := bal_bounds hq hc i l (Nat.le_of_lt hlt) hl h1
    have hv : Valid rs c (stF bal rs c) := stF_valid bal_splits hq hc
    have hpos := (pos_ok hc hv l.length l rfl h1).2
    rw [hl, List.getElem?_eq_getElem hlt] at he
    have ee : rs[i] = e := Option.some.inj he
    rw [arr_snoc, pos_snoc]
    have hdr : ∀ x ∈ rs.drop i, 2 ≤ x := fun x hx => hq x (List.mem_of_mem_drop hx)
    have hgrp : grp (stF bal rs c) l g = (bal (rs.drop i) (pos (stF bal rs c) c l)).getD g.toNat [] := by
      unfold grp
      rw [pos_stF]
      unfold stF
      rw [hl]
    rw [drop_cons hlt, ee] at hdr hgrp a b
    have hw := bal_row (g := g) hdr hpos h0 h2
    rw [← hgrp, sw_climb] at hw
    have hR : 0 < prod (rs.drop (i + 1)) := prod_pos fun x hx => hq x (List.mem_of_mem_drop hx)
    have hE : 0 < e := by omega
    have hPe : 0 < prod (e :: rs.drop (i + 1)) := prod_pos hdr
    have lo := cumF_low (prod (e :: rs.drop (i + 1))) (prod (rs.drop (i + 1))) (g * prod (rs.drop (i + 1))) (sw (e :: rs.drop (i + 1)) (pos (stF bal rs c) c l))
    have hi' := cumF_high (prod (e :: rs.drop (i + 1))) (prod (rs.drop (i + 1))) (g * prod (rs.drop (i + 1))) (sw (e :: rs.drop (i + 1)) (pos (stF bal rs c) c l)) (Int.le_of_lt hR) (Int.mul_nonneg h0 (Int.le_of_lt hR))
    rw [← hw] at lo hi'
    generalize sw (e :: rs.drop (i + 1)) (pos (stF bal rs c) c l) = w at *
    generalize prod (e :: rs.drop (i + 1)) = R at *
    generalize prod (rs.drop (i + 1)) = R' at *
    generalize arr (stF bal rs c) l = A at *
    generalize sw rs c / prod rs = lo0 at *
    generalize ceilD (sw rs c) (prod rs) = hi0 at *
    have f1 := le_floor hPe (show (lo0 - A) * R ≤ w by rw [Int.sub_mul]; omega)
    have f2 := ceil_le hPe (show w ≤ (hi0 - A) * R by rw [Int.sub_mul]; omega)
    have g1 := Int.mul_le_mul_of_nonneg_right f1 (Int.le_of_lt hR)
    have g2 := Int.mul_le_mul_of_nonneg_right f2 (Int.le_of_lt hR)
    rw [Int.sub_mul] at g1 g2
    rw [Int.add_mul]
    constructor <;> omega
theorem bal_each {rs c : List Int} (hq : ∀ x ∈ rs, 2 ≤ x) (hc : ∀ x ∈ c, 0 ≤ x) {p : List Int} (hp : p ∈ paths rs) :
    sw rs c / prod rs ≤ arr (stF bal rs c) p ∧ arr (stF bal rs c) p ≤ ceilD (sw rs c) (prod rs) := by
  have h := mem_paths rs.length rs p (Nat.le_refl _) (by rw [List.take_length]; exact hp)
  have b := bal_bounds hq hc rs.length p (Nat.le_refl _) h.1 h.2
  rw [List.drop_length] at b
  have e : ∀ x : Int, x * prod [] = x := fun x => Int.mul_one x
  have e2 : ∀ x, sw [] x = 0 := fun _ => rfl
  rw [e, e, e, e2] at b
  omega

/-- a rising list of two neighbouring numbers -/
theorem two_values {lo : Int} : ∀ {l : List Int}, l.Pairwise (· ≤ ·) → (∀ x ∈ l, x = lo ∨ x = lo + 1) → ∃ a b : Nat, l = List.replicate a lo ++ List.replicate b (lo + 1)
  | [], _, _ => ⟨0, 0, rfl⟩
  | x :: l, hp, hm => by
    obtain ⟨a, b, e⟩ := two_values (lo := lo) (List.pairwise_cons.mp hp).2 fun y hy => hm y (List.mem_cons_of_mem _ hy)
    rcases hm x List.mem_cons_self with h | h
    · exact ⟨a + 1, b, by rw [e, h]; rfl⟩
    · cases a with
      | zero => exact ⟨0, b + 1, by rw [e, h]; rfl⟩
      | succ a =>
        have := (List.pairwise_cons.mp hp).1 lo (by rw [e]; simp [List.replicate_succ])
        omega
theorem sum_replicate' (a : Nat) (x : Int) : (List.replicate a x).sum = a * x := by
  induction a with
  | zero => simp
  | succ a ih =>
    rw [List.replicate_succ, List.sum_cons, ih]
    grind
theorem perm_sum {α : Type} (f : α → Int) {l₁ l₂ : List α} (h : l₁.Perm l₂) : (l₁.map f).sum = (l₂.map f).sum := by
  induction h with
  | nil => rfl
  | cons x _ ih => simp only [List.map_cons, List.sum_cons, ih]
  | swap x y l => simp only [List.map_cons, List.sum_cons]; omega
  | trans _ _ a b => exact a.trans b
/-- the list that the law says is due -/
theorem due_eq {rs c s : List Int} (hq : ∀ x ∈ rs, 2 ≤ x) (hc : ∀ x ∈ c, 0 ≤ x) (hp : s.Perm ((paths rs).map (arr (stF bal rs c)))) (hs : s.Pairwise (· ≤ ·)) :
    s = List.replicate (prod rs - sw rs c % prod rs).toNat (sw rs c / prod rs) ++ List.replicate (sw rs c % prod rs).toNat (sw rs c / prod rs + 1) := by
  have hP : 0 < prod rs := prod_pos hq
  have hm : ∀ x ∈ s, x = sw rs c / prod rs ∨ x = sw rs c / prod rs + 1 := fun x hx => by
    obtain ⟨p, hp', rfl⟩ := List.mem_map.mp (hp.mem_iff.mp hx)
    have b := bal_each hq hc hp'
    unfold ceilD at b
    split at b <;> omega
  obtain ⟨a, b, e⟩ := two_values hs hm
  have l1 : ((a + b : Nat) : Int) = prod rs := by
    rw [← paths_length rs hq, ← List.length_map (arr (stF bal rs c)), ← hp.length_eq, e]
    simp
  have s1 : (a : Int) * (sw rs c / prod rs) + (b : Int) * (sw rs c / prod rs + 1) = sw rs c := by
    have h := mean (stF_valid bal_splits hq hc) hq
    have h2 := perm_sum (fun x : Int => x) hp
    rw [List.map_id', List.map_id'] at h2
    rw [e, List.sum_append, sum_replicate', sum_replicate', h] at h2
    exact h2
  have h1 := Int.mul_ediv_add_emod (sw rs c) (prod rs)
  have s2 : prod rs * (sw rs c / prod rs) + b = sw rs c := by
    rw [← l1]
    grind
  have hb : (b : Int) = sw rs c % prod rs := by omega
  have ea : (prod rs - sw rs c % prod rs).toNat = a := by omega
  have eb : (sw rs c % prod rs).toNat = b := by omega
  rw [ea, eb]
  exact e
theorem min_mul_le {l : List Int} {m : Int} (h : ∀ x ∈ l, m ≤ x) : m * l.length ≤ l.sum := by
  induction l with
  | nil => simp
  | cons a l ih =>
    have h1 := h a List.mem_cons_self
    have h2 := ih fun x hx => h x (List.mem_cons_of_mem _ hx)
    rw [List.sum_cons, List.length_cons]
    have : m * ((l.length + 1 : Nat) : Int) = m * l.length + m := by grind
    omega
theorem max_mul_ge {l : List Int} {m : Int} (h : ∀ x ∈ l, x ≤ m) : l.sum ≤ m * l.length := by
  induction l with
  | nil => simp
  | cons a l ih =>
    have h1 := h a List.mem_cons_self
    have h2 := ih fun x hx => h x (List.mem_cons_of_mem _ hx)
    rw [List.sum_cons, List.length_cons]
    have : m * ((l.length + 1 : Nat) : Int) = m * l.length + m := by grind
    omega
end SC

/-! ## ScMath5 -/
/-! Plans. -/
namespace SC
structure Row where
  d : Int
  f : Int
  n : Int
structure GoodPlan (rs c : List Int) (pl : List Row) : Prop where
  row : ∀ r ∈ pl, 1 ≤ r.d ∧ r.d ≤ rs.length ∧ 0 ≤ r.f ∧ r.f < pp rs r.d.toNat ∧ 1 ≤ r.n
  tot : ∀ k : Nat, k < rs.length → (pl.map fun r => if r.d = (k : Int) + 1 then r.n else 0).sum = c.getD k 0
theorem sum_comm {α β : Type} (F : α → β → Int) (l : List α) (m : List β) : (l.map fun a => (m.map fun b => F a b).sum).sum = (m.map fun b => (l.map fun a => F a b).sum).sum := by
  induction l with
  | nil =>
    rw [List.map_nil, List.sum_nil]
    refine ((sum_map_const (0 : Int) m).trans (by simp)).symm.trans (sum_congr fun b _ => ?_)
    rfl
  | cons a l ih =>
    rw [List.map_cons, List.sum_cons, ih, ← sum_map_add]
    rfl
theorem sum_nonneg {α : Type} {F : α → Int} : ∀ {l : List α}, (∀ x ∈ l, 0 ≤ F x) → 0 ≤ (l.map F).sum
  | [], _ => Int.le_refl 0
  | a :: l, h => by
    rw [List.map_cons, List.sum_cons]
    have h1 := h a List.mem_cons_self
    have h2 := sum_nonneg fun x hx => h x (List.mem_cons_of_mem _ hx)
    omega
theorem sum_mem_le {α : Type} {F : α → Int} : ∀ {l : List α}, (∀ x ∈ l, 0 ≤ F x) → ∀ x ∈ l, F x ≤ (l.map F).sum
  | [], _, x, hx => by cases hx
  | a :: l, h, x, hx => by
    rw [List.map_cons, List.sum_cons]
    have h1 := h a List.mem_cons_self
    have h2 := sum_nonneg fun x hx => h x (List.mem_cons_of_mem _ hx)
    rcases List.mem_cons.mp hx with rfl | hx
    · omega
    · have := sum_mem_le (fun x hx => h x (List.mem_cons_of_mem _ hx)) x hx
      omega
theorem GoodPlan.short {rs c : List Int} {pl : List Row} (G : GoodPlan rs c pl) {r : Row} (hr : r ∈ pl) : r.d ≤ c.length := by
  obtain ⟨h1, h2, _, _, h5⟩ := G.row r hr
  have ht := G.tot (r.d - 1).toNat (by omega)
  have hd : r.d = ((r.d - 1).toNat : Int) + 1 := by omega
  have hm := sum_mem_le (F := fun x : Row => if x.d = ((r.d - 1).toNat : Int) + 1 then x.n else 0) (l := pl) (fun x hx => by
    obtain ⟨_, _, _, _, z⟩ := G.row x hx
    show 0 ≤ (if x.d = ((r.d - 1).toNat : Int) + 1 then x.n else 0)
    split <;> omega) r hr
  rw [if_pos hd, ht] at hm
  apply Classical.byContradiction
  intro hn
  have : c.getD (r.d - 1).toNat 0 = 0 := by
    rw [List.getD_eq_getElem?_getD, List.getElem?_eq_none (by omega)]
    rfl
  omega

/-- the words of length d that begin with given j letters -/
def mid (rs : List Int) (j d : Nat) : Int := pp rs d / pp rs j
theorem mid_mul {rs : List Int} (h : ∀ x ∈ rs, 2 ≤ x) {j d : Nat} (hj : j ≤ d) : mid rs j d * pp rs j = pp rs d := by
  have e : pp rs d = pp rs j * prod ((rs.take d).drop j) := by
    unfold pp
    rw [← prod_append]
    congr 1
    rw [show rs.take j = (rs.take d).take j by rw [List.take_take, Nat.min_eq_left hj], List.take_append_drop]
  unfold mid
  rw [e, Int.mul_ediv_cancel_left _ (by have := pp_pos h j; omega), Int.mul_comm]
theorem mid_pos {rs : List Int} (h : ∀ x ∈ rs, 2 ≤ x) {j d : Nat} (hj : j ≤ d) : 0 < mid rs j d := by
  have h1 := mid_mul h hj
  have h2 := pp_pos h d
  have h3 := pp_pos h j
  apply Classical.byContradiction
  intro hn
  have := Int.mul_le_mul_of_nonneg_right (show mid rs j d ≤ 0 by omega) (Int.le_of_lt h3)
  omega
theorem mid_succ {rs : List Int} (h : ∀ x ∈ rs, 2 ≤ x) {j d : Nat} {e : Int} (hj : j + 1 ≤ d) (he : rs[j]? = some e) : mid rs j d = e * mid rs (j + 1) d := by
  have h1 := mid_mul h (show j ≤ d by omega)
  have h2 := mid_mul h hj
  rw [pp_succ he, ← h1] at h2
  have h3 := pp_pos h j
  have : mid rs j d * pp rs j = e * mid rs (j + 1) d * pp rs j := by rw [← h2]; grind
  exact Int.eq_of_mul_eq_mul_right (by omega) this

/-- all choices are 0 -/
def zero0 (ch : List Int) : Bool := ch.all fun x => decide (x = 0)
/-- one row's climbers in group g of the next round, k + 1 rungs below the top -/
def cellR (rs ch : List Int) (g : Int) (k : Nat) (r : Row) : Int :=
  if r.d = (k : Int) + ch.length + 1 then btw r.n (pp rs r.d.toNat) (mid rs (ch.length + 1) r.d.toNat) (((Sx rs ch ch.length * rs.getD ch.length 0 + g) * mid rs (ch.length + 1) r.d.toNat - r.f) % pp rs r.d.toNat) else 0
def farC (rs c ch : List Int) (k : Nat) : Int := if zero0 ch = true ∧ rs.length ≤ k + ch.length then c.getD (k + ch.length) 0 else 0
def cellP (rs c : List Int) (pl : List Row) (ch : List Int) (k : Nat) (g : Int) : Int := (pl.map (cellR rs ch g k)).sum + if g = 0 then farC rs c ch k else 0
def stP (rs c : List Int) (pl : List Row) : Strat := fun ch => tab (rs.getD ch.length 0) c.length (cellP rs c pl ch)
/-- one row's climbers in the position -/
def posR1 (rs ch : List Int) (k : Nat) (r : Row) : Int :=
  if r.d = (k : Int) + ch.length + 1 then btw r.n (pp rs r.d.toNat) (mid rs ch.length r.d.toNat) ((Sx rs ch ch.length * mid rs ch.length r.d.toNat - r.f) % pp rs r.d.toNat) else 0
def posP (rs c : List Int) (pl : List Row) (ch : List Int) (k : Nat) : Int := (pl.map (posR1 rs ch k)).sum + farC rs c ch k

theorem cellR_nonneg {rs c : List Int} {pl : List Row} (h : ∀ x ∈ rs, 2 ≤ x) (G : GoodPlan rs c pl) {r : Row} (hr : r ∈ pl) (ch : List Int) (g : Int) (k : Nat) : 0 ≤ cellR rs ch g k r := by
  obtain ⟨h1, h2, h3, h4, h5⟩ := G.row r hr
  unfold cellR
  split
  · exact btw_nonneg _ _ _ _ (pp_pos h _) (by omega) (Int.le_of_lt (mid_pos h (by omega)))
  · exact Int.le_refl 0
theorem farC_nonneg {rs c : List Int} (hc : ∀ x ∈ c, 0 ≤ x) (ch : List Int) (k : Nat) : 0 ≤ farC rs c ch k := by
  unfold farC
  split
  · exact getD_nonneg hc _
  · exact Int.le_refl 0
theorem cell_sum {rs c : List Int} {pl : List Row} (h : ∀ x ∈ rs, 2 ≤ x) (G : GoodPlan rs c pl) {ch : List Int} {e : Int} (he : rs[ch.length]? = some e) (k : Nat) :
    ((List.range e.toNat).map fun g : Nat => cellP rs c pl ch k (g : Int)).sum = posP rs c pl ch k := by
  have e2 : 2 ≤ e := h e (List.mem_of_getElem? he)
  have ed : rs.getD ch.length 0 = e := by rw [List.getD_eq_getElem?_getD, he]; rfl
  unfold cellP posP
  rw [sum_map_add, sum_first _ (by omega), sum_comm (fun (g : Nat) r => cellR rs ch (g : Int) k r)]
  congr 1
  refine sum_congr fun r hr => ?_
  obtain ⟨h1, h2, h3, h4, h5⟩ := G.row r hr
  unfold cellR posR1
  by_cases hd : r.d = (k : Int) + ch.length + 1
  · simp only [if_pos hd]
    have hj : ch.length + 1 ≤ r.d.toNat := by omega
    have em : (e.toNat : Int) * mid rs (ch.length + 1) r.d.toNat = mid rs ch.length r.d.toNat := by
      rw [mid_succ h hj he, Int.toNat_of_nonneg (by omega)]
    have hle : mid rs ch.length r.d.toNat ≤ pp rs r.d.toNat := by
      have a := mid_mul h (show ch.length ≤ r.d.toNat by omega)
      have b := pp_pos h ch.length
      have z := Int.mul_le_mul_of_nonneg_left (show (1 : Int) ≤ pp rs ch.length by omega) (Int.le_of_lt (mid_pos h (show ch.length ≤ r.d.toNat by omega)))
      omega
    have b := btw_split r.n (pp rs r.d.toNat) (mid rs (ch.length + 1) r.d.toNat) (Sx rs ch ch.length * mid rs ch.length r.d.toNat - r.f) e.toNat (pp_pos h _) (by omega) (Int.le_of_lt (mid_pos h hj)) (by rw [em]; exact hle) (by omega)
    rw [em] at b
    refine Eq.trans (sum_congr fun g _ => ?_) b
    have : (Sx rs ch ch.length * rs.getD ch.length 0 + (g : Int)) * mid rs (ch.length + 1) r.d.toNat - r.f = Sx rs ch ch.length * mid rs ch.length r.d.toNat - r.f + (g : Int) * mid rs (ch.length + 1) r.d.toNat := by
      rw [ed, mid_succ h hj he]
      grind
    rw [this]
  · simp only [if_neg hd]
    rw [sum_map_const]
    simp
theorem Sx_append (rs a b : List Int) : ∀ i, i ≤ a.length → Sx rs (a ++ b) i = Sx rs a i
  | 0, _ => rfl
  | i + 1, hi => by
    show Sx rs (a ++ b) i * rs.getD i 0 + (a ++ b).getD i 0 = Sx rs a i * rs.getD i 0 + a.getD i 0
    rw [Sx_append rs a b i (by omega)]
    congr 1
    rw [List.getD_eq_getElem?_getD, List.getD_eq_getElem?_getD, List.getElem?_append_left (by omega)]
theorem Sx_snoc (rs ch : List Int) (g : Int) : Sx rs (ch ++ [g]) (ch ++ [g]).length = Sx rs ch ch.length * rs.getD ch.length 0 + g := by
  rw [List.length_append, List.length_singleton]
  show Sx rs (ch ++ [g]) ch.length * rs.getD ch.length 0 + (ch ++ [g]).getD ch.length 0 = _
  rw [Sx_append rs ch [g] ch.length (Nat.le_refl _)]
  congr 1
  rw [List.getD_eq_getElem?_getD, List.getElem?_concat_length]
  rfl
theorem zero0_snoc (ch : List Int) (g : Int) : zero0 (ch ++ [g]) = (zero0 ch && decide (g = 0)) := by
  unfold zero0
  rw [List.all_append]
  simp
theorem shift_tab {n : Nat} (F : Nat → Int) : shift ((List.range n).map F) = (List.range n).map fun k => if k + 1 < n then F (k + 1) else 0 := by
  cases n with
  | zero => rfl
  | succ n =>
    rw [List.range_succ_eq_map, List.map_cons]
    show List.map F (List.map Nat.succ (List.range n)) ++ [0] = _
    rw [← List.range_succ_eq_map, List.range_succ, List.map_append, List.map_map]
    congr 1
    · refine List.map_congr_left fun k hk => ?_
      rw [if_pos (by have := List.mem_range.mp hk; omega)]
      rfl
    · simp
theorem pos_stP {rs c : List Int} {pl : List Row} (h : ∀ x ∈ rs, 2 ≤ x) (G : GoodPlan rs c pl) : ∀ (n : Nat) (ch : List Int), ch.length = n → Ok rs ch → pos (stP rs c pl) c ch = (List.range c.length).map (posP rs c pl ch)
  | 0, ch, hn, _ => by
    have e : ch = [] := List.length_eq_zero_iff.mp hn
    subst e
    rw [pos_nil]
    apply List.ext_getElem
    · simp
    · intro k h1 h2
      rw [List.getElem_map, List.getElem_range]
      have e1 : c[k] = c.getD k 0 := by rw [List.getD_eq_getElem?_getD, List.getElem?_eq_getElem h1]; rfl
      unfold posP farC
      rw [e1]
      have z : zero0 [] = true := rfl
      by_cases hk : k < rs.length
      · rw [if_neg (by rintro ⟨_, b⟩; simp at b; omega), ← G.tot k hk, Int.add_zero]
        refine sum_congr fun r hr => ?_
        obtain ⟨r1, r2, r3, r4, r5⟩ := G.row r hr
        unfold posR1
        simp only [List.length_nil, Int.natCast_zero, Int.add_zero]
        split
        · have m0 : mid rs 0 r.d.toNat = pp rs r.d.toNat := by
            unfold mid
            rw [pp_zero, Int.ediv_one]
          rw [m0, btw_whole _ _ _ (pp_pos h _) (by omega)]
        · rfl
      · rw [if_pos ⟨z, by simp; omega⟩]
        have : (pl.map (posR1 rs [] k)).sum = 0 := by
          rw [sum_congr (g := fun _ => (0 : Int)) fun r hr => ?_, sum_map_const]
          · simp
          · obtain ⟨r1, r2, r3, r4, r5⟩ := G.row r hr
            unfold posR1
            rw [if_neg (by simp; omega)]
        rw [this]
        simp
  | n + 1, ch, hn, hok => by
    rcases List.eq_nil_or_concat ch with rfl | ⟨l, g, rfl⟩
    · cases hn
    rw [List.concat_eq_append] at hok hn ⊢
    obtain ⟨h1, e, he, h0, h2⟩ := ok_snoc hok
    have ed : rs.getD l.length 0 = e := by rw [List.getD_eq_getElem?_getD, he]; rfl
    rw [pos_snoc]
    have eg : ((g.toNat : Nat) : Int) = g := Int.toNat_of_nonneg h0
    have e1 : grp (stP rs c pl) l g = (List.range c.length).map fun k => cellP rs c pl l k g := by
      have hlt : g.toNat < e.toNat := by omega
      unfold grp stP tab
      rw [ed]
      simp [List.getD_eq_getElem?_getD, hlt, eg]
    rw [e1, shift_tab]
    refine List.map_congr_left fun k hk => ?_
    have hk := List.mem_range.mp hk
    have hlen : (l ++ [g]).length = l.length + 1 := by simp
    have far : farC rs c (l ++ [g]) k = if g = 0 then farC rs c l (k + 1) else 0 := by
      unfold farC
      rw [zero0_snoc, hlen, show k + (l.length + 1) = k + 1 + l.length by omega]
      by_cases hg : g = 0
      · rw [if_pos hg]
        simp [hg]
      · rw [if_neg hg]
        simp [hg]
    by_cases hk1 : k + 1 < c.length
    · rw [if_pos hk1]
      unfold cellP posP
      rw [far]
      congr 1
      refine sum_congr fun r hr => ?_
      unfold cellR posR1
      rw [Sx_snoc, hlen]
      by_cases hd : r.d = (k : Int) + ((l.length + 1 : Nat) : Int) + 1
      · rw [if_pos hd, if_pos (by omega)]
      · rw [if_neg hd, if_neg (by omega)]
    · rw [if_neg hk1]
      unfold posP
      rw [far]
      have z1 : farC rs c l (k + 1) = 0 := by
        unfold farC
        split
        · rw [List.getD_eq_getElem?_getD, List.getElem?_eq_none (by omega)]
          rfl
        · rfl
      have z2 : (pl.map (posR1 rs (l ++ [g]) k)).sum = 0 := by
        rw [sum_congr (g := fun _ => (0 : Int)) fun r hr => ?_, sum_map_const]
        · simp
        · have := G.short hr
          unfold posR1
          rw [hlen, if_neg (by omega)]
      rw [z1, z2]
      split <;> rfl
theorem stP_valid {rs c : List Int} {pl : List Row} (h : ∀ x ∈ rs, 2 ≤ x) (hc : ∀ x ∈ c, 0 ≤ x) (G : GoodPlan rs c pl) : Valid rs c (stP rs c pl) := by
  intro ch e hok he
  have ed : rs.getD ch.length 0 = e := by rw [List.getD_eq_getElem?_getD, he]; rfl
  have e2 : 2 ≤ e := h e (List.mem_of_getElem? he)
  rw [pos_stP h G ch.length ch rfl hok]
  have hl : ((List.range c.length).map (posP rs c pl ch)).length = c.length := by simp
  have key := tab_split (q := e) (c := (List.range c.length).map (posP rs c pl ch)) (f := cellP rs c pl ch) (by omega) (fun i g hi g0 g1 => ?_) (fun i hi => ?_)
  · rw [hl] at key
    unfold stP
    rw [ed]
    exact key
  · unfold cellP
    have a := sum_nonneg (F := cellR rs ch g i) (l := pl) fun r hr => cellR_nonneg h G hr ch g i
    have b := farC_nonneg (rs := rs) hc ch i
    split <;> omega
  · rw [hl] at hi
    rw [cell_sum h G he i]
    simp [List.getD_eq_getElem?_getD, hi]
theorem GoodPlan.perm {rs c : List Int} {p1 p2 : List Row} (h : p1.Perm p2) (G : GoodPlan rs c p1) : GoodPlan rs c p2 :=
  ⟨fun r hr => G.row r (h.mem_iff.mpr hr), fun k hk => by rw [← G.tot k hk]; exact (perm_sum _ h).symm⟩
end SC

/-! ## ScZip -/
/-! zip(.., strict=..) of lists, zip of a tuple and a list, enumerate of a tuple: rules of our own over the layer. -/
namespace SCZ
open PySem PySem.Spec PyProof.Rows L2
open PySem.Sem (wp)

/-! ### zip objects with their strict mark -/
abbrev ZipAt (b : Bool) (h : Heap) (z TI TO : Addr) (f0 : Value) : Prop :=
  h.get? z = some { cls := .type "zip", dict := none, data := .fields #[f0, .bool false, .bool b, .ref TI, .ref TO], slots := #[] }

section
variable {prog : Program} {w : World} {A : Around} {E : Value → Shared → Prop} {s : Shared}

theorem orEnd_item {it l : Addr} {i : Nat} {items : Array Value} {x : Value} {Q : Option Value → Shared → Prop} (hit : s.heap.IsListIter it l i) (hl : s.heap.IsList l items) (hx : items[i]? = some x)
    (hQ : ∀ h', h'.IsListIter it l (i + 1) → Heap.SameBut it s.heap h' → Q (some x) { s with heap := h' }) : wpAny (model prog w) A (Builtin.SmallTypes.nextOrEnd (.ref it)) Q E s := by
  unfold Builtin.SmallTypes.nextOrEnd
  exact wpAny_bind (wpAny_attempt (wpAny_nextOf_list_item hit hl hx fun h' a b => wpAny_pure (hQ h' a b)))
theorem orEnd_end {it l : Addr} {i : Nat} {items : Array Value} {Q : Option Value → Shared → Prop} (hh : A.handled = none) (hit : s.heap.IsListIter it l i) (hl : s.heap.IsList l items) (hx : items[i]? = none)
    (hQ : ∀ h', Heap.ExtBut it s.heap h' → Q none { s with heap := h' }) : wpAny (model prog w) A (Builtin.SmallTypes.nextOrEnd (.ref it)) Q E s := by
  unfold Builtin.SmallTypes.nextOrEnd
  refine wpAny_bind (wpAny_attempt (wpAny_nextOf_list_end hh hit hl hx fun h' e he hk => ?_))
  obtain ⟨o, ho, hc⟩ := hk
  exact wpAny_bind (wpAny_isInstance (T := "StopIteration") (b := true) ⟨o, ho, hc⟩ isSubtype_stop (wpAny_pure (hQ h' he)))

/-- the next pair of zip(l1, l2, strict=True) -/
theorem strict_item {z TI TO i1 i2 l1 l2 : Addr} {k : Nat} {xs ys : Array Value} {x y a b : Value} {Q : Value → Shared → Prop} (D : ZipApart z TI TO i1 i2 l1 l2)
    (hz : ZipAt true s.heap z TI TO .none) (hTI : IsPair s.heap TI (.ref i1) (.ref i2)) (hTO : IsPair s.heap TO a b)
    (h1 : s.heap.IsListIter i1 l1 k) (h2 : s.heap.IsListIter i2 l2 k) (hl1 : s.heap.IsList l1 xs) (hl2 : s.heap.IsList l2 ys) (hx : xs[k]? = some x) (hy : ys[k]? = some y)
    (hQ : ∀ h', ZipAt true h' z TI TO (rawInt s.heap.objs.size) → IsPair h' TO x y → h'.IsListIter i1 l1 (k + 1) → h'.IsListIter i2 l2 (k + 1) → IsPair h' s.heap.objs.size x y → h'.objs.size = s.heap.objs.size + 1 →
      (∀ c o, c ≠ z → c ≠ TO → c ≠ i1 → c ≠ i2 → s.heap.get? c = some o → h'.get? c = some o) → Q (.ref s.heap.objs.size) { s with heap := h' }) :
    wpAny (model prog w) A (Builtin.«zip.__next__» ⟨[.ref z], []⟩) (fun fin s' => ∃ v, fin = .done (.ret v) ∧ Q v s') E s := by
  show wpAny _ _ (field (.ref z) 2 >>= _) _ _ _
  refine wpAny_bind (wpAny_field hz rfl (x := .bool true) rfl ?_)
  show wpAny _ _ (field (.ref z) 3 >>= _) _ _ _
  refine wpAny_bind (wpAny_field hz rfl (x := .ref TI) rfl (wpAny_bind (wpAny_seqItems hTI rfl ?_)))
  show wpAny _ _ (Builtin.SmallTypes.ownedTupleIsFree (.ref z) >>= _) _ _ _
  refine wpAny_bind ?_
  unfold Builtin.SmallTypes.ownedTupleIsFree
  refine wpAny_bind (wpAny_field hz rfl (x := .none) rfl (wpAny_pure ?_))
  simp only [if_true]
  refine wpAny_bind (wpAny_rule (wpAny_bind (wpAny_field hz rfl (x := .ref TO) rfl ?_)))
  refine wpAny_bind (wpAny_setField_rec hz (by simp) fun g1 z1 e1 => ?_)
  replace z1 : ZipAt true g1 z TI TO .ellipsis := z1
  refine wpAny_bind ?_
  simp only [List.zipIdx_cons, List.zipIdx_nil, List.forIn_cons, List.forIn_nil]
  -- the first iterator
  refine wpAny_bind (wpAny_bind (wpAny_onRaise ?_))
  show wpAny _ _ (Builtin.SmallTypes.nextOrEnd (.ref i1)) _ _ _
  refine orEnd_item (h1.extBut e1.extBut D.i1z) (hl1.extBut e1.extBut D.l1z) hx fun g2 n1 e2 => ?_
  have t2 : IsPair g2 TO a b := e2.extBut _ _ D.TOi1 (e1.extBut _ _ D.TOz hTO)
  refine wpAny_bind (wpAny_seqItems t2 rfl (wpAny_bind (wpAny_updateSeq_pair t2 fun g3 t3 e3 => ?_)))
  replace t3 : IsPair g3 TO x b := t3
  refine wpAny_bind (wpAny_letGo (wpAny_pure ?_))
  -- the second
  refine wpAny_bind (wpAny_bind (wpAny_onRaise ?_))
  show wpAny _ _ (Builtin.SmallTypes.nextOrEnd (.ref i2)) _ _ _
  refine orEnd_item (((h2.extBut e1.extBut D.i2z).extBut e2.extBut D.i12.symm).extBut e3.extBut D.TOi2.symm) (((hl2.extBut e1.extBut D.l2z).extBut e2.extBut D.l2i1).extBut e3.extBut D.l2TO) hy fun g4 n2 e4 => ?_
  have t4 : IsPair g4 TO x b := e4.extBut _ _ D.TOi2 t3
  refine wpAny_bind (wpAny_seqItems t4 rfl (wpAny_bind (wpAny_updateSeq_pair t4 fun g5 t5 e5 => ?_)))
  replace t5 : IsPair g5 TO x y := t5
  refine wpAny_bind (wpAny_letGo (wpAny_pure (wpAny_pure ?_)))
  -- the pair handed out
  refine wpAny_bind (wpAny_seqItems t5 rfl (wpAny_bind (wpAny_newTuple ?_)))
  have size5 : g5.objs.size = s.heap.objs.size := by rw [e5.1, e4.1, e3.1, e2.1, e1.1]
  have z5 : ZipAt true g5 z TI TO .ellipsis := e5.extBut _ _ D.TOz.symm (e4.extBut _ _ D.i2z.symm (e3.extBut _ _ D.TOz.symm (e2.extBut _ _ D.i1z.symm z1)))
  have k5 : ∀ c o, c ≠ z → c ≠ TO → c ≠ i1 → c ≠ i2 → s.heap.get? c = some o → g5.get? c = some o := fun c o c1 c2 c3 c4 e => e5.extBut _ _ c2 (e4.extBut _ _ c4 (e3.extBut _ _ c2 (e2.extBut _ _ c3 (e1.extBut _ _ c1 e))))
  have m1 : g5.IsListIter i1 l1 (k + 1) := ((n1.extBut e3.extBut D.TOi1.symm).extBut e4.extBut D.i12).extBut e5.extBut D.TOi1.symm
  have m2 : g5.IsListIter i2 l2 (k + 1) := n2.extBut e5.extBut D.TOi2.symm
  have zlt : z < g5.objs.size := Heap.lt_size z5
  show wpAny _ _ (Builtin.SmallTypes.ownedTupleHandOut (.ref z) (.ref g5.objs.size) >>= _) _ _ _
  refine wpAny_bind ?_
  unfold Builtin.SmallTypes.ownedTupleHandOut
  have z6 : ZipAt true (g5.push { cls := .type "tuple", data := .seq #[x, y] }) z TI TO .ellipsis := Heap.get?_push_of_some _ z5
  refine wpAny_bind (wpAny_setField_rec z6 (by simp) fun g7 z7 e7 => ?_)
  replace z7 : ZipAt true g7 z TI TO (rawInt g5.objs.size) := z7
  refine wpAny_setField_rec z7 (by simp) fun g8 z8 e8 => ?_
  replace z8 : ZipAt true g8 z TI TO (rawInt g5.objs.size) := z8
  have up : ∀ c o, c ≠ z → g5.get? c = some o → g8.get? c = some o := fun c o c1 e => e8.extBut _ _ c1 (e7.extBut _ _ c1 (Heap.get?_push_of_some _ e))
  have t8 : IsPair g8 g5.objs.size x y := e8.extBut _ _ (Nat.ne_of_gt zlt) (e7.extBut _ _ (Nat.ne_of_gt zlt) (Heap.get?_push_size _ rfl))
  have size8 : g8.objs.size = g5.objs.size + 1 := by rw [e8.1, e7.1, Heap.size_push]
  rw [size5] at z8 t8 size8
  refine wpAny_pure ⟨_, rfl, ?_⟩
  show Q (.ref g5.objs.size) _
  rw [size5]
  exact hQ g8 z8 (up _ _ D.TOz t5) (m1.at fun o e => up _ o D.i1z e) (m2.at fun o e => up _ o D.i2z e) t8 size8 fun c o c1 c2 c3 c4 e => up c o c1 (k5 c o c1 c2 c3 c4 e)

/-- both lists are at their end -/
theorem strict_end {z TI TO i1 i2 l1 l2 : Addr} {k : Nat} {xs ys : Array Value} {a b : Value} {Q : Fin → Shared → Prop} (hh : A.handled = none) (D : ZipApart z TI TO i1 i2 l1 l2)
    (hz : ZipAt true s.heap z TI TO .none) (hTI : IsPair s.heap TI (.ref i1) (.ref i2)) (hTO : IsPair s.heap TO a b)
    (h1 : s.heap.IsListIter i1 l1 k) (h2 : s.heap.IsListIter i2 l2 k) (hl1 : s.heap.IsList l1 xs) (hl2 : s.heap.IsList l2 ys) (hx : xs[k]? = none) (hy : ys[k]? = none)
    (hE : ∀ h' e, (∀ c o, c ≠ z → c ≠ TO → c ≠ i1 → c ≠ i2 → s.heap.get? c = some o → h'.get? c = some o) → (∃ o, h'.get? e = some o ∧ o.cls = .type "StopIteration") → E (.ref e) { s with heap := h' }) :
    wpAny (model prog w) A (Builtin.«zip.__next__» ⟨[.ref z], []⟩) Q E s := by
  show wpAny _ _ (field (.ref z) 2 >>= _) _ _ _
  refine wpAny_bind (wpAny_field hz rfl (x := .bool true) rfl ?_)
  show wpAny _ _ (field (.ref z) 3 >>= _) _ _ _
  refine wpAny_bind (wpAny_field hz rfl (x := .ref TI) rfl (wpAny_bind (wpAny_seqItems hTI rfl ?_)))
  show wpAny _ _ (Builtin.SmallTypes.ownedTupleIsFree (.ref z) >>= _) _ _ _
  refine wpAny_bind ?_
  unfold Builtin.SmallTypes.ownedTupleIsFree
  refine wpAny_bind (wpAny_field hz rfl (x := .none) rfl (wpAny_pure ?_))
  simp only [if_true]
  refine wpAny_bind (wpAny_rule (wpAny_bind (wpAny_field hz rfl (x := .ref TO) rfl ?_)))
  refine wpAny_bind (wpAny_setField_rec hz (by simp) fun g1 z1 e1 => ?_)
  replace z1 : ZipAt true g1 z TI TO .ellipsis := z1
  refine wpAny_bind ?_
  simp only [List.zipIdx_cons, List.zipIdx_nil, List.forIn_cons, List.forIn_nil]
  refine wpAny_bind (wpAny_bind (wpAny_onRaise ?_))
  show wpAny _ _ (Builtin.SmallTypes.nextOrEnd (.ref i1)) _ _ _
  refine orEnd_end hh (h1.extBut e1.extBut D.i1z) (hl1.extBut e1.extBut D.l1z) hx fun g2 e2 => ?_
  have z2 : ZipAt true g2 z TI TO .ellipsis := e2 _ _ D.i1z.symm z1
  refine wpAny_bind (wpAny_setField_rec z2 (by simp) fun g3 z3 e3 => ?_)
  refine wpAny_bind ?_
  refine wpAny_bind ?_
  simp only [List.drop_succ_cons, List.drop_zero, List.zipIdx_cons, List.zipIdx_nil, List.forIn_cons, List.forIn_nil]
  refine wpAny_bind (wpAny_bind ?_)
  refine orEnd_end hh ((h2.extBut e1.extBut D.i2z).at fun o q => e3.extBut _ _ D.i2z (e2 _ _ D.i12.symm q)) ((hl2.extBut e1.extBut D.l2z).at fun o q => e3.extBut _ _ D.l2z (e2 _ _ D.l2i1 q)) hy fun g4 e4 => ?_
  show wpAny _ _ (pure (ForInStep.yield PUnit.unit)) _ _ _
  refine wpAny_pure (wpAny_pure ?_)
  refine wpAny_bind (wpAny_rule ?_)
  unfold Builtin.SmallTypes.stopIteration
  refine wpAny_bind ?_
  simp only [newExc, newTuple]
  refine wpAny_bind (wpAny_newObj_type ?_ (by size_fits))
  refine wpAny_bind (m := firstArgMember _ _) (wpAny_of_eq (a := Value.none) (by first | rfl | (simp only [firstArgMember]; rfl)) ?_)
  refine wpAny_newObj_type ?_ (by size_fits)
  simp only [raiseNew]
  refine wpAny_bind (wpAny_handled ?_)
  first | rw [show A.in1.handled = none from hh] | rw [hh]
  refine wpAny_bind (wpAny_pure (wpAny_throw ?_))
  exact hE _ _ (fun c o c1 c2 c3 c4 q => Heap.get?_push_of_some _ (Heap.get?_push_of_some _ (e4 _ _ c4 (e3.extBut _ _ c1 (e2 _ _ c3 (e1.extBut _ _ c1 q)))))) ⟨_, Heap.get?_push_size _ rfl, rfl⟩

theorem pyNext_strict_item {z TI TO i1 i2 l1 l2 : Addr} {k : Nat} {xs ys : Array Value} {x y a b : Value} {Q : Option Value → Shared → Prop} (D : ZipApart z TI TO i1 i2 l1 l2)
    (hz : ZipAt true s.heap z TI TO .none) (hTI : IsPair s.heap TI (.ref i1) (.ref i2)) (hTO : IsPair s.heap TO a b)
    (h1 : s.heap.IsListIter i1 l1 k) (h2 : s.heap.IsListIter i2 l2 k) (hl1 : s.heap.IsList l1 xs) (hl2 : s.heap.IsList l2 ys) (hx : xs[k]? = some x) (hy : ys[k]? = some y)
    (hQ : ∀ h', ZipAt true h' z TI TO (rawInt s.heap.objs.size) → IsPair h' TO x y → h'.IsListIter i1 l1 (k + 1) → h'.IsListIter i2 l2 (k + 1) → IsPair h' s.heap.objs.size x y → h'.objs.size = s.heap.objs.size + 1 →
      (∀ c o, c ≠ z → c ≠ TO → c ≠ i1 → c ≠ i2 → s.heap.get? c = some o → h'.get? c = some o) → Q (some (.ref s.heap.objs.size)) { s with heap := h' }) :
    wpAny (model prog w) A (pyNext (.ref z)) Q E s := by
  have hT : s.TypeIs (.ref z) "zip" := ⟨_, hz, rfl⟩
  unfold pyNext
  exact wpAny_bind (wpAny_attempt (wpAny_callSpecial?_slot (name := Str.ofString "__next__") hT F.slot_zip_next (wpAny_call_entry F.slot_zip_next hT F.entry_zip_next
    (strict_item D hz hTI hTO h1 h2 hl1 hl2 hx hy fun h' a1 a2 a3 a4 a5 a6 a7 => wpAny_pure (hQ h' a1 a2 a3 a4 a5 a6 a7)) (F.args_zip_next_1 _))))
theorem pyNext_strict_end {z TI TO i1 i2 l1 l2 : Addr} {k : Nat} {xs ys : Array Value} {a b : Value} {Q : Option Value → Shared → Prop} (hh : A.handled = none) (D : ZipApart z TI TO i1 i2 l1 l2)
    (hz : ZipAt true s.heap z TI TO .none) (hTI : IsPair s.heap TI (.ref i1) (.ref i2)) (hTO : IsPair s.heap TO a b)
    (h1 : s.heap.IsListIter i1 l1 k) (h2 : s.heap.IsListIter i2 l2 k) (hl1 : s.heap.IsList l1 xs) (hl2 : s.heap.IsList l2 ys) (hx : xs[k]? = none) (hy : ys[k]? = none)
    (hQ : ∀ h', (∀ c o, c ≠ z → c ≠ TO → c ≠ i1 → c ≠ i2 → s.heap.get? c = some o → h'.get? c = some o) → Q none { s with heap := h' }) : wpAny (model prog w) A (pyNext (.ref z)) Q E s := by
  have hT : s.TypeIs (.ref z) "zip" := ⟨_, hz, rfl⟩
  unfold pyNext
  refine wpAny_bind (wpAny_attempt (wpAny_callSpecial?_slot (name := Str.ofString "__next__") hT F.slot_zip_next
    (wpAny_call_entry F.slot_zip_next hT F.entry_zip_next (strict_end hh D hz hTI hTO h1 h2 hl1 hl2 hx hy fun h' e hk he => ?_) (F.args_zip_next_1 _))))
  obtain ⟨o, ho, hc⟩ := he
  exact wpAny_bind (wpAny_isInstance (T := "StopIteration") (b := true) ⟨o, ho, hc⟩ isSubtype_stop (wpAny_pure (hQ _ hk)))
theorem handOut_zip {bs : Bool} {elts : List Expr} {x1} {pos : Pos} {z TI TO T : Addr} {Q : Unit → Shared → Prop} (hz : ZipAt bs s.heap z TI TO (rawInt T))
    (hQ : ∀ h', ZipAt bs h' z TI TO .none → Heap.SameBut z s.heap h' → Q () { s with heap := h' }) :
    wpAny (model prog w) A (letOwnedTupleGo (.Tuple elts x1 pos) (.ref z) (.ref T)) Q E s := by
  unfold letOwnedTupleGo
  refine wpAny_bind (wpAny_load hz ?_)
  show wpAny _ _ (if (["enumerate", "zip", "dict_itemiterator", "dict_reverseitemiterator", "odict_iterator", "itertools.zip_longest", "itertools.pairwise"].contains "zip" &&
      (#[rawInt T, .bool false, .bool bs, .ref TI, .ref TO] : Array Value)[0]? == some (rawInt T)) = true then _ else _) Q E s
  rw [if_pos (by simp)]
  refine wpAny_bind (wpAny_rule ?_)
  show wpAny _ _ (setField (.ref z) 0 .none) Q E s
  exact wpAny_setField_rec hz (by simp) fun h' hz' hs' => hQ h' hz' hs'
theorem pyIter_zipAt {bs : Bool} {z TI TO : Addr} {f0 : Value} {Q : Value → Shared → Prop} (hz : ZipAt bs s.heap z TI TO f0) (h : Q (.ref z) s) : wpAny (model prog w) A (pyIter (.ref z)) Q E s := by
  have hT : s.TypeIs (.ref z) "zip" := ⟨_, hz, rfl⟩
  refine wpAny_pyIter_slot hT F.slot_zip_iter (wpAny_call_entry F.slot_zip_iter hT F.entry_zip_iter ?_ (F.args_zip_iter_1 _))
  show wpAny _ _ (ret (.ref z)) _ _ s
  exact wpAny_pure ⟨_, rfl, "zip", _, hT, F.slot_zip_next.lookup, h⟩
end

/-! ### zip(l1, l2, strict=b) made -/
theorem typeCall_zipKw (a b c : Value) : checkTypeCall "zip" ⟨[a, b], [(Str.ofString "strict", c)]⟩ = pure () := by kernel_rfl
theorem newCall_zipKw (a b c : Value) : checkBuiltinCall "zip.__new__" ⟨[.type "zip", a, b], [(Str.ofString "strict", c)]⟩ = pure () := by kernel_rfl
theorem initArgs_zipKw (obj a b c : Value) : argsOk "object.__init__" ⟨[obj, a, b], [(Str.ofString "strict", c)]⟩ := by unfold argsOk; kernel_rfl
abbrev zH3 (h : Heap) (l1 l2 : Addr) : Heap := (zipH2 h l1 l2).push { cls := .type "tuple", data := .seq #[.ref h.objs.size, .ref (zipH1 h l1).objs.size] }
abbrev zH5 (b : Bool) (h : Heap) (l1 l2 : Addr) : Heap := (zipH4 h l1 l2).push { cls := .type "zip", data := .fields #[.none, .bool false, .bool b, .ref (zipH2 h l1 l2).objs.size, .ref (zipH3 h l1 l2).objs.size] }
theorem meets_zipKw (bs : Bool) (l1 l2 : Addr) (xs ys : Array Value) :
    Meets (Builtin.«zip.__new__» ⟨[.type "zip", .ref l1, .ref l2], [(Str.ofString "strict", .bool bs)]⟩) (fun _ R s => s.heap.IsList l1 xs ∧ s.heap.IsList l2 ys ∧
      R (.ok (.ret (.ref (zipH4 s.heap l1 l2).objs.size))) { s with heap := zH5 bs s.heap l1 l2 }) :=
  .of_wp fun prog w A R s h => by
    obtain ⟨hp, g, d, tk, os⟩ := s; obtain ⟨hl1, hl2, h⟩ := h
    have hsub := sub_zip
    have hL1 : Heap.IsList (Shared.heap ⟨hp, g, d, tk, os⟩) l1 xs := hl1
    have hL2 : Heap.IsList (Shared.heap ⟨hp.push { cls := .type "list_iterator", data := .fields #[.ref l1, .int 0 0] }, g, d, tk, os⟩) l2 ys := Heap.IsList.push hl2 _
    have e1 : (Str.ofString "strict" != ("strict" : Str)) = false := by decide +kernel
    wp_walk using wpAny_pyIter_list hL1, wpAny_pyIter_list hL2
    exact ⟨_, rfl, h⟩
section
variable {prog : Program} {w : World} {A : Around} {E : Value → Shared → Prop} {s : Shared}
theorem call_zipKw {bs : Bool} {l1 l2 : Addr} {xs ys : Array Value} {Q : Value → Shared → Prop} (hl1 : s.heap.IsList l1 xs) (hl2 : s.heap.IsList l2 ys)
    (h : ∀ h', ZipAt bs h' (s.heap.objs.size + 4) (s.heap.objs.size + 2) (s.heap.objs.size + 3) .none → IsPair h' (s.heap.objs.size + 2) (.ref s.heap.objs.size) (.ref (s.heap.objs.size + 1)) →
      IsPair h' (s.heap.objs.size + 3) .none .none → h'.IsListIter s.heap.objs.size l1 0 → h'.IsListIter (s.heap.objs.size + 1) l2 0 →
      (∀ c o, s.heap.get? c = some o → h'.get? c = some o) → Q (.ref (s.heap.objs.size + 4)) { s with heap := h' }) :
    wpAny (model prog w) A (call (.type "zip") [.ref l1, .ref l2] [(Str.ofString "strict", .bool bs)]) Q E s := by
  refine callType_newKw F.called_zip (by decide) (typeCall_zipKw _ _ _) (newCall_zipKw _ _ _) (fun obj => initArgs_zipKw obj _ _ _) F.entry_zip_new (meets_zipKw bs l1 l2 xs ys) ⟨hl1, hl2, ?_⟩
  have z1 : (zipH1 s.heap l1).objs.size = s.heap.objs.size + 1 := Heap.size_push ..
  have z2 : (zipH2 s.heap l1 l2).objs.size = s.heap.objs.size + 2 := by rw [Heap.size_push, z1]
  have z3 : (zipH3 s.heap l1 l2).objs.size = s.heap.objs.size + 3 := by rw [Heap.size_push, z2]
  have z4 : (zipH4 s.heap l1 l2).objs.size = s.heap.objs.size + 4 := by rw [Heap.size_push, z3]
  have up5 : ∀ {c o}, (zipH4 s.heap l1 l2).get? c = some o → (zH5 bs s.heap l1 l2).get? c = some o := fun e => Heap.get?_push_of_some _ e
  have up4 : ∀ {c o}, (zipH3 s.heap l1 l2).get? c = some o → (zH5 bs s.heap l1 l2).get? c = some o := fun e => up5 (Heap.get?_push_of_some _ e)
  have up3 : ∀ {c o}, (zipH2 s.heap l1 l2).get? c = some o → (zH5 bs s.heap l1 l2).get? c = some o := fun e => up4 (Heap.get?_push_of_some _ e)
  have up2 : ∀ {c o}, (zipH1 s.heap l1).get? c = some o → (zH5 bs s.heap l1 l2).get? c = some o := fun e => up3 (Heap.get?_push_of_some _ e)
  have g5 : (zH5 bs s.heap l1 l2).get? (zipH4 s.heap l1 l2).objs.size = some _ := Heap.get?_push_size _ rfl
  have g4 : (zH5 bs s.heap l1 l2).get? (zipH3 s.heap l1 l2).objs.size = some _ := up5 (Heap.get?_push_size _ rfl)
  have g3 : (zH5 bs s.heap l1 l2).get? (zipH2 s.heap l1 l2).objs.size = some _ := up4 (Heap.get?_push_size _ rfl)
  have g2 : (zH5 bs s.heap l1 l2).get? (zipH1 s.heap l1).objs.size = some _ := up3 (Heap.get?_push_size _ rfl)
  have g1 : (zH5 bs s.heap l1 l2).get? s.heap.objs.size = some _ := up2 (Heap.get?_push_size _ rfl)
  show _ ∧ _
  rw [z2, z3, z4] at g5
  rw [z1, z2] at g3
  rw [z3] at g4
  rw [z1] at g2
  rw [z4]
  exact ⟨⟨_, g5, rfl⟩, h _ g5 g3 g4 ⟨_, g1, rfl, rfl⟩ ⟨_, g2, rfl, rfl⟩ fun c o x => up2 (Heap.get?_push_of_some _ x)⟩
end

/-! ### the walk of zip(l1, l2, strict=True) -/
def Itzs (K : PySem.W.Frag) (a b : Addr) : It :=
  ⟨(Itz K a b).go, (Itz K a b).yld, fun i H => ∃ xs ys : List V, SqL K H a xs ∧ SqL K H b ys ∧ xs.length ≤ i ∧ ys.length ≤ i⟩
theorem turn_strict {P : Program} {w : World} {K : PySem.W.Frag} {elts : List Expr} {kk : Nat} {tpos : Pos} {a b z TI TO i1 i2 : Addr} (D : ZipApart z TI TO i1 i2 a b) :
    Turn P w K (.Tuple elts kk tpos) (Itzs K a b) [z, TI, TO, i1, i2] z (fun i h => ZipAt true h z TI TO .none ∧ IsPair h TI (.ref i1) (.ref i2) ∧ (∃ x y, IsPair h TO x y) ∧ h.IsListIter i1 a i ∧ h.IsListIter i2 b i) where
  mem := by simp
  obj := fun i h st c hc => by
    obtain ⟨hz, hTI, ⟨x, y, hTO⟩, ⟨o1, e1, _, d1⟩, ⟨o2, e2, _, d2⟩⟩ := st
    have e' : c = z ∨ c = TI ∨ c = TO ∨ c = i1 ∨ c = i2 := by simpa using hc
    rcases e' with rfl | rfl | rfl | rfl | rfl
    · exact ⟨_, hz, fun v q => nomatch q⟩
    · exact ⟨_, hTI, fun v q => nomatch q⟩
    · exact ⟨_, hTO, fun v q => nomatch q⟩
    · exact ⟨o1, e1, fun v q => by rw [d1] at q; cases q⟩
    · exact ⟨o2, e2, fun v q => by rw [d2] at q; cases q⟩
  keep := fun i h h' st k => by
    obtain ⟨hz, hTI, ⟨x, y, hTO⟩, h1, h2⟩ := st
    exact ⟨k z (by simp) _ hz, k TI (by simp) _ hTI, ⟨x, y, k TO (by simp) _ hTO⟩, h1.at fun o q => k i1 (by simp) o q, h2.at fun o q => k i2 (by simp) o q⟩
  item := by
    intro X hP hw hK hc i pins s σ H E I hf st hg
    subst hP hw hK
    obtain ⟨hz, hTI, ⟨x0, y0, hTO⟩, h1, h2⟩ := st
    obtain ⟨xs, ys, x, y, hqx, hqy, hx, hy⟩ := hg
    obtain ⟨its, rv, p, _⟩ := I.list hqx
    obtain ⟨its2, rv2, p2, _⟩ := I.list hqy
    obtain ⟨u, hu, ru⟩ := rv.get hx
    obtain ⟨u2, hu2, ru2⟩ := rv2.get hy
    have hzl : z < s.heap.objs.size := Heap.lt_size hz
    refine pyNext_strict_item D hz hTI hTO h1 h2 p.isList p2.isList (x := u) (y := u2) (by simpa using hu) (by simpa using hu2) fun h' z' TO' h1' h2' hT hsz hk => ?_
    refine ⟨_, rfl, handOut_zip (s := { s with heap := h' }) z' fun h'' z'' sb => ?_⟩
    have hT2 : h''.get? s.heap.objs.size = some { cls := .type "tuple", data := .seq #[u, u2] } := (sb.2 _ (Nat.ne_of_gt hzl)).trans hT
    have new : ObjOk X.prog X.w (upd H s.heap.objs.size (.tup [x, y])) h'' s.heap.objs.size (.tup [x, y]) := ⟨by show 2 ≤ sizeLine; decide, [u, u2], .cons ru (.cons ru2 .nil), ⟨_, hT2, rfl, _, rfl⟩⟩
    have keepAll : ∀ c o, c ∉ [z, TI, TO, i1, i2] → s.heap.get? c = some o → h''.get? c = some o := fun c o hb q => by
      have nz : c ≠ z := fun q' => hb (by simp [q'])
      exact (sb.2 c nz).trans (hk c o nz (fun q' => hb (by simp [q'])) (fun q' => hb (by simp [q'])) (fun q' => hb (by simp [q'])) q)
    have I1 : Inv X pins σ (upd H s.heap.objs.size (.tup [x, y])) { s with heap := h'' } := I.turnedNew (t' := s.toks) keepAll hf (Nat.le_refl _) new
    refine ⟨.ref s.heap.objs.size, _, I1, rfl, ⟨_, x, y, rfl, I.hok.fresh (Nat.le_refl _), rfl, fun l hl => by rw [I.list_inj hl hqx]; exact hx, fun l hl => by rw [I.list_inj hl hqy]; exact hy⟩, ⟨z'', ?_, ⟨u, u2, ?_⟩, ?_, ?_⟩, fun c hcm => ?_⟩
    · exact (sb.2 _ D.TIz).trans (hk _ _ D.TIz D.TITO D.TIi1 D.TIi2 hTI)
    · exact (sb.2 _ D.TOz).trans TO'
    · exact h1'.at fun o q => (sb.2 _ D.i1z).trans q
    · exact h2'.at fun o q => (sb.2 _ D.i2z).trans q
    · have hlt : c < s.heap.objs.size := by
        have e' : c = z ∨ c = TI ∨ c = TO ∨ c = i1 ∨ c = i2 := by simpa using hcm
        obtain ⟨_, a1, _⟩ := h1
        obtain ⟨_, a2, _⟩ := h2
        rcases e' with q | q | q | q | q
        · rw [q]; exact hzl
        · rw [q]; exact Heap.lt_size hTI
        · rw [q]; exact Heap.lt_size hTO
        · rw [q]; exact Heap.lt_size a1
        · rw [q]; exact Heap.lt_size a2
      rw [upd_ne (Nat.ne_of_lt hlt)]
      exact (hf c hcm).1
  done := by
    intro X hP hw hK hc i pins s σ H E I hf st hg
    subst hP hw hK
    obtain ⟨hz, hTI, ⟨x0, y0, hTO⟩, h1, h2⟩ := st
    obtain ⟨xs, ys, hqx, hqy, hend, hend2⟩ := hg
    obtain ⟨its, rv, p, _⟩ := I.list hqx
    obtain ⟨its2, rv2, p2, _⟩ := I.list hqy
    have l1 := rv.length
    have l2 := rv2.length
    refine pyNext_strict_end (I.ok.hd hc) D hz hTI hTO h1 h2 p.isList p2.isList (by simp; omega) (by simp; omega) fun h' hk => ⟨rfl, I.turnedL (t' := s.toks) (ch := [z, TI, TO, i1, i2]) (fun c o hb q => ?_) hf⟩
    exact hk c o (fun q' => hb (by simp [q'])) (fun q' => hb (by simp [q'])) (fun q' => hb (by simp [q'])) (fun q' => hb (by simp [q'])) q
  self := fun A i s Q E st h => pyIter_zipAt st.1 h

/-! ### the call with its keyword -/
section
variable {M : Model} {A : Around} {E : Value → Shared → Prop} {s : Shared} {env : Env}
theorem callWith_clsKw {pos : Pos} {T : String} {e : Expr} {rest : List Expr} {kws : List Keyword} {Q : Value → Shared → Prop}
    (h : wpAny M A (spliced (backTo pos (starEach (e :: rest) env))) (fun vs s₁ => wpAny M A (evalAll ((backToKw pos (keywordEach kws env)).map (·.2)))
      (fun kvs s₂ => wpAny M A (call (.type T) vs (((backToKw pos (keywordEach kws env)).filterMap (·.1)).zip kvs)) Q E s₂) E s₁) E s)
    (he : backTo pos (starEach (e :: rest) env) = (false, eval e env) :: backTo pos (starEach rest env)) (hplain : (backTo pos (starEach (e :: rest) env)).any (·.1) = false)
    (hall : (backToKw pos (keywordEach kws env)).all (·.1.isSome) = true) (hkw : (backToKw pos (keywordEach kws env)).any (·.1.isNone) = false) :
    wpAny M A (callWith pos (.type T) [] (backTo pos (starEach (e :: rest) env)) (backToKw pos (keywordEach kws env))) Q E s := by
  unfold callWith
  refine wpAny_bind (wpAny_holding (wpAny_mono (Q := fun a s₁ => wpAny M A (call (.type T) a.pos a.kw) Q E s₁) ?_ (fun a s₁ h₁ => wpAny_bind (wpAny_standAt ?_)) fun _ _ x => x))
  · rw [he] at h ⊢
    exact PyProof.Rows.evalArgs_kwB hall h
  · simp only [hplain, hkw, Bool.or_false]
    refine wpAny_bind (wpAny_pure ?_)
    exact wpAny_bind (wpAny_mono h₁ (fun r s₂ hr => wpAny_bind (wpAny_holding (wpAny_point (wpAny_pure hr)))) fun _ _ x => x)
end
def iZipKw (K : PySem.W.Frag) (bs : Bool) (ta : TA) : TI := fun σ H R => ta σ H fun vs H1 => ∃ a b xs ys, vs = [.ref a, .ref b] ∧ SqL K H1 a xs ∧ SqL K H1 b ys ∧ (bs = true → R (Itzs K a b) H1) ∧ (bs = false → R (Itz K a b) H1)
theorem pi_zipKw {X : Cx} {e e2 : Expr} {ta : TA} {p pos tpos kpos cp : Pos} {j : Nat} {bs : Bool} {elts : List Expr} {kk : Nat} (hg : Gl X "zip") (hm : X.mg "zip" = none) (ha : PA X [e, e2] ta)
    (he : backTo pos (starEach [e, e2] X.env) = (false, eval e X.env) :: backTo pos (starEach [e2] X.env) := by rfl) (hpl : (backTo pos (starEach [e, e2] X.env)).any (·.1) = false := by rfl)
    (hall : (backToKw pos (keywordEach [⟨some (Str.ofString "strict"), .Constant (.bool bs) j cp, kpos⟩] X.env)).all (·.1.isSome) = true := by rfl)
    (hkw : (backToKw pos (keywordEach [⟨some (Str.ofString "strict"), .Constant (.bool bs) j cp, kpos⟩] X.env)).any (·.1.isNone) = false := by rfl)
    (hks : (backToKw pos (keywordEach [⟨some (Str.ofString "strict"), .Constant (.bool bs) j cp, kpos⟩] X.env)).filterMap (·.1) = [Str.ofString "strict"] := by rfl) :
    PI X (.Tuple elts kk tpos) (.Call (.Name "zip" p) [e, e2] [⟨some (Str.ofString "strict"), .Constant (.bool bs) j cp, kpos⟩] pos) (iZipKw X.K bs ta) := by
  refine ⟨fun pins s σ H R I h => ?_⟩
  refine wpAny_Call_Name_kw (ld_blt I hg hm PyProof.Rows.boot_zip ?_)
  refine callWith_clsKw (thn (ha.run pos pins s σ H _ I h) fun us s1 ⟨vs, H1, I1, r1, q1⟩ => ?_) he hpl hall hkw
  have hk : PK X [⟨some (Str.ofString "strict"), .Constant (.bool bs) j cp, kpos⟩] (tCons (tC (.bl bs)) tNil) := pk_cons pe_bl pk_nil
  refine thn (hk.run pos pins s1 σ H1 (fun zs H2 => zs = [.bl bs] ∧ H2 = H1) I1 ⟨rfl, rfl⟩) fun ws s2 ⟨zs, H2, I2, r2, ez, eH⟩ => ?_
  subst ez eH
  rw [hks]
  obtain ⟨a, b, xs, ys, ex, hqx, hqy, q, q'⟩ := q1
  subst ex
  obtain ⟨wv, rfl, rw1⟩ := vals1 r2
  obtain rfl : wv = Value.bool bs := rw1
  obtain ⟨u1, u2, rfl, ra, rb⟩ := vals2 r1
  obtain rfl : u1 = Value.ref a := ra
  obtain rfl : u2 = Value.ref b := rb
  obtain ⟨its, rv, p1, _⟩ := I2.list hqx
  obtain ⟨its2, rv2, p2, _⟩ := I2.list hqy
  show wpAny (model X.prog X.w) X.A (call (.type "zip") [.ref a, .ref b] [(Str.ofString "strict", .bool bs)]) _ _ _
  refine call_zipKw p1.isList p2.isList fun h' hz hTI hTO h1 h2 hk => pyIter_zipAt hz ?_
  have I3 : Inv X pins σ H2 { s2 with heap := h' } := I2.kept (t' := s2.toks) hk
  have fp : ∀ c ∈ [s2.heap.objs.size + 4, s2.heap.objs.size + 2, s2.heap.objs.size + 3, s2.heap.objs.size, s2.heap.objs.size + 1], FpOk X pins H2 c := fun c hcm => by
    have e' : c = s2.heap.objs.size + 4 ∨ c = s2.heap.objs.size + 2 ∨ c = s2.heap.objs.size + 3 ∨ c = s2.heap.objs.size ∨ c = s2.heap.objs.size + 1 := by simpa using hcm
    have hle : s2.heap.objs.size ≤ c := by
      rcases e' with z | z | z | z | z
      · rw [z]; exact Nat.le_add_right _ _
      · rw [z]; exact Nat.le_add_right _ _
      · rw [z]; exact Nat.le_add_right _ _
      · rw [z]; exact Nat.le_refl _
      · rw [z]; exact Nat.le_add_right _ _
    exact I2.fpOk hle (I2.hok.fresh hle)
  cases bs with
  | true => exact ⟨s2.heap.objs.size + 4, _, _, _, H2, rfl, I3, turn_strict (PySem.W.ktu_apart s2.heap.objs.size a b p1.lt p2.lt), ⟨hz, hTI, ⟨_, _, hTO⟩, h1, h2⟩, fp, q rfl⟩
  | false => exact ⟨s2.heap.objs.size + 4, _, _, _, H2, rfl, I3, turn_zip (PySem.W.ktu_apart s2.heap.objs.size a b p1.lt p2.lt), ⟨hz, hTI, ⟨_, _, hTO⟩, h1, h2⟩, fp, q' rfl⟩
end SCZ

/-! ## ScRules -/
/-! enumerate of a tuple, zip of a tuple and a list, a tuple times 0 or 1, xs[i] op= e: rules of our own over the layer. -/
namespace SCR
open PySem PySem.Spec PyProof.Rows L2

/-! ### enumerate(t), t a tuple -/
def Itet (K : PySem.W.Frag) (a : Addr) : It :=
  ⟨fun i H => ∃ (xs : List V) (x : V), SqT K H a xs ∧ xs[i]? = some x, fun i H v H' => ∃ T x, v = .ref T ∧ H T = none ∧ H' = upd H T (.tup [.int (i : Nat), x]) ∧ ∀ xs, SqT K H a xs → xs[i]? = some x, fun i H => ∃ xs : List V, SqT K H a xs ∧ xs.length = i⟩
theorem turn_enumT {P : Program} {w : World} {K : PySem.W.Frag} {elts : List Expr} {kk : Nat} {tpos : Pos} (a e it : Addr) (hae : a ≠ e) (hai : a ≠ it) :
    Turn P w K (.Tuple elts kk tpos) (Itet K a) [e, it] e (fun i h => (∃ old, IsEnum h e it ((0 : Int) + (i : Int)) old) ∧ h.IsTupleIter it a i ∧ e ≠ it) where
  mem := by simp
  obj := fun i h st b hb => by
    obtain ⟨⟨old, he⟩, ⟨o, ho, _, hd⟩, _⟩ := st
    rcases (show b = e ∨ b = it by simpa using hb) with rfl | rfl
    · exact ⟨_, he, fun v q => nomatch q⟩
    · exact ⟨o, ho, fun v q => by rw [hd] at q; cases q⟩
  keep := fun i h h' st k => let ⟨⟨old, he⟩, hi, hne⟩ := st; ⟨⟨old, k e (by simp) _ he⟩, hi.at fun o q => k it (by simp) o q, hne⟩
  item := by
    intro X hP hw hK hc i pins s σ H E I hf st hg
    subst hP hw hK
    obtain ⟨⟨old, he⟩, hit, hne⟩ := st
    obtain ⟨xs, x, hq, hx⟩ := hg
    obtain ⟨its, rv, p, hz⟩ := I.tuple hq
    obtain ⟨u, hu, ru⟩ := rv.get hx
    have hlt : i < its.toArray.size := by
      have := (List.getElem?_eq_some_iff.mp hu).1
      simpa using this
    have hel : e < s.heap.objs.size := Heap.lt_size he
    have hil : it < s.heap.objs.size := by obtain ⟨_, q, _⟩ := hit; exact Heap.lt_size q
    have Dr := Draws.tuple (prog := X.prog) (w := X.w) (A := X.A.in1) (show X.A.in1.handled = none from I.ok.hd hc) it a hai its.toArray
    refine wpAny_pyNext_enum_itemC (c := (0 : Int) + (i : Int)) Dr he ⟨hit, show s.heap.IsTuple a its.toArray from p⟩ hlt hne (by simp; exact ⟨hne, Ne.symm hae⟩) fun y h' tk hy ho hit' hT hsz hk => ?_
    have ey : y = u := by
      have h1 : its.toArray[i]? = some y := hy
      have h2 : its.toArray[i]? = some u := by simpa using hu
      exact Option.some.inj (h1.symm.trans h2)
    subst ey
    refine ⟨_, rfl, wpAny_letOwnedTupleGo_enum (s := { s with heap := h', toks := tk + 1 }) ho fun h'' he' sb => ?_⟩
    have ei : (0 : Int) + (i : Int) = (i : Int) := Int.zero_add _
    have hT2 : h''.get? s.heap.objs.size = some { cls := .type "tuple", data := .seq #[.int ((i : Nat) : Int) tk, y] } := by
      rw [ei] at hT
      exact (sb.2 _ (Nat.ne_of_gt hel)).trans hT
    have new : ObjOk X.prog X.w (upd H s.heap.objs.size (.tup [.int (i : Nat), x])) h'' s.heap.objs.size (.tup [.int (i : Nat), x]) :=
      ⟨by show 2 ≤ sizeLine; decide, [.int ((i : Nat) : Int) tk, y], .cons ⟨_, rfl⟩ (.cons ru .nil), ⟨_, hT2, rfl, _, rfl⟩⟩
    have I1 : Inv X pins σ (upd H s.heap.objs.size (.tup [.int (i : Nat), x])) { s with heap := h'', toks := tk + 1 } :=
      I.turnedNew (ch := [e, it]) (fun b ob hb q => by
        have n1 : b ≠ e := fun z => hb (by simp [z])
        exact (sb.2 b n1).trans (hk b ob n1 (fun z => hb (by simp [z])) q)) hf (Nat.le_refl _) new
    refine ⟨.ref s.heap.objs.size, _, I1, rfl, ⟨_, x, rfl, I.hok.fresh (Nat.le_refl _), rfl, fun ys hy' => by rw [I.tuple_inj hy' hq]; exact hx⟩, ⟨⟨y, ?_⟩, hit'.1.at fun o q => (sb.2 it (Ne.symm hne)).trans q, hne⟩, fun b hb => ?_⟩
    · have e1 : (0 : Int) + ((i + 1 : Nat) : Int) = (0 : Int) + (i : Int) + 1 := by omega
      rw [e1]; exact he'
    · have hb' : b < s.heap.objs.size := by
        rcases (show b = e ∨ b = it by simpa using hb) with z | z
        · rw [z]; exact hel
        · rw [z]; exact hil
      rw [upd_ne (Nat.ne_of_lt hb')]
      exact (hf b hb).1
  done := by
    intro X hP hw hK hc i pins s σ H E I hf st hg
    subst hP hw hK
    obtain ⟨⟨old, he⟩, hit, hne⟩ := st
    obtain ⟨xs, hq, hx⟩ := hg
    obtain ⟨its, rv, p, hz⟩ := I.tuple hq
    have hl := rv.length
    obtain ⟨f0, f1, f2, f3, f4, f5⟩ := hf it (by simp)
    have Dr := Draws.tuple (prog := X.prog) (w := X.w) (A := X.A.in1) (show X.A.in1.handled = none from I.ok.hd hc) it a hai its.toArray
    have hn : its.toArray.size = i := by rw [List.size_toArray]; omega
    have st2 : s.heap.IsTupleIter it a its.toArray.size ∧ s.heap.IsTuple a its.toArray := ⟨by rw [hn]; exact hit, p⟩
    exact wpAny_pyNext_enum_endD Dr he st2 fun h' eb => ⟨rfl, I.turned (t' := s.toks) (fun b o hb q => eb b o hb q) f0 f1 f3 f4 f5⟩
  self := fun A i s Q E st h => let ⟨⟨_, he⟩, _⟩ := st; wpAny_pyIter_enum he h

set_option maxHeartbeats 4000000 in
theorem meets_enumerateB {v : Value} {o : Obj} {H : Heap → Prop} (B : Begins v o H) :
    Meets (Builtin.«enumerate.__new__» ⟨[.type "enumerate", v], []⟩) (fun _ R s => H s.heap ∧
      R (.ok (.ret (.ref (s.heap.push o).objs.size))) { s with heap := (s.heap.push o).push { cls := .type "enumerate", data := .fields #[.none, .bool false, .ref s.heap.objs.size, rawInt 0, .none, .none] } }) :=
  .of_wp fun prog w A R s h => by
    obtain ⟨hp, g, d, tk, os⟩ := s; obtain ⟨h1, h⟩ := h
    have hsub := sub_enumerate
    have q1 : ∀ {A' : Around} {E : Value → Shared → Prop} {Q : Value → Shared → Prop}, Q (.ref hp.objs.size) ⟨hp.push o, g, d, tk, os⟩ → wpAny (model prog w) A' (pyIter v) Q E ⟨hp, g, d, tk, os⟩ :=
      fun q => B.iter prog w _ _ ⟨hp, g, d, tk, os⟩ _ h1 q
    wp_walk using q1
    refine wpAny_stack_any fun st => wpAny_pure ?_
    split
    · rename_i c _ _ _ _ _
      cases (c == Value.type "enumerate")
      · wp_walk using q1
        exact ⟨_, rfl, h⟩
      · wp_walk using q1
        exact ⟨_, rfl, h⟩
    · wp_walk using q1
      exact ⟨_, rfl, h⟩
section
variable {prog : Program} {w : World} {A : Around} {E : Value → Shared → Prop} {s : Shared}
theorem call_enumerateT {t : Addr} {items : Array Value} {Q : Value → Shared → Prop} (hT : s.heap.IsTuple t items)
    (h : ∀ h', IsEnum h' (s.heap.objs.size + 1) s.heap.objs.size 0 .none → h'.IsTupleIter s.heap.objs.size t 0 → (∀ b o, s.heap.get? b = some o → h'.get? b = some o) → Q (.ref (s.heap.objs.size + 1)) { s with heap := h' }) :
    wpAny (model prog w) A (call (.type "enumerate") [.ref t]) Q E s := by
  refine callType_new F.called_enumerate (by decide) (F.typeCall_enumerate_1 _) (F.newCall_enumerate_1 _) (fun obj => F.args_object_init_2 obj _) F.entry_enumerate_new
    (meets_enumerateB (begins_tuple t items)) ⟨hT, ?_⟩
  generalize ho : ({ cls := .type "tuple_iterator", data := .fields #[.ref t, .int 0 0] } : Obj) = o
  have hfr : o.isFreed = false := by rw [← ho]; rfl
  have hz : (s.heap.push o).objs.size = s.heap.objs.size + 1 := Heap.size_push ..
  have he := Heap.get?_push_size (s.heap.push o) (o := { cls := .type "enumerate", data := .fields #[.none, .bool false, .ref s.heap.objs.size, rawInt 0, .none, .none] }) rfl
  rw [hz] at he
  show _ ∧ _
  rw [hz]
  refine ⟨⟨_, he, rfl⟩, h _ he ⟨o, Heap.get?_push_of_some _ (Heap.get?_push_size _ hfr), by cases ho; rfl, by cases ho; rfl⟩ fun b o x => Heap.get?_push_of_some _ (Heap.get?_push_of_some _ x)⟩
end
def iEnumT (K : PySem.W.Frag) (ta : TA) : TI := fun σ H R => ta σ H fun vs H1 => ∃ a xs, vs = [.ref a] ∧ SqT K H1 a xs ∧ R (Itet K a) H1
theorem pi_enumT {X : Cx} {e : Expr} {ta : TA} {p pos tpos : Pos} {elts : List Expr} {kk : Nat} (hg : Gl X "enumerate") (hm : X.mg "enumerate" = none) (ha : PA X [e] ta) (hs : starEach [e] X.env = [(false, eval e X.env)] := by rfl) :
    PI X (.Tuple elts kk tpos) (.Call (.Name "enumerate" p) [e] [] pos) (iEnumT X.K ta) := by
  refine ⟨fun pins s σ H R I h => ?_⟩
  refine Call_ (ld_blt I hg hm boot_enumerate (PyProof.Rows.callWith_type1 (thn (ha.run pos pins s σ H _ I h) fun us s1 ⟨vs, H1, I1, r1, q1⟩ => ?_) hs rfl))
  obtain ⟨a, xs, ex, hq, q⟩ := q1
  subst ex
  obtain ⟨u, rfl, ru⟩ := vals1 r1
  obtain rfl : u = Value.ref a := ru
  obtain ⟨its, rv, p', hz⟩ := I1.tuple hq
  have alt : a < s1.heap.objs.size := by obtain ⟨_, q', _⟩ := id p'; exact Heap.lt_size q'
  refine call_enumerateT (show s1.heap.IsTuple a its.toArray from p') fun h' he hit hk => wpAny_pyIter_enum he ?_
  have I2 : Inv X pins σ H1 { s1 with heap := h' } := I1.kept (t' := s1.toks) hk
  refine ⟨s1.heap.objs.size + 1, [s1.heap.objs.size + 1, s1.heap.objs.size], _, _, H1, rfl, I2, turn_enumT a (s1.heap.objs.size + 1) s1.heap.objs.size (Nat.ne_of_lt (Nat.lt_succ_of_lt alt)) (Nat.ne_of_lt alt), ⟨⟨.none, he⟩, hit, Nat.succ_ne_self _⟩, fun b hb => ?_, q⟩
  have hle : s1.heap.objs.size ≤ b := by
    rcases (show b = s1.heap.objs.size + 1 ∨ b = s1.heap.objs.size by simpa using hb) with z | z
    · rw [z]; exact Nat.le_add_right _ _
    · rw [z]; exact Nat.le_refl _
  exact I1.fpOk hle (I1.hok.fresh hle)

/-! ### zip(t, l), a tuple and a list -/
def Itztl (K : PySem.W.Frag) (a b : Addr) : It :=
  ⟨fun i H => ∃ (xs ys : List V) (x y : V), SqT K H a xs ∧ SqL K H b ys ∧ xs[i]? = some x ∧ ys[i]? = some y,
    fun i H v H' => ∃ T x y, v = .ref T ∧ H T = none ∧ H' = upd H T (.tup [x, y]) ∧ (∀ xs, SqT K H a xs → xs[i]? = some x) ∧ ∀ ys, SqL K H b ys → ys[i]? = some y,
    fun i H => ∃ xs ys : List V, SqT K H a xs ∧ SqL K H b ys ∧ i = min xs.length ys.length⟩
theorem turn_zipTL {P : Program} {w : World} {K : PySem.W.Frag} {elts : List Expr} {kk : Nat} {tpos : Pos} {a b z TI TO i1 i2 : Addr} (S : ZipSep2 z TI TO i1 i2 [i1, a] [i2, b]) (ha : a ≠ i1) (hb : b ≠ i2) :
    Turn P w K (.Tuple elts kk tpos) (Itztl K a b) [z, TI, TO, i1, i2] z (fun i h => IsZip h z TI TO .none ∧ IsTupOf2 h TI (.ref i1) (.ref i2) ∧ (∃ x y, IsTupOf2 h TO x y) ∧ h.IsTupleIter i1 a i ∧ h.IsListIter i2 b i) where
  mem := by simp
  obj := fun i h st c hc => by
    obtain ⟨hz, hTI, ⟨x, y, hTO⟩, ⟨o1, e1, _, d1⟩, ⟨o2, e2, _, d2⟩⟩ := st
    rcases (show c = z ∨ c = TI ∨ c = TO ∨ c = i1 ∨ c = i2 by simpa using hc) with rfl | rfl | rfl | rfl | rfl
    · exact ⟨_, hz, fun v q => nomatch q⟩
    · exact ⟨_, hTI, fun v q => nomatch q⟩
    · exact ⟨_, hTO, fun v q => nomatch q⟩
    · exact ⟨o1, e1, fun v q => by rw [d1] at q; cases q⟩
    · exact ⟨o2, e2, fun v q => by rw [d2] at q; cases q⟩
  keep := fun i h h' st k => by
    obtain ⟨hz, hTI, ⟨x, y, hTO⟩, h1, h2⟩ := st
    exact ⟨k z (by simp) _ hz, k TI (by simp) _ hTI, ⟨x, y, k TO (by simp) _ hTO⟩, h1.at fun o q => k i1 (by simp) o q, h2.at fun o q => k i2 (by simp) o q⟩
  item := by
    intro X hP hw hK hc i pins s σ H E I hf st hg
    subst hP hw hK
    obtain ⟨hz, hTI, ⟨x0, y0, hTO⟩, h1, h2⟩ := st
    obtain ⟨xs, ys, x, y, hqx, hqy, hx, hy⟩ := hg
    obtain ⟨its, rv, p, _⟩ := I.tuple hqx
    obtain ⟨its2, rv2, p2, _⟩ := I.list hqy
    obtain ⟨u, hu, ru⟩ := rv.get hx
    obtain ⟨u2, hu2, ru2⟩ := rv2.get hy
    have hzl : z < s.heap.objs.size := Heap.lt_size hz
    have hh : X.A.in1.handled = none := I.ok.hd hc
    have D1 := Draws.tuple (prog := X.prog) (w := X.w) (A := X.A.in1) hh i1 a ha its.toArray
    have D2 := Draws.list (prog := X.prog) (w := X.w) (A := X.A.in1) hh i2 b hb its2.toArray
    have l1 : i < its.toArray.size := by have := (List.getElem?_eq_some_iff.mp hu).1; simpa using this
    have l2 : i < its2.toArray.size := by have := (List.getElem?_eq_some_iff.mp hu2).1; simpa using this
    refine wpAny_pyNext_zipD2_item S D1 D2 hz hTI hTO ⟨h1, show s.heap.IsTuple a its.toArray from p⟩ ⟨h2, p2.isList⟩ l1 l2 fun v1 v2 h' tk q1 q2 z' TO' s1' s2' hT hsz hk => ?_
    have e1 : v1 = u := by
      have a1 : its.toArray[i]? = some v1 := q1
      have a2 : its.toArray[i]? = some u := by simpa using hu
      exact Option.some.inj (a1.symm.trans a2)
    have e2 : v2 = u2 := by
      have a1 : its2.toArray[i]? = some v2 := q2
      have a2 : its2.toArray[i]? = some u2 := by simpa using hu2
      exact Option.some.inj (a1.symm.trans a2)
    subst e1 e2
    refine ⟨_, rfl, wpAny_letOwnedTupleGo_zip (s := { s with heap := h', toks := tk }) z' fun h'' z'' sb => ?_⟩
    have hT2 : h''.get? s.heap.objs.size = some { cls := .type "tuple", data := .seq #[v1, v2] } := (sb.2 _ (Nat.ne_of_gt hzl)).trans hT
    have new : ObjOk X.prog X.w (upd H s.heap.objs.size (.tup [x, y])) h'' s.heap.objs.size (.tup [x, y]) := ⟨by show 2 ≤ sizeLine; decide, [v1, v2], .cons ru (.cons ru2 .nil), ⟨_, hT2, rfl, _, rfl⟩⟩
    have keepAll : ∀ c o, c ∉ [z, TI, TO, i1, i2] → s.heap.get? c = some o → h''.get? c = some o := fun c o hb q => by
      have nz : c ≠ z := fun q' => hb (by simp [q'])
      exact (sb.2 c nz).trans (hk c o nz (fun q' => hb (by simp [q'])) (fun q' => hb (by simp [q'])) (fun q' => hb (by simp [q'])) q)
    have I1 : Inv X pins σ (upd H s.heap.objs.size (.tup [x, y])) { s with heap := h'', toks := tk } := I.turnedNew keepAll hf (Nat.le_refl _) new
    refine ⟨.ref s.heap.objs.size, _, I1, rfl, ⟨_, x, y, rfl, I.hok.fresh (Nat.le_refl _), rfl, fun l hl => by rw [I.tuple_inj hl hqx]; exact hx, fun l hl => by rw [I.list_inj hl hqy]; exact hy⟩, ⟨z'', ?_, ⟨v1, v2, ?_⟩, ?_, ?_⟩, fun c hcm => ?_⟩
    · exact (sb.2 _ S.TIz).trans (hk _ _ S.TIz S.TITO S.TIi1 S.TIi2 hTI)
    · exact (sb.2 _ S.TOz).trans TO'
    · exact s1'.1.at fun o q => (sb.2 _ S.zi1.symm).trans q
    · exact s2'.1.at fun o q => (sb.2 _ S.zi2.symm).trans q
    · have hlt : c < s.heap.objs.size := by
        obtain ⟨_, a1, _⟩ := h1
        obtain ⟨_, a2, _⟩ := h2
        rcases (show c = z ∨ c = TI ∨ c = TO ∨ c = i1 ∨ c = i2 by simpa using hcm) with q | q | q | q | q
        · rw [q]; exact hzl
        · rw [q]; exact Heap.lt_size hTI
        · rw [q]; exact Heap.lt_size hTO
        · rw [q]; exact Heap.lt_size a1
        · rw [q]; exact Heap.lt_size a2
      rw [upd_ne (Nat.ne_of_lt hlt)]
      exact (hf c hcm).1
  done := by
    intro X hP hw hK hc i pins s σ H E I hf st hg
    subst hP hw hK
    obtain ⟨hz, hTI, ⟨x0, y0, hTO⟩, h1, h2⟩ := st
    obtain ⟨xs, ys, hqx, hqy, hend⟩ := hg
    obtain ⟨its, rv, p, _⟩ := I.tuple hqx
    obtain ⟨its2, rv2, p2, _⟩ := I.list hqy
    have l1 := rv.length
    have l2 := rv2.length
    have hh : X.A.in1.handled = none := I.ok.hd hc
    have D1 := Draws.tuple (prog := X.prog) (w := X.w) (A := X.A.in1) hh i1 a ha its.toArray
    have D2 := Draws.list (prog := X.prog) (w := X.w) (A := X.A.in1) hh i2 b hb its2.toArray
    refine wpAny_pyNext_zipD2_end S D1 D2 hz hTI hTO ⟨h1, show s.heap.IsTuple a its.toArray from p⟩ ⟨h2, p2.isList⟩ (by rw [List.size_toArray]; omega) (by rw [List.size_toArray]; omega) (by rw [List.size_toArray, List.size_toArray]; omega) fun h' tk hk => ⟨rfl, I.turnedL (ch := [z, TI, TO, i1, i2]) (fun c o hb q => ?_) hf⟩
    exact hk c o (fun q' => hb (by simp [q'])) (fun q' => hb (by simp [q'])) (fun q' => hb (by simp [q'])) (fun q' => hb (by simp [q'])) q
  self := fun A i s Q E st h => wpAny_pyIter_zip st.1 h
def iZipTL (K : PySem.W.Frag) (ta : TA) : TI := fun σ H R => ta σ H fun vs H1 => ∃ a b xs ys, vs = [.ref a, .ref b] ∧ SqT K H1 a xs ∧ SqL K H1 b ys ∧ R (Itztl K a b) H1
theorem pi_zipTL {X : Cx} {e e2 : Expr} {ta : TA} {p pos tpos : Pos} {elts : List Expr} {kk : Nat} (hg : Gl X "zip") (hm : X.mg "zip" = none) (ha : PA X [e, e2] ta)
    (hs : starEach [e, e2] X.env = (false, eval e X.env) :: starEach [e2] X.env := by rfl) (hpl : (backTo pos (starEach [e2] X.env)).any (·.1) = false := by rfl) :
    PI X (.Tuple elts kk tpos) (.Call (.Name "zip" p) [e, e2] [] pos) (iZipTL X.K ta) := by
  refine ⟨fun pins s σ H R I h => ?_⟩
  refine Call_ (ld_blt I hg hm PyProof.Rows.boot_zip (PyProof.Rows.callWith_type1 (thn (ha.run pos pins s σ H _ I h) fun us s1 ⟨vs, H1, I1, r1, q1⟩ => ?_) hs hpl))
  obtain ⟨a, b, xs, ys, ex, hqx, hqy, q⟩ := q1
  subst ex
  obtain ⟨u1, u2, rfl, ra, rb⟩ := vals2 r1
  obtain rfl : u1 = Value.ref a := ra
  obtain rfl : u2 = Value.ref b := rb
  obtain ⟨its, rv, p1, _⟩ := I1.tuple hqx
  obtain ⟨its2, rv2, p2, _⟩ := I1.list hqy
  have la : a < s1.heap.objs.size := by obtain ⟨_, q', _⟩ := id p1; exact Heap.lt_size q'
  have lb : b < s1.heap.objs.size := p2.lt
  refine zip_begins2 (begins_tuple a its.toArray) (begins_list b its2.toArray) p1 p2.isList fun h' hz hTI hTO h1 h2 hsz hk => wpAny_pyIter_zip hz ?_
  have I2 : Inv X pins σ H1 { s1 with heap := h' } := I1.kept (t' := s1.toks) hk
  have S := zip_sep2 (N := s1.heap.objs.size) (fp1 := [a]) (fp2 := [b]) (fun c hc => by rw [List.mem_singleton.mp hc]; exact la) (fun c hc => by rw [List.mem_singleton.mp hc]; exact lb)
  refine ⟨s1.heap.objs.size + 4, [s1.heap.objs.size + 4, s1.heap.objs.size + 2, s1.heap.objs.size + 3, s1.heap.objs.size, s1.heap.objs.size + 1], _, _, H1, rfl, I2, turn_zipTL S (Nat.ne_of_lt la) (Nat.ne_of_lt (Nat.lt_succ_of_lt lb)), ⟨hz, hTI, ⟨_, _, hTO⟩, ⟨_, h1, rfl, rfl⟩, ⟨_, h2, rfl, rfl⟩⟩, fun c hcm => ?_, q⟩
  have hle : s1.heap.objs.size ≤ c := by
    rcases (show c = s1.heap.objs.size + 4 ∨ c = s1.heap.objs.size + 2 ∨ c = s1.heap.objs.size + 3 ∨ c = s1.heap.objs.size ∨ c = s1.heap.objs.size + 1 by simpa using hcm) with z | z | z | z | z
    · rw [z]; exact Nat.le_add_right _ _
    · rw [z]; exact Nat.le_add_right _ _
    · rw [z]; exact Nat.le_add_right _ _
    · rw [z]; exact Nat.le_refl _
    · rw [z]; exact Nat.le_add_right _ _
  exact I1.fpOk hle (I1.hok.fresh hle)

/-! ### a tuple times 0 or 1 -/
theorem mulT_none (l : Addr) (items : Array Value) (n : Nat) (dd : Option Addr) (sl : Array (Option Value)) (u : Tok) :
    Meets (Builtin.«tuple.__mul__» ⟨[.ref l, .int 0 u], []⟩) (fun _ R s => s.heap.get? l = some { cls := .type "tuple", dict := dd, data := .seq items n, slots := sl } ∧ items.isEmpty = false ∧
      R (.ok (.ret (Value.ref s.heap.objs.size))) { s with heap := s.heap.push { cls := Value.type "tuple", data := Data.seq #[] } }) :=
  .of_wp fun prog w A R s h => by
    obtain ⟨hp, g, d, tk, os⟩ := s
    obtain ⟨hl, he, h⟩ := h
    have f1 := AutoSeq1.idx_int
    have c1 : (items.isEmpty || (0 : Int) == 1) = false := by rw [he]; rfl
    wp_walk using wpAny_loadPart' hl
    repeat (first
      | (refine wpAny_ite_false (decide_eq_false (by rw [c1]; exact Bool.false_ne_true)) ?_; wp_walk using wpAny_loadPart' hl))
    exact ⟨_, rfl, h⟩
theorem mulT_one (l : Addr) (items : Array Value) (n : Nat) (dd : Option Addr) (sl : Array (Option Value)) (u : Tok) :
    Meets (Builtin.«tuple.__mul__» ⟨[.ref l, .int 1 u], []⟩) (fun _ R s => s.heap.get? l = some { cls := .type "tuple", dict := dd, data := .seq items n, slots := sl } ∧
      R (.ok (.ret (Value.ref l))) s) :=
  .of_wp fun prog w A R s h => by
    obtain ⟨hp, g, d, tk, os⟩ := s
    obtain ⟨hl, h⟩ := h
    have f1 := AutoSeq1.idx_int
    have c1 : (items.isEmpty || (1 : Int) == 1) = true := by simp
    wp_walk using wpAny_loadPart' hl
    exact ⟨_, rfl, h⟩

/-- t * k for a tuple of one item and any small k -/
def rRepZ (K : PySem.W.Frag) : R2 := fun x y H Q => ∃ (l : Addr) (k : Nat) (v : V), x = .ref l ∧ y = .int (k : Int) ∧ H l = some (.tup [v]) ∧ k ≤ 1000 ∧
  ∀ p H', (∀ b o, H b = some o → H' b = some o) → H' p = some (.tup (List.replicate k v)) → Q (.ref p) H'
section
variable {X : Cx}
theorem op_repZ : OpR X (binaryOp .Mult) (rRepZ X.K) := by
  intro pins s σ H x y v u Q I rx ry h
  obtain ⟨l, k, w, rfl, rfl, hT0, hk, q⟩ := h
  have hT : SqT X.K H l [w] := .inl (.inl hT0)
  by_cases h2 : 2 ≤ k
  · refine op_repT pins s σ H _ _ v u Q I rx ry ⟨l, (k : Int), [w], rfl, rfl, hT, List.cons_ne_nil _ _, by omega, by omega, by simp, fun p hp => q p _ (fun b o e => ?_) ?_⟩
    · rw [upd_ne (ne_of_none e hp)]
      exact e
    · rw [upd_same, Int.toNat_natCast]
      congr 2
      clear hk h2 q ry
      induction k with
      | zero => rfl
      | succ k ih => rw [List.replicate_succ, List.flatten_cons, ih, List.replicate_succ]; rfl
  · cases rx
    obtain ⟨t, rfl⟩ := ry
    obtain ⟨its, r, ⟨⟨cls, dd, data, sl⟩, ho, hc, n, hd⟩, hs⟩ := I.tuple hT
    simp only at hc hd
    subst hc hd
    have hi : its.toArray.isEmpty = false := by
      cases r with
      | cons a b => rfl
    rcases (show k = 0 ∨ k = 1 by omega) with rfl | rfl
    · refine wpAny_binaryOp_repeat_ref (T := "tuple") (U := "int") (by decide) ⟨_, ho, rfl⟩ (fun s' => typeIs_int s' _ t) noFill_tuple_mul F.fills_int_mul F.slot_int_rmul repeat_tuple F.slot_int_index.lookup
        (call_meets F.slot_int_rmul (typeIs_int s _ t) F.entry_int_rmul (F.args_int_rmul_2 _ _) (int_rmul_tuple _ t l its.toArray n dd sl)
          ⟨ho, rfl, ⟨_, ho, rfl⟩, call_meets F.slot_tuple_mul ⟨_, ho, rfl⟩ F.entry_tuple_mul (F.args_tuple_mul_2 _ _) (mulT_none l its.toArray n dd sl t) ⟨ho, hi, ?_⟩⟩)
      refine ⟨.ref s.heap.objs.size, _, I.laid (t' := s.toks) (o := .tup []) (fun b ob q => Heap.get?_push_of_some _ q) (Nat.le_refl _) ⟨Nat.zero_le _, [], .nil, IsTup.new _ _⟩, rfl, q _ _ (fun b o e => ?_) upd_same⟩
      rw [upd_ne (ne_of_none e (I.hok.fresh (Nat.le_refl _)))]
      exact e
    · refine wpAny_binaryOp_repeat_ref (T := "tuple") (U := "int") (by decide) ⟨_, ho, rfl⟩ (fun s' => typeIs_int s' _ t) noFill_tuple_mul F.fills_int_mul F.slot_int_rmul repeat_tuple F.slot_int_index.lookup
        (call_meets F.slot_int_rmul (typeIs_int s _ t) F.entry_int_rmul (F.args_int_rmul_2 _ _) (int_rmul_tuple _ t l its.toArray n dd sl)
          ⟨ho, rfl, ⟨_, ho, rfl⟩, call_meets F.slot_tuple_mul ⟨_, ho, rfl⟩ F.entry_tuple_mul (F.args_tuple_mul_2 _ _) (mulT_one l its.toArray n dd sl t) ⟨ho, ?_⟩⟩)
      exact ⟨.ref l, H, I, rfl, q l H (fun b o e => e) hT0⟩

/-! ### xs[i] read for xs[i] op= e -/
def rGetN (K : PySem.W.Frag) : V → V → Hp → VK → Prop := fun x y H Q => ∃ (p : Addr) (xs : List V) (j : Nat) (v : V), x = .ref p ∧ y = .int (j : Int) ∧ SqL K H p xs ∧ xs[j]? = some v ∧ Q v H
theorem get_list : PGet X (rGetN X.K) := by
  intro pins s σ H o i ov iv Q I ro ri h
  obtain ⟨p, xs, j, z, rfl, rfl, hq, he, q⟩ := h
  cases ro
  obtain ⟨t, rfl⟩ := ri
  obtain ⟨its, r, pl, hz⟩ := I.list hq
  obtain ⟨w, ew, rw'⟩ := r.get he
  have hj : j < xs.length := (List.getElem?_eq_some_iff.mp he).1
  have hn := line63
  refine wpAny_getItem_list (k := (j : Int)) pl.isList (by omega) (by omega) (by simpa using ew) ⟨z, H, I, rw', q⟩
end
end SCR

/-! ## ScBase -/
/-! The text by places; callees in one word; readings that leave what is known. -/
namespace SC
open PySem PySem.Spec PyProof.Rows L2 Evl

def top (i : Nat) : Stmt := PySem.Challenge.pw_splitclimb_k35_whole_the_mean_of_all_gam.main.body.getD i (.Pass ⟨0, 0, 0, 0⟩)

/-! ### a def that may be called by its name -/
structure Callee (P : Program) (w : World) (K : PySem.W.Frag) (mg : Str → Option Value) (base : Heap) (x : Str) (ps : List Str) (k : Nat) (sp : Sp) : Prop where
  ex : ∃ (f : Addr) (fd : FuncData), FnOk P w K mg base CX0 k f fd ps sp ∧ PySem.W.keepIn K (.ref f) = true ∧ Binds K fd ps [] ∧ mg x = some (.ref f)
section
variable {P : Program} {w : World} {K : PySem.W.Frag} {mg : Str → Option Value} {base : Heap}
theorem Callee.mono {x : Str} {ps : List Str} {j k : Nat} {sp : Sp} (c : Callee P w K mg base x ps j sp) (h : j ≤ k) : Callee P w K mg base x ps k sp := by
  obtain ⟨f, fd, F, kp, b, m⟩ := c.ex
  exact ⟨f, fd, F.mono h, kp, b, m⟩
theorem Callee.of {x q : Str} {st : Stmt} {f : Addr} {fd : FuncData} {ps : List Str} {k : Nat} {sp : Sp} (F : Fun K x q st f fd) (G : FnOk P w K mg base CX0 k f fd ps sp) (b : Binds K fd ps []) (m : mg x = some (.ref f)) : Callee P w K mg base x ps k sp :=
  ⟨f, fd, G, F.kp, b, m⟩
end
section
variable {X : Cx} {x : Str} {ps : List Str} {k : Nat} {sp : Sp} {e : Expr} {es : List Expr} {t : TA} {p pos : Pos}
theorem pe_cal (c : Callee X.prog X.w X.K X.mg X.base x ps k sp) (hr : Room k X.A) (ha : PA X (e :: es) t) (hg : Gl X x := by rfl) (hdb : (x == ("__debug__" : Str)) = false := by decide)
    (he : starEach (e :: es) X.env = (false, eval e X.env) :: starEach es X.env := by rfl) (hpl : (backTo pos (starEach es X.env)).any (·.1) = false := by rfl) :
    PE X (.Call (.Name x p) (e :: es) [] pos) (tCall sp [] E0 t) := by
  obtain ⟨f, fd, F, kp, b, m⟩ := c.ex
  exact pe_call F hr hg m kp b .nil pass0 ha hdb he hpl
/-- a constant of the module -/
theorem pe_mod {v : V} (h : ∃ u, X.mg x = some u ∧ RelV v u) (hg : Gl X x := by rfl) (hd : (x == ("__debug__" : Str)) = false := by decide) : PE X (.Name x pos) (tC v) := by
  obtain ⟨u, m, r⟩ := h
  exact pe_glob hg m r hd
end

/-! ### what a reading leaves -/
def EvP (te : TE) (σ : L2.St) (H : Hp) (P : V → Hp → Prop) : Prop := ∀ H1, Ex H H1 → ∀ Q : VK, (∀ v H2, Ex H1 H2 → P v H2 → Q v H2) → te σ H1 Q
def SpP (sp : Sp) (vs : List V) (H : Hp) (P : V → Hp → Prop) : Prop := ∀ H1, Ex H H1 → ∀ Q : VK, (∀ v H2, Ex H1 H2 → P v H2 → Q v H2) → ∀ E : XK, sp vs H1 Q E
/-- a promise's end: some value of which P holds, what was known stands -/
def RetP (P : V → Hp → Prop) (H : Hp) (Q : VK) : Prop := ∀ v H2, Ex H H2 → P v H2 → Q v H2
section
variable {K : PySem.W.Frag} {σ : L2.St} {H H' : Hp} {ta tb te : TE} {t u : TT} {x y z v : V} {D : Ends} {tu tw tz : TS} {P : V → Hp → Prop}
theorem RetP.go {Q : VK} (k : RetP P H Q) (e : Ex H H') (h : P v H') : Q v H' := k v H' e h
theorem RetP.up {Q : VK} (k : RetP P H Q) (e : Ex H H') : RetP P H' Q := fun v H2 e2 h => k v H2 (e.trans e2) h
theorem evp_call {sp : Sp} {dvs vs : List V} {E : XK} {ta : TA} (h : EvA ta σ H vs) (hs : SpP sp (vs ++ dvs) H P) : EvP (tCall sp dvs E ta) σ H P := fun H1 e Q q =>
  h H1 e _ fun H2 e2 => hs H2 (e.trans e2) Q (fun v H3 e3 h3 => q v H3 (e2.trans e3) h3) E
theorem evp_v (h : Ev te σ H v) (hp : ∀ H2, Ex H H2 → P v H2) : EvP te σ H P := fun H1 e Q q => h H1 e Q fun H2 e2 => q v H2 e2 (hp H2 (e.trans e2))
theorem evp_l {xs : List V} (h : EvL te σ H xs) (hp : ∀ p H2, Ex H H2 → H2 p = some (.lst xs) → P (.ref p) H2) : EvP te σ H P := fun H1 e Q q => h H1 e Q fun p H2 _ e2 h2 => q _ H2 e2 (hp p H2 (e.trans e2) h2)
theorem evp_u {xs : List V} (h : EvU te σ H xs) (hp : ∀ p H2, Ex H H2 → H2 p = some (.tup xs) → P (.ref p) H2) : EvP te σ H P := fun H1 e Q q => h H1 e Q fun p H2 _ e2 h2 => q _ H2 e2 (hp p H2 (e.trans e2) h2)
theorem s_asgP {i : Nat} (h : EvP te σ H P) (k : ∀ v H1, Ex H H1 → P v H1 → D.nx (σ.set i (some v)) H1) : tAsg te (gName i) D σ H := h H (Ex.refl H) _ k
theorem q_asgP {i : Nat} (h : EvP te σ H P) (k : ∀ v H1, Ex H H1 → P v H1 → tz D (σ.set i (some v)) H1) : tSeq (tAsg te (gName i)) tz D σ H := h H (Ex.refl H) _ k
theorem s_retP (h : EvP te σ H P) (k : ∀ v H1, Ex H H1 → P v H1 → D.rt v H1) : tRet te D σ H := h H (Ex.refl H) _ k
/-- a guard that doesn't hold: if c: raise .. -/
theorem q_guard (h : EvT t σ H false) (k : ∀ H1, Ex H H1 → tz D σ H1) : tSeq (tIfS t tu tNext) tz D σ H := q_when h (fun e => by cases e) (fun _ => k)
theorem s_guard (h : EvT t σ H false) (k : ∀ H1, Ex H H1 → D.nx σ H1) : tIfS t tu tNext D σ H := s_when h (fun e => by cases e) (fun _ => k)
theorem s_ifT (h : EvT t σ H true) (k : ∀ H1, Ex H H1 → tu D σ H1) : tIfS t tu tw D σ H := s_if h (fun _ => k) (fun e => by cases e)
theorem s_ifF (h : EvT t σ H false) (k : ∀ H1, Ex H H1 → tw D σ H1) : tIfS t tu tw D σ H := s_if h (fun e => by cases e) (fun _ => k)
theorem q_ifT (h : EvT t σ H true) (k : ∀ H1, Ex H H1 → tu { D with nx := tz D } σ H1) : tSeq (tIfS t tu tw) tz D σ H := q_if h (fun _ => k) (fun e => by cases e)
theorem q_ifF (h : EvT t σ H false) (k : ∀ H1, Ex H H1 → tw { D with nx := tz D } σ H1) : tSeq (tIfS t tu tw) tz D σ H := q_if h (fun e => by cases e) (fun _ => k)
theorem s_next (k : D.nx σ H) : tNext D σ H := k
/-- a chain of two comparisons of whole numbers -/
theorem ev_chain {tc : TE} {r r' : R2} {c d : Bool} (ha : Ev ta σ H x) (hb : Ev tb σ H y) (hr : RV r x y H (.bl c)) (hc : c = true → Ev tc σ H z) (hr' : c = true → RV r' y z H (.bl d)) (hd : c = false → d = false) : Ev (tChain r r' ta tb tc) σ H (.bl d) := fun H1 e Q q =>
  ha H1 e _ fun H2 e2 => hb H2 (e.trans e2) _ fun H3 e3 => hr H3 ((e.trans e2).trans e3) _ fun H4 e4 => ⟨c, rfl, by
    have e' := ((e.trans e2).trans e3).trans e4
    cases c with
    | true =>
      refine iteT ?_
      exact hc rfl H4 e' _ fun H5 e5 => hr' rfl H5 (e'.trans e5) Q fun H6 e6 => q H6 (((e2.trans e3).trans e4).trans (e5.trans e6))
    | false =>
      refine iteF ?_
      rw [hd rfl] at q
      exact q H4 ((e2.trans e3).trans e4)⟩
end

/-! ### isinstance -/
section
variable {K : PySem.W.Frag} {σ : L2.St} {H : Hp} {ta tb : TE} {x : V}
theorem kit2 {a b c : String} {r s : Bool} (h1 : kitB a b = some r) (h2 : kitB a c = some s) : PySem.W.kitAny K (.type a) [.type b, .type c] = some (r || s) := by
  refine kitAny_cons (b := r) (kit_ty h1) (fun hr => ?_) (fun hr => by rw [hr]; rfl)
  refine kitAny_cons (b := s) (kit_ty h2) (fun hs => ?_) (fun hs => by rw [hs, Bool.or_true])
  rw [hr, hs]
  exact kitAny_nil
theorem rc_isi {T U : String} {b : Bool} (ty : ∀ H1, Ex H H1 → TyX K H1 x (.type T)) (h : kitB T U = some b) : RC (rIsi K) [x, .ty U] H (.bl b) := fun H1 e Q q => ⟨x, .ty U, .type T, .type U, b, rfl, .ty U, ty H1 e, kit_ty h, q H1 (Ex.refl H1)⟩
/-- isinstance(x, (T, U)) -/
theorem ev_isi2 {T U V' : String} {b c : Bool} {tx tt : TE} (hx : Ev tx σ H x) (ht : EvU tt σ H [.ty U, .ty V']) (ty : ∀ H1, Ex H H1 → TyX K H1 x (.type T)) (h1 : kitB T U = some b) (h2 : kitB T V' = some c) :
    Ev (tCB (rIsiT K) (tCons tx (tCons tt tNil))) σ H (.bl (b || c)) := fun H1 e Q q =>
  hx H1 e _ fun H2 e2 => ht H2 (e.trans e2) _ fun p H3 _ e3 hp =>
    ⟨x, p, [.ty U, .ty V'], .type T, [.type U, .type V'], b || c, rfl, hp, .cons (.ty U) (.cons (.ty V') .nil), ty H3 ((e.trans e2).trans e3), kit2 h1 h2, q H3 (e2.trans e3)⟩
theorem tx_int (i : Int) : TyX K H (.int i) (.type "int") := .base (.int i)
theorem tx_lst {a : Addr} {xs : List V} (h : H a = some (.lst xs)) : ∀ H1, Ex H H1 → TyX K H1 (.ref a) (.type "list") := fun H1 e => .base (.lst (e a _ h))
theorem tx_tup {a : Addr} {xs : List V} (h : H a = some (.tup xs)) : ∀ H1, Ex H H1 → TyX K H1 (.ref a) (.type "tuple") := fun H1 e => .base (.tup (e a _ h))
theorem tx_str (s : Str) : ∀ H1, Ex H H1 → TyX K H1 (.str s) (.type "str") := fun _ _ => .base (.str s)
theorem k_ii : kitB "int" "int" = some true := by decide +kernel
theorem k_ib : kitB "int" "bool" = some false := by decide +kernel
theorem k_ll : kitB "list" "list" = some true := by decide +kernel
theorem k_lt : kitB "list" "tuple" = some false := by decide +kernel
theorem k_tt : kitB "tuple" "tuple" = some true := by decide +kernel
theorem k_ls : kitB "list" "str" = some false := by decide +kernel
theorem k_ss : kitB "str" "str" = some true := by decide +kernel
theorem k_sl : kitB "str" "list" = some false := by decide +kernel
theorem k_st : kitB "str" "tuple" = some false := by decide +kernel
end
/-- the built-in names that the program leaves as they are, and its constants -/
structure Bt (mg : Str → Option Value) : Prop where
  len : mg "len" = none
  isi : mg "isinstance" = none
  int : mg "int" = none
  bool : mg "bool" = none
  str : mg "str" = none
  list : mg "list" = none
  tuple : mg "tuple" = none
  enum : mg "enumerate" = none
  all : mg "all" = none
  any : mg "any" = none
  sum : mg "sum" = none
  range : mg "range" = none
  zip : mg "zip" = none
  max : mg "max" = none
  min : mg "min" = none
  sorted : mg "sorted" = none
  mr : ∃ u, mg "MAX_ROUNDS" = some u ∧ RelV (.int 200) u
  mgr : ∃ u, mg "MAX_GROUPS" = some u ∧ RelV (.int 1000) u
  bal : ∃ u, mg "BALANCED" = some u ∧ RelV (.str "balanced") u
  even : ∃ u, mg "EVEN" = some u ∧ RelV (.str "even") u
  tog : ∃ u, mg "TOGETHER" = some u ∧ RelV (.str "together") u
  lig : ∃ u, mg "LIGHTEST" = some u ∧ RelV (.str "lightest") u
  hea : ∃ u, mg "HEAVIEST" = some u ∧ RelV (.str "heaviest") u
end SC

/-! ## ScBase2 -/
/-! Sources of loops and comprehensions. -/
namespace SC
open PySem PySem.Spec PyProof.Rows L2 Evl

/-- what a for or a comprehension walks: n turns that give Y, while what was known at its start stands -/
structure Src (wi : TI) (σ : L2.St) (H : Hp) (n : Nat) (Y : Nat → Hp → V → Hp → Prop) : Prop where
  run : ∀ H1, Ex H H1 → ∀ R : It → Hp → Prop, (∀ (J : It) (G : Hp → Prop) (H2 : Hp), Ex H1 H2 → Walk J n G Y → (∀ H3, Ex H2 H3 → G H3) → R J H2) → wi σ H1 R
section
variable {K : PySem.W.Frag} {σ : L2.St} {H H' : Hp} {ta tb te tl : TE} {a b : Addr} {xs ys : List V}
theorem src_list (h : Ev tl σ H (.ref a)) (hx : H a = some (.lst xs)) : Src (iList K tl) σ H xs.length (YAt xs) :=
  ⟨fun H1 e R r => h H1 e _ fun H2 e2 => ⟨a, rfl, ⟨xs, .of ((e.trans e2) a _ hx)⟩, r _ _ H2 e2 walk_list fun H3 e3 => .of (((e.trans e2).trans e3) a _ hx)⟩⟩
theorem src_listS (h : Ev tl σ H (.ref a)) (hx : SqL K H a xs) : Src (iList K tl) σ H xs.length (YAt xs) :=
  ⟨fun H1 e R r => h H1 e _ fun H2 e2 => ⟨a, rfl, ⟨xs, ex_l (e.trans e2) hx⟩, r _ _ H2 e2 walk_list fun H3 e3 => ex_l ((e.trans e2).trans e3) hx⟩⟩
theorem src_listN (h : EvL tl σ H xs) : Src (iList K tl) σ H xs.length (YAt xs) :=
  ⟨fun H1 e R r => h H1 e _ fun p H2 _ e2 hp => ⟨p, rfl, ⟨xs, .of hp⟩, r _ _ H2 e2 walk_list fun H3 e3 => .of (e3 p _ hp)⟩⟩
theorem src_tup (h : Ev tl σ H (.ref a)) (hx : SqT K H a xs) : Src (iTup K tl) σ H xs.length (YAt xs) :=
  ⟨fun H1 e R r => h H1 e _ fun H2 e2 => ⟨a, rfl, ⟨xs, ex_t (e.trans e2) hx⟩, r _ _ H2 e2 walk_tup fun H3 e3 => ex_t ((e.trans e2).trans e3) hx⟩⟩
theorem src_rng1 {t : TA} {n : Nat} (h : EvA t σ H [.int (n : Int)]) (hn : n ≤ 100000) : Src (iRng1 t) σ H n (YFn fun i => .int (i : Int)) :=
  ⟨fun H1 e R r => h H1 e _ fun H2 e2 => ⟨(n : Int), rfl, by omega, by omega, r _ (fun _ => True) H2 e2 (by
    have w := walk_range (lo := 0) (n := ((n : Int)).toNat)
    rw [Int.toNat_natCast] at w
    refine w.mono (fun _ h => h) fun i H x H' _ _ y => ?_
    obtain ⟨y1, y2⟩ := y
    exact ⟨y1, y2.trans (congrArg V.int (Int.zero_add _))⟩) fun _ _ => trivial⟩⟩
theorem src_rng2 {t : TA} {lo hi : Int} {n : Nat} (h : EvA t σ H [.int lo, .int hi]) (h0 : 0 ≤ lo ∧ lo ≤ 100000 ∧ 0 ≤ hi ∧ hi ≤ 100000) (hn : (hi - lo).toNat = n) : Src (iRng2 t) σ H n (YFn fun i => .int (lo + (i : Int))) :=
  ⟨fun H1 e R r => h H1 e _ fun H2 e2 => ⟨lo, hi, rfl, ⟨by omega, by omega, by omega, by omega⟩, r _ (fun _ => True) H2 e2 (by rw [← hn]; exact walk_range) fun _ _ => trivial⟩⟩
theorem src_enum {t : TA} (h : EvA t σ H [.ref a]) (hx : H a = some (.lst xs)) : Src (iEnum K t) σ H xs.length (YPair (fun i => some (.int (i : Nat))) (fun i => xs[i]?)) :=
  ⟨fun H1 e R r => h H1 e _ fun H2 e2 => ⟨a, xs, rfl, .of ((e.trans e2) a _ hx), r _ _ H2 e2 walk_enum fun H3 e3 => .of (((e.trans e2).trans e3) a _ hx)⟩⟩
theorem walk_enumT : Walk (SCR.Itet K a) xs.length (fun H => SqT K H a xs) (YPair (fun i => some (.int (i : Nat))) (fun i => xs[i]?)) := by
  refine ⟨fun i _ hi q => ⟨xs, xs[i], q, by simp [hi]⟩, fun _ q => ⟨xs, q, rfl⟩, fun i H v H' _ q y => ?_⟩
  obtain ⟨T, x, h1, h2, h3, h4⟩ := y
  exact ⟨T, .int (i : Nat), x, h1, h2, h3, rfl, h4 xs q⟩
theorem src_enumT {t : TA} (h : EvA t σ H [.ref a]) (hx : SqT K H a xs) : Src (SCR.iEnumT K t) σ H xs.length (YPair (fun i => some (.int (i : Nat))) (fun i => xs[i]?)) :=
  ⟨fun H1 e R r => h H1 e _ fun H2 e2 => ⟨a, xs, rfl, ex_t (e.trans e2) hx, r _ _ H2 e2 walk_enumT fun H3 e3 => ex_t ((e.trans e2).trans e3) hx⟩⟩
theorem walk_zipTL {n : Nat} (hn : n = min xs.length ys.length) : Walk (SCR.Itztl K a b) n (fun H => SqT K H a xs ∧ SqL K H b ys) (YPair (fun i => xs[i]?) (fun i => ys[i]?)) := by
  subst hn
  refine ⟨fun i _ hi q => ?_, fun _ q => ⟨xs, ys, q.1, q.2, rfl⟩, fun i H v H' _ q y => ?_⟩
  · exact ⟨xs, ys, xs[i]'(by omega), ys[i]'(by omega), q.1, q.2, List.getElem?_eq_getElem _, List.getElem?_eq_getElem _⟩
  · obtain ⟨T, x, z, h1, h2, h3, h4, h5⟩ := y
    exact ⟨T, x, z, h1, h2, h3, h4 xs q.1, h5 ys q.2⟩
theorem src_zipTL {t : TA} {n : Nat} (h : EvA t σ H [.ref a, .ref b]) (hx : SqT K H a xs) (hy : H b = some (.lst ys)) (hn : n = min xs.length ys.length) : Src (SCR.iZipTL K t) σ H n (YPair (fun i => xs[i]?) (fun i => ys[i]?)) :=
  ⟨fun H1 e R r => h H1 e _ fun H2 e2 => ⟨a, b, xs, ys, rfl, ex_t (e.trans e2) hx, .of ((e.trans e2) b _ hy), r _ _ H2 e2 (walk_zipTL hn) fun H3 e3 => ⟨ex_t ((e.trans e2).trans e3) hx, .of (((e.trans e2).trans e3) b _ hy)⟩⟩⟩
theorem walk_zips (hl : xs.length = ys.length) : Walk (SCZ.Itzs K a b) xs.length (fun H => SqL K H a xs ∧ SqL K H b ys) (YPair (fun i => xs[i]?) (fun i => ys[i]?)) := by
  refine ⟨fun i _ hi q => ?_, fun _ q => ⟨xs, ys, q.1, q.2, Nat.le_refl _, Nat.le_of_eq hl.symm⟩, fun i H v H' _ q y => ?_⟩
  · exact ⟨xs, ys, xs[i], ys[i]'(by omega), q.1, q.2, List.getElem?_eq_getElem _, List.getElem?_eq_getElem _⟩
  · obtain ⟨T, x, z, h1, h2, h3, h4, h5⟩ := y
    exact ⟨T, x, z, h1, h2, h3, h4 xs q.1, h5 ys q.2⟩
theorem src_zips {t : TA} (h : EvA t σ H [.ref a, .ref b]) (hx : H a = some (.lst xs)) (hy : H b = some (.lst ys)) (hl : xs.length = ys.length) : Src (SCZ.iZipKw K true t) σ H xs.length (YPair (fun i => xs[i]?) (fun i => ys[i]?)) :=
  ⟨fun H1 e R r => h H1 e _ fun H2 e2 => ⟨a, b, xs, ys, rfl, .of ((e.trans e2) a _ hx), .of ((e.trans e2) b _ hy), fun _ => r _ _ H2 e2 (walk_zips hl) fun H3 e3 => ⟨.of (((e.trans e2).trans e3) a _ hx), .of (((e.trans e2).trans e3) b _ hy)⟩, fun z => nomatch z⟩⟩
end

/-! ### comprehensions over a source: each item by what is true of it -/
section
variable {K : PySem.W.Frag} {σ : L2.St} {H : Hp} {te : TE} {wi : TI} {n : Nat} {vs : List Nat}
def LcR (n : Nat) (Pe : Nat → V → Hp → Prop) (v : V) (H2 : Hp) : Prop := ∃ (D : Addr) (xs : List V), v = .ref D ∧ H2 D = some (.lst xs) ∧ xs.length = n ∧ ∀ i x, xs[i]? = some x → Pe i x H2
/-- a single name as the target -/
theorem evp_lc {j : Nat} {f : Nat → V → Prop} (hs : Src wi σ H n (fun i H x H' => H' = H ∧ f i x)) (hn : n ≤ 50000) (hw : ∀ x, wipe ((wipe σ vs).set j (some x)) vs = wipe σ vs) (Pe : Nat → V → Hp → Prop)
    (mono : ∀ i v (H1 H2 : Hp) (D : Addr), (∀ b o, H1 b = some o → b ≠ D → H2 b = some o) → (∃ xs, H1 D = some (.lst xs)) → H D = none → Pe i v H1 → Pe i v H2)
    (he : ∀ i x H1, i < n → f i x → Ex H H1 → EvP te ((wipe σ vs).set j (some x)) H1 (Pe i)) : EvP (tLc wi (gName j) tYes te vs) σ H (LcR n Pe) := fun H1 e Q q =>
  hs.run H1 e _ fun J G H2 e2 w hG D hD => by
    have hDH : H D = none := fresh_back (e.trans e2) hD
    refine lc_it w (fun i H' => (∀ b o, H2 b = some o → H' b = some o) ∧ ∃ xs, H' D = some (.lst xs) ∧ xs.length = i ∧ ∀ k x, xs[k]? = some x → Pe k x H') ⟨Ex.new hD, [], upd_same, rfl, fun k x h => by simp at h⟩ (fun i H' _ p => hG H' p.1) (fun i x H' H'' hi p y => ?_) (fun H' p => ?_)
    · obtain ⟨p1, xs, p2, p3, p4⟩ := p
      obtain ⟨rfl, hfx⟩ := y
      refine ⟨hw x, ?_⟩
      dsimp only [tYes]
      rw [if_pos rfl]
      refine he i x H'' hi hfx ((e.trans e2).trans p1) H'' (Ex.refl _) _ fun v H4 e4 hv => ⟨xs, e4 D _ p2, sz_lt (by omega), fun b o h => ?_, xs ++ [v], upd_same, by simp [p3], fun k z hz => ?_⟩
      · rw [upd_ne (ne_of_none h hD)]
        exact e4 b o (p1 b o h)
      · by_cases hk : k < xs.length
        · rw [List.getElem?_append_left hk] at hz
          refine mono k z H'' _ D (fun b o h hb => ?_) ⟨_, p2⟩ hDH (p4 k z hz)
          rw [upd_ne hb]
          exact e4 b o h
        · have hl := (List.getElem?_eq_some_iff.mp hz).1
          rw [List.length_append, List.length_singleton] at hl
          have ek : k = xs.length := by omega
          subst ek
          rw [List.getElem?_concat_length] at hz
          cases hz
          rw [p3]
          exact mono i v H4 _ D (fun b o h hb => by rw [upd_ne hb]; exact h) ⟨_, by first | exact e4 D _ p2 | exact e4 D _ (eT D _ p2)⟩ hDH hv
    · obtain ⟨p1, xs, p2, p3, p4⟩ := p
      exact q (.ref D) H' (fun b o h => p1 b o (e2 b o h)) ⟨D, xs, rfl, p2, p3, p4⟩
/-- two names as the target: new pairs -/
theorem evp_lc2 {j l : Nat} {f g : Nat → Option V} (hs : Src wi σ H n (YPair f g)) (hn : n ≤ 50000) (hw : ∀ x y, wipe (((wipe σ vs).set j (some x)).set l (some y)) vs = wipe σ vs) (Pe : Nat → V → Hp → Prop)
    (mono : ∀ i v (H1 H2 : Hp) (D : Addr), (∀ b o, H1 b = some o → b ≠ D → H2 b = some o) → (∃ xs, H1 D = some (.lst xs)) → H D = none → Pe i v H1 → Pe i v H2)
    (he : ∀ i x y H1, i < n → f i = some x → g i = some y → Ex H H1 → EvP te (((wipe σ vs).set j (some x)).set l (some y)) H1 (Pe i)) :
    EvP (tLc wi (gTup K 2 (gCons (gName j) (gCons (gName l) gNil))) tYes te vs) σ H (LcR n Pe) := fun H1 e Q q =>
  hs.run H1 e _ fun J G H2 e2 w hG D hD => by
    have hDH : H D = none := fresh_back (e.trans e2) hD
    refine lc_it w (fun i H' => (∀ b o, H2 b = some o → H' b = some o) ∧ ∃ xs, H' D = some (.lst xs) ∧ xs.length = i ∧ ∀ k x, xs[k]? = some x → Pe k x H') ⟨Ex.new hD, [], upd_same, rfl, fun k x h => by simp at h⟩ (fun i H' _ p => hG H' p.1) (fun i v H' H'' hi p y => ?_) (fun H' p => ?_)
    · obtain ⟨p1, xs, p2, p3, p4⟩ := p
      obtain ⟨T, x, y, rfl, hT, rfl, hx, hy⟩ := y
      refine ⟨T, [x, y], rfl, .of upd_same, rfl, x, [y], rfl, y, [], rfl, rfl, hw x y, ?_⟩
      dsimp only [tYes]
      rw [if_pos rfl]
      have eT : Ex H' (upd H' T (.tup [x, y])) := Ex.new hT
      refine he i x y _ hi hx hy (((e.trans e2).trans p1).trans eT) _ (Ex.refl _) _ fun v H4 e4 hv => ⟨xs, e4 D _ (eT D _ p2), sz_lt (by omega), fun b o h => ?_, xs ++ [v], upd_same, by simp [p3], fun k z hz => ?_⟩
      · rw [upd_ne (ne_of_none h hD)]
        exact e4 b o (eT b o (p1 b o h))
      · by_cases hk : k < xs.length
        · rw [List.getElem?_append_left hk] at hz
          refine mono k z H' _ D (fun b o h hb => ?_) ⟨_, p2⟩ hDH (p4 k z hz)
          rw [upd_ne hb]
          exact e4 b o (eT b o h)
        · have hl := (List.getElem?_eq_some_iff.mp hz).1
          rw [List.length_append, List.length_singleton] at hl
          have ek : k = xs.length := by omega
          subst ek
          rw [List.getElem?_concat_length] at hz
          cases hz
          rw [p3]
          exact mono i v H4 _ D (fun b o h hb => by rw [upd_ne hb]; exact h) ⟨_, by first | exact e4 D _ p2 | exact e4 D _ (eT D _ p2)⟩ hDH hv
    · obtain ⟨p1, xs, p2, p3, p4⟩ := p
      exact q (.ref D) H' (fun b o h => p1 b o (e2 b o h)) ⟨D, xs, rfl, p2, p3, p4⟩
theorem LcR.eq {n : Nat} {f : Nat → V} {v : V} {H2 : Hp} (h : LcR n (fun i x _ => x = f i) v H2) : ∃ D, v = .ref D ∧ H2 D = some (.lst ((List.range n).map f)) := by
  obtain ⟨D, xs, rfl, hD, hl, hp⟩ := h
  refine ⟨D, rfl, ?_⟩
  rw [hD]
  congr 2
  apply List.ext_getElem
  · simp [hl]
  · intro i h1 h2
    rw [hp i xs[i] (List.getElem?_eq_getElem h1)]
    simp
/-- values that depend on the place alone -/
theorem evl_lc {j : Nat} {f : Nat → V → Prop} (v : Nat → V) (hs : Src wi σ H n (fun i H x H' => H' = H ∧ f i x)) (hn : n ≤ 50000) (hw : ∀ x, wipe ((wipe σ vs).set j (some x)) vs = wipe σ vs)
    (he : ∀ i x H1, i < n → f i x → Ex H H1 → Ev te ((wipe σ vs).set j (some x)) H1 (v i)) : EvP (tLc wi (gName j) tYes te vs) σ H (fun w H2 => ∃ D, w = .ref D ∧ H2 D = some (.lst ((List.range n).map v))) := fun H1 e Q q =>
  evp_lc hs hn hw (fun i x _ => x = v i) (fun _ _ _ _ _ _ _ _ h => h) (fun i x H1 hi hf e1 => evp_v (he i x H1 hi hf e1) fun _ _ => rfl) H1 e Q fun w H2 e2 h => q w H2 e2 h.eq
theorem evl_lc2 {j l : Nat} {f g : Nat → Option V} (v : Nat → V) (hs : Src wi σ H n (YPair f g)) (hn : n ≤ 50000) (hw : ∀ x y, wipe (((wipe σ vs).set j (some x)).set l (some y)) vs = wipe σ vs)
    (he : ∀ i x y H1, i < n → f i = some x → g i = some y → Ex H H1 → Ev te (((wipe σ vs).set j (some x)).set l (some y)) H1 (v i)) :
    EvP (tLc wi (gTup K 2 (gCons (gName j) (gCons (gName l) gNil))) tYes te vs) σ H (fun w H2 => ∃ D, w = .ref D ∧ H2 D = some (.lst ((List.range n).map v))) := fun H1 e Q q =>
  evp_lc2 hs hn hw (fun i x _ => x = v i) (fun _ _ _ _ _ _ _ _ h => h) (fun i x y H1 hi hf hg e1 => evp_v (he i x y H1 hi hf hg e1) fun _ _ => rfl) H1 e Q fun w H2 e2 h => q w H2 e2 h.eq
end

/-! ### loops -/
section
variable {K : PySem.W.Frag} {σ : L2.St} {H : Hp} {wi : TI} {n : Nat} {tu tz : TS} {D : Ends}
/-- a loop that only looks: nothing known changes -/
theorem s_forS {j : Nat} {f : Nat → V → Prop} (hs : Src wi σ H n (fun i H x H' => H' = H ∧ f i x)) (Pv : Nat → L2.St → Prop) (h0 : Pv 0 σ)
    (ht : ∀ i x σ' H0 H', i < n → f i x → Pv i σ' → Ex H H0 → Ex H0 H' → tu { D with nx := fun σ2 H2 => Pv (i + 1) σ2 ∧ Ex H0 H2, ct := fun σ2 H2 => Pv (i + 1) σ2 ∧ Ex H0 H2, bk := D.nx } (σ'.set j (some x)) H') (hd : ∀ σ' H', Pv n σ' → Ex H H' → D.nx σ' H') : tFor wi (gName j) tu D σ H :=
  hs.run H (Ex.refl H) _ fun J G H2 e2 w hG => for_it w (fun i σ' H' => Pv i σ' ∧ Ex H2 H') ⟨h0, Ex.refl _⟩ (fun i σ' H' _ p => hG H' p.2) (fun i x σ' H' H'' hi p y => by
    obtain ⟨rfl, hf⟩ := y
    exact ht i x σ' H2 H'' hi hf p.1 e2 p.2) (fun σ' H' p => hd σ' H' p.1 (e2.trans p.2))
theorem s_forS2 {j l : Nat} {f g : Nat → Option V} (hs : Src wi σ H n (YPair f g)) (Pv : Nat → L2.St → Prop) (h0 : Pv 0 σ)
    (ht : ∀ i x y σ' H0 H', i < n → f i = some x → g i = some y → Pv i σ' → Ex H H0 → Ex H0 H' → tu { D with nx := fun σ2 H2 => Pv (i + 1) σ2 ∧ Ex H0 H2, ct := fun σ2 H2 => Pv (i + 1) σ2 ∧ Ex H0 H2, bk := D.nx } ((σ'.set j (some x)).set l (some y)) H') (hd : ∀ σ' H', Pv n σ' → Ex H H' → D.nx σ' H') :
    tFor wi (gTup K 2 (gCons (gName j) (gCons (gName l) gNil))) tu D σ H :=
  hs.run H (Ex.refl H) _ fun J G H2 e2 w hG => for_it w (fun i σ' H' => Pv i σ' ∧ Ex H2 H') ⟨h0, Ex.refl _⟩ (fun i σ' H' _ p => hG H' p.2) (fun i v σ' H' H'' hi p y => by
    obtain ⟨T, x, y, rfl, hT, rfl, hx, hy⟩ := y
    refine ⟨T, [x, y], rfl, .of upd_same, rfl, x, [y], rfl, y, [], rfl, rfl, ?_⟩
    exact ht i x y σ' H2 _ hi hx hy p.1 e2 (p.2.trans (Ex.new hT))) (fun σ' H' p => hd σ' H' p.1 (e2.trans p.2))
theorem q_forS {j : Nat} {f : Nat → V → Prop} (hs : Src wi σ H n (fun i H x H' => H' = H ∧ f i x)) (Pv : Nat → L2.St → Prop) (h0 : Pv 0 σ)
    (ht : ∀ i x σ' H0 H', i < n → f i x → Pv i σ' → Ex H H0 → Ex H0 H' → tu { D with nx := fun σ2 H2 => Pv (i + 1) σ2 ∧ Ex H0 H2, ct := fun σ2 H2 => Pv (i + 1) σ2 ∧ Ex H0 H2, bk := tz D } (σ'.set j (some x)) H') (hd : ∀ σ' H', Pv n σ' → Ex H H' → tz D σ' H') : tSeq (tFor wi (gName j) tu) tz D σ H :=
  s_forS (D := { D with nx := tz D }) hs Pv h0 ht hd
theorem q_forS2 {j l : Nat} {f g : Nat → Option V} (hs : Src wi σ H n (YPair f g)) (Pv : Nat → L2.St → Prop) (h0 : Pv 0 σ)
    (ht : ∀ i x y σ' H0 H', i < n → f i = some x → g i = some y → Pv i σ' → Ex H H0 → Ex H0 H' → tu { D with nx := fun σ2 H2 => Pv (i + 1) σ2 ∧ Ex H0 H2, ct := fun σ2 H2 => Pv (i + 1) σ2 ∧ Ex H0 H2, bk := tz D } ((σ'.set j (some x)).set l (some y)) H') (hd : ∀ σ' H', Pv n σ' → Ex H H' → tz D σ' H') :
    tSeq (tFor wi (gTup K 2 (gCons (gName j) (gCons (gName l) gNil))) tu) tz D σ H :=
  s_forS2 (D := { D with nx := tz D }) hs Pv h0 ht hd
end
end SC

/-! ## ScBase3 -/
/-! Calls on what was just made, lists of numbers compared, texts by length. -/
namespace SC
open PySem PySem.Spec PyProof.Rows L2 Evl
section
variable {K : PySem.W.Frag} {σ : L2.St} {H H' : Hp} {ta tb te : TE} {x y z v : V} {P : V → Hp → Prop} {D : Ends} {tz : TS}
theorem ev_lenT {p : Addr} {xs : List V} (ha : Ev ta σ H (.ref p)) (h : SqT K H p xs) : Ev (tCB (rLenS K) (tCons ta tNil)) σ H (.int (xs.length : Int)) := fun H1 e Q q =>
  ha H1 e _ fun H2 e2 => ⟨p, xs, rfl, Or.inr (ex_t (e.trans e2) h), q H2 e2⟩
/-- a call on one value just made -/
theorem ev_cb1P {r : List V → Hp → VK → Prop} (h : EvP te σ H P) (hr : ∀ v H1, Ex H H1 → P v H1 → RC r [v] H1 z) : Ev (tCB r (tCons te tNil)) σ H z := fun H1 e Q q =>
  h H1 e _ fun v H2 e2 hv => hr v H2 (e.trans e2) hv H2 (Ex.refl _) Q fun H3 e3 => q H3 (e2.trans e3)
theorem evp_cb1P {r : List V → Hp → VK → Prop} {P' : V → Hp → Prop} (h : EvP te σ H P) (hr : ∀ v H1, Ex H H1 → P v H1 → ∀ Q : VK, (∀ w H2, Ex H1 H2 → P' w H2 → Q w H2) → r [v] H1 Q) : EvP (tCB r (tCons te tNil)) σ H P' := fun H1 e Q q =>
  h H1 e _ fun v H2 e2 hv => hr v H2 (e.trans e2) hv Q fun w H3 e3 hw => q w H3 (e2.trans e3) hw
theorem ev_opP1 {r : R2} (h : EvP ta σ H P) (hb : ∀ H1, Ex H H1 → Ev tb σ H1 y) (hr : ∀ v H1, Ex H H1 → P v H1 → RV r v y H1 z) (mono : ∀ v H1 H2, Ex H1 H2 → P v H1 → P v H2) : Ev (tOp r ta tb) σ H z := fun H1 e Q q =>
  h H1 e _ fun v H2 e2 hv => hb H2 (e.trans e2) H2 (Ex.refl _) _ fun H3 e3 => hr v H3 ((e.trans e2).trans e3) (mono v H2 H3 e3 hv) H3 (Ex.refl _) Q fun H4 e4 => q H4 ((e2.trans e3).trans e4)
/-- both operands just made -/
theorem ev_opPP {r : R2} {P' : V → Hp → Prop} (h : EvP ta σ H P) (hb : EvP tb σ H P') (hr : ∀ v w H1, Ex H H1 → P v H1 → P' w H1 → RV r v w H1 z) (mono : ∀ v H1 H2, Ex H1 H2 → P v H1 → P v H2) : Ev (tOp r ta tb) σ H z := fun H1 e Q q =>
  h H1 e _ fun v H2 e2 hv => hb H2 (e.trans e2) _ fun w H3 e3 hw => hr v w H3 ((e.trans e2).trans e3) (mono v H2 H3 e3 hv) hw H3 (Ex.refl _) Q fun H4 e4 => q H4 ((e2.trans e3).trans e4)
/-- an operation whose first operand is known, the second just made; the result told by P' -/
theorem evp_op {r : R2} {P1 P2 P' : V → Hp → Prop} (h : EvP ta σ H P1) (hb : EvP tb σ H P2) (mono : ∀ v H1 H2, Ex H1 H2 → P1 v H1 → P1 v H2)
    (hr : ∀ v w H1, Ex H H1 → P1 v H1 → P2 w H1 → ∀ Q : VK, (∀ u H2, Ex H1 H2 → P' u H2 → Q u H2) → r v w H1 Q) : EvP (tOp r ta tb) σ H P' := fun H1 e Q q =>
  h H1 e _ fun v H2 e2 hv => hb H2 (e.trans e2) _ fun w H3 e3 hw => hr v w H3 ((e.trans e2).trans e3) (mono v H2 H3 e3 hv) hw Q fun u H4 e4 hu => q u H4 ((e2.trans e3).trans e4) hu
theorem q_dropS (h : Ev te σ H v) (k : ∀ H1, Ex H H1 → tz D σ H1) : tSeq (tDrop te) tz D σ H := q_drop h k
end
/-! ### data -/
theorem dpAll_ints {K : PySem.W.Frag} {H : Hp} : ∀ xs : List Int, DpAll K H (xs.map V.int) (xs.map PyData.int)
  | [] => .nil
  | x :: xs => .cons (.int x) (dpAll_ints xs)
theorem dp_ints {K : PySem.W.Frag} {H : Hp} {a : Addr} {xs : List Int} (h : H a = some (.lst (xs.map V.int))) : Dp K H (.ref a) (.list (xs.map PyData.int)) := .lst (.of h) (dpAll_ints xs)
theorem lay_ints : ∀ xs : List Int, PyData.canLayAll0 (xs.map PyData.int) = true
  | [] => rfl
  | x :: xs => by
    simp only [List.map_cons, PyData.canLayAll0, lay_ints xs, Bool.and_true]
    rfl
theorem depth_ints : ∀ xs : List Int, PyData.depthAll (xs.map PyData.int) = 0
  | [] => rfl
  | x :: xs => by
    simp only [List.map_cons, PyData.depthAll, depth_ints xs]
    rfl
theorem shaped_ints (xs : List Int) : SeqAt.shaped (.list (xs.map PyData.int)) = true := by
  unfold SeqAt.shaped
  rw [Bool.and_eq_true]
  refine ⟨?_, decide_eq_true ?_⟩
  · show PyData.canLayAll0 (xs.map PyData.int) = true
    exact lay_ints xs
  · show PyData.depthAll (xs.map PyData.int) + 1 ≤ 64
    rw [depth_ints]
    decide
theorem eqv_ints (xs : List Int) : PyData.eqv (.list (xs.map PyData.int)) (.list (xs.map PyData.int)) = true := SeqAt.eqv_refl _ (lay_ints xs)
/-- two lists of the same numbers are not unequal -/
theorem rv_neInts {K : PySem.W.Frag} {H : Hp} {a b : Addr} {xs : List Int} (ha : H a = some (.lst (xs.map V.int))) (hb : H b = some (.lst (xs.map V.int))) : RV (rNeD K) (.ref a) (.ref b) H (.bl false) := fun H1 e Q q =>
  ⟨_, _, dp_ints (e a _ ha), dp_ints (e b _ hb), shaped_ints xs, shaped_ints xs, by rw [eqv_ints]; exact q H1 (Ex.refl _)⟩

/-! ### rules with the written part told (within a comprehension's block) -/
section
variable {X : Cx} (K : PySem.W.Frag)
theorem ix_tupK (h : X.K = K := by rfl) : IxR X (rIxT K) := by
  subst h
  exact ix_tup
theorem ix_listK (h : X.K = K := by rfl) : IxR X (rIxL K) := by
  subst h
  exact ix_list
theorem cr_sumK (hc : X.calm = true) (h : X.K = K := by rfl) : CallR X (.builtin "sum") (rSum K) := by
  subst h
  exact cr_sum hc
theorem call_lenK (h : X.K = K := by rfl) : CallR X (.builtin "len") (rLenS K) := by
  subst h
  exact call_len_seq
def rTupleOf (K : PySem.W.Frag) : List V → Hp → VK → Prop := fun xs H Q => ∃ p ys, xs = [.ref p] ∧ ((SqL K H p ys ∧ ∀ l, H l = none → Q (.ref l) (upd H l (.tup ys))) ∨ (SqT K H p ys ∧ Q (.ref p) H))
theorem call_tupleK (h : X.K = K := by rfl) : CallR X (.type "tuple") (rTupleOf K) := by
  subst h
  exact call_tuple_of
theorem op_repZK (h : X.K = K := by rfl) : OpR X (binaryOp .Mult) (SCR.rRepZ K) := by
  subst h
  exact SCR.op_repZ
theorem pi_listK {tg l : Expr} {tl : TE} (hl : PE X l tl) (h : X.K = K := by rfl) : PI X tg l (iList K tl) := by
  subst h
  exact pi_list hl
end
end SC

/-! ## ScA -/
/-! integers.py and positions.py, def by def. -/
namespace SC
open PySem PySem.Spec PyProof.Rows L2 Evl
abbrev sIsInt : Stmt := top 14
abbrev sAtLeast : Stmt := top 15
abbrev sBetween : Stmt := top 16
abbrev sReqSched : Stmt := top 20
abbrev sReqRounds : Stmt := top 21
abbrev sIsGroup : Stmt := top 22
abbrev sReqCounts : Stmt := top 23
abbrev sSmallRound : Stmt := top 24
abbrev sReqSplit : Stmt := top 25
abbrev sProducts : Stmt := top 26
abbrev sClimbed : Stmt := top 28
section
variable {P : Program} {w : World} {K : PySem.W.Frag} {mg : Str → Option Value} {base : Heap} {f : Addr} {fd : FuncData}

/-! ### is_integer, is_at_least, is_between -/
def spIsInt : Sp := fun vs H Q _ => ∃ i : Int, vs = [.int i] ∧ RetV (.bl true) H Q
theorem sp_isInt {H : Hp} (i : Int) : SpV spIsInt [.int i] H (.bl true) := fun H1 e Q q E => ⟨i, rfl, q⟩
theorem scIsInt : FnScope ["value"] ["value"] (defScope sIsInt) := ⟨rfl, rfl, rfl, by decide +kernel, rfl, by decide +kernel, by decide +kernel⟩
theorem ok_isInt (F : Fun K "is_integer" "is_integer" sIsInt f fd) (B : Bt mg) : FnOk P w K mg base CX0 1 f fd ["value"] spIsInt := by
  refine F.ok scIsInt (fun vs H Q E h => ?_) (fun cdv A outer s H vs Q E hr h => ?_)
  · obtain ⟨i, rfl, _⟩ := h
    rfl
  · obtain ⟨i, rfl, k⟩ := h
    refine ⟨_, pss_one (ps_ret (pe_and (pe_callB call_isi (by rfl) B.isi (by decide +kernel) (pa_cons (pv 0) (pa_cons (pe_bltn (v := .ty "int") (by rfl) B.int (by decide +kernel) rfl) pa_nil)))
      (pe_one (pe_not (pe_callB call_isi (by rfl) B.isi (by decide +kernel) (pa_cons (pv 0) (pa_cons (pe_bltn (v := .ty "bool") (by rfl) B.bool (by decide +kernel) rfl) pa_nil))))))), ?_⟩
    refine s_ret (ev_andV (a := true) (b := true) (ev_cb (ea_cons (ev_var rfl) (ea_cons ev_c ea_nil)) (rc_isi (fun _ _ => tx_int i) k_ii)) fun _ => ev_notV (a := false) (ev_cb (ea_cons (ev_var rfl) (ea_cons ev_c ea_nil)) (rc_isi (fun _ _ => tx_int i) k_ib))) k
def spAtLeast : Sp := fun vs H Q _ => ∃ i j : Int, vs = [.int i, .int j] ∧ RetV (.bl (decide (j ≤ i))) H Q
theorem sp_atLeast {H : Hp} (i j : Int) : SpV spAtLeast [.int i, .int j] H (.bl (decide (j ≤ i))) := fun H1 e Q q E => ⟨i, j, rfl, q⟩
theorem scAtLeast : FnScope ["value", "low"] ["value", "low"] (defScope sAtLeast) := ⟨rfl, rfl, rfl, by decide +kernel, rfl, by decide +kernel, by decide +kernel⟩
theorem ok_atLeast (F : Fun K "is_at_least" "is_at_least" sAtLeast f fd) (c1 : Callee P w K mg base "is_integer" ["value"] 1 spIsInt) : FnOk P w K mg base CX0 2 f fd ["value", "low"] spAtLeast := by
  refine F.ok scAtLeast (fun vs H Q E h => ?_) (fun cdv A outer s H vs Q E hr h => ?_)
  · obtain ⟨i, j, rfl, _⟩ := h
    rfl
  · obtain ⟨i, j, rfl, k⟩ := h
    refine ⟨_, pss_one (ps_ret (pe_and (pe_cal c1 hr (pa_cons (pv 0) pa_nil)) (pe_one (pe_cmpR op_ge (pv 0) (pv 1) (nomark _))))), ?_⟩
    refine s_ret (ev_andV (a := true) (ev_call (ea_cons (ev_var rfl) ea_nil) (sp_isInt i)) fun _ => ev_op (ev_var rfl) (ev_var rfl) rv_I0) k
def spBetween : Sp := fun vs H Q _ => ∃ i lo hi : Int, vs = [.int i, .int lo, .int hi] ∧ RetV (.bl (decide (lo ≤ i) && decide (i ≤ hi))) H Q
theorem sp_between {H : Hp} (i lo hi : Int) : SpV spBetween [.int i, .int lo, .int hi] H (.bl (decide (lo ≤ i) && decide (i ≤ hi))) := fun H1 e Q q E => ⟨i, lo, hi, rfl, q⟩
theorem scBetween : FnScope ["value", "low", "high"] ["value", "low", "high"] (defScope sBetween) := ⟨rfl, rfl, rfl, by decide +kernel, rfl, by decide +kernel, by decide +kernel⟩
theorem ok_between (F : Fun K "is_between" "is_between" sBetween f fd) (c1 : Callee P w K mg base "is_integer" ["value"] 1 spIsInt) : FnOk P w K mg base CX0 2 f fd ["value", "low", "high"] spBetween := by
  refine F.ok scBetween (fun vs H Q E h => ?_) (fun cdv A outer s H vs Q E hr h => ?_)
  · obtain ⟨i, lo, hi, rfl, _⟩ := h
    rfl
  · obtain ⟨i, lo, hi, rfl, k⟩ := h
    refine ⟨_, pss_one (ps_ret (pe_and (pe_cal c1 hr (pa_cons (pv 0) pa_nil)) (pe_one (pe_chain op_le op_le (pv 1) (pv 0) (pv 2))))), ?_⟩
    refine s_ret (ev_andV (a := true) (ev_call (ea_cons (ev_var rfl) ea_nil) (sp_isInt i)) fun _ => ev_chain (c := decide (lo ≤ i)) (d := decide (lo ≤ i) && decide (i ≤ hi)) (ev_var rfl) (ev_var rfl) rv_I0 (fun _ => ev_var rfl) (fun h => by rw [h, Bool.true_and]; exact rv_I0) (fun h => by rw [h, Bool.false_and])) k

/-! ### require_schedule, require_rounds -/
/-- a list of whole numbers -/
abbrev LI (H : Hp) (a : Addr) (xs : List Int) : Prop := H a = some (.lst (xs.map V.int))
/-- a tuple of whole numbers -/
abbrev TuI (H : Hp) (a : Addr) (xs : List Int) : Prop := H a = some (.tup (xs.map V.int))
structure Sched (rs : List Int) : Prop where
  two : ∀ x ∈ rs, 2 ≤ x
  five : ∀ x ∈ rs, x ≤ 5
  len : rs.length ≤ 100
theorem get_int {xs : List Int} {i : Nat} {x : V} (h : (xs.map V.int)[i]? = some x) : ∃ z, xs[i]? = some z ∧ x = .int z := by
  rw [List.getElem?_map] at h
  cases e : xs[i]? with
  | none => rw [e] at h; cases h
  | some z => rw [e] at h; exact ⟨z, rfl, (Option.some.inj h).symm⟩
def spReqSched : Sp := fun vs H Q _ => ∃ (a : Addr) (rs : List Int), vs = [.ref a] ∧ LI H a rs ∧ Sched rs ∧ RetV .non H Q
theorem sp_reqSched {H : Hp} {a : Addr} {rs : List Int} (h : LI H a rs) (s : Sched rs) : SpV spReqSched [.ref a] H .non := fun H1 e Q q E => ⟨a, rs, rfl, e a _ h, s, q⟩
theorem scReqSched : FnScope ["schedule", "index", "entry"] ["schedule"] (defScope sReqSched) := ⟨rfl, rfl, rfl, by decide +kernel, rfl, by decide +kernel, by decide +kernel⟩
theorem ok_reqSched (F : Fun K "require_schedule" "require_schedule" sReqSched f fd) (B : Bt mg) (c1 : Callee P w K mg base "is_at_least" ["value", "low"] 2 spAtLeast) : FnOk P w K mg base CX0 3 f fd ["schedule"] spReqSched := by
  refine F.ok scReqSched (fun vs H Q E h => ?_) (fun cdv A outer s H vs Q E hr h => ?_)
  · obtain ⟨a, rs, rfl, _⟩ := h
    rfl
  · obtain ⟨a, rs, rfl, ha, S, k⟩ := h
    refine ⟨_, pss_cons (ps_if (PW.pt (pw_or (pt_not (pt_val (pe_callB call_isiT (by rfl) B.isi (by decide +kernel) (pa_cons (pv 0) (pa_cons (pe_tup (pa_cons (pe_bltn (v := .ty "list") (by rfl) B.list (by decide +kernel) rfl) (pa_cons (pe_bltn (v := .ty "tuple") (by rfl) B.tuple (by decide +kernel) rfl) pa_nil))) pa_nil)))))
        (pw_or1 (pt_cmpR op_gt (pe_callB call_len_seq (by rfl) B.len PySem.boot_len (pa_cons (pv 0) pa_nil)) (pe_mod B.mr) (nomark _))))) (pss_one ps_never) pss_nil)
      (pss_one (ps_for PassesOwn.never rfl (pi_enum (by rfl) B.enum (pa_cons (pv 0) pa_nil)) (pg_tup rfl (pgs_cons (pg_name (i := 1) scReqSched.nd rfl (.inl rfl)) (pgs_cons (pg_name (i := 2) scReqSched.nd rfl (.inl rfl)) pgs_nil)))
        (pss_one (ps_if (pt_not (pt_val (pe_cal c1 hr (pa_cons (pv 2) (pa_cons pe_int pa_nil))))) (pss_one ps_never) pss_nil)))), ?_⟩
    refine q_guard (et_or (a := false) (b := false) (et_not (a := true) (et_B (ev_isi2 (ev_var rfl) (eu_tup (ea_cons ev_c (ea_cons ev_c ea_nil)) (by decide)) (tx_lst ha) k_ll k_lt))) fun _ => et_test (ev_is (ev_op (ev_len (ev_var rfl) (.of ha)) ev_c rv_I0) ?_)) fun H1 e1 => ?_
    · have := S.len
      rw [decide_eq_false (by rw [List.length_map]; omega)]
    · refine s_forS2 (src_enum (ea_cons (ev_var rfl) ea_nil) (e1 a _ ha)) (fun i σ' => ∃ y z, σ' = [some (.ref a), y, z]) ⟨none, none, rfl⟩ (fun i x y σ' H0 H' hi hx hy hP e0 e' => ?_) fun σ' H' _ e' => k H' (e1.trans e')
      obtain ⟨_, _, rfl⟩ := hP
      obtain ⟨z, hz, rfl⟩ := get_int hy
      refine s_guard (et_not (a := true) (et_B (ev_is (ev_call (ea_cons (ev_var rfl) (ea_cons ev_c ea_nil)) (sp_atLeast z 2)) ?_))) fun H2 e2 => ⟨⟨_, _, rfl⟩, e'.trans e2⟩
      rw [decide_eq_true (S.two z (List.mem_of_getElem? hz))]
def spReqRounds : Sp := fun vs H Q _ => ∃ (a : Addr) (rs : List Int), vs = [.ref a] ∧ LI H a rs ∧ Sched rs ∧ rs ≠ [] ∧ RetV .non H Q
theorem sp_reqRounds {H : Hp} {a : Addr} {rs : List Int} (h : LI H a rs) (s : Sched rs) (n : rs ≠ []) : SpV spReqRounds [.ref a] H .non := fun H1 e Q q E => ⟨a, rs, rfl, e a _ h, s, n, q⟩
theorem scReqRounds : FnScope ["schedule"] ["schedule"] (defScope sReqRounds) := ⟨rfl, rfl, rfl, by decide +kernel, rfl, by decide +kernel, by decide +kernel⟩
theorem len_ne {xs : List Int} (n : xs ≠ []) : decide (V.int ((xs.map V.int).length : Int) = V.int 0) = false := by
  refine decide_eq_false fun h => n ?_
  have h := V.int.inj h
  rw [List.length_map] at h
  exact List.length_eq_zero_iff.mp (by omega)
theorem ok_reqRounds (F : Fun K "require_rounds" "require_rounds" sReqRounds f fd) (B : Bt mg) (c1 : Callee P w K mg base "require_schedule" ["schedule"] 3 spReqSched) : FnOk P w K mg base CX0 4 f fd ["schedule"] spReqRounds := by
  refine F.ok scReqRounds (fun vs H Q E h => ?_) (fun cdv A outer s H vs Q E hr h => ?_)
  · obtain ⟨a, rs, rfl, _⟩ := h
    rfl
  · obtain ⟨a, rs, rfl, ha, S, n, k⟩ := h
    refine ⟨_, pss_cons (ps_expr (pe_cal c1 hr (pa_cons (pv 0) pa_nil))) (pss_one (ps_if (pt_cmpR op_eq (pe_callB call_len_seq (by rfl) B.len PySem.boot_len (pa_cons (pv 0) pa_nil)) pe_int (nomark _)) (pss_one ps_never) pss_nil)), ?_⟩
    refine q_drop (ev_call (ea_cons (ev_var rfl) ea_nil) (sp_reqSched ha S)) fun H1 e1 => s_guard (et_test (ev_is (ev_op (ev_len (ev_var rfl) (.of (e1 a _ ha))) ev_c (rv_eq rfl)) (by rw [len_ne n]))) fun H2 e2 => k H2 (e1.trans e2)

/-! ### is_group, require_counts -/
structure Cnt (c : List Int) : Prop where
  pos : ∀ x ∈ c, 0 ≤ x
  len : c.length ≤ 100
theorem all_true : ∀ n : Nat, ((List.range n).map fun _ => true).all id = true := fun n => by
  rw [List.all_eq_true]
  intro b hb
  obtain ⟨_, _, rfl⟩ := List.mem_map.mp hb
  rfl
theorem map_bl (n : Nat) (f : Nat → Bool) : (List.range n).map (fun i => V.bl (f i)) = ((List.range n).map f).map V.bl := by rw [List.map_map]; rfl
/-- all(a list of tests that all hold) -/
theorem rc_all {K : PySem.W.Frag} {H : Hp} {D : Addr} {n : Nat} (h : H D = some (.lst ((List.range n).map fun _ => V.bl true))) : RC (rAll K) [.ref D] H (.bl true) := fun H1 e Q q =>
  ⟨D, (List.range n).map fun _ => true, rfl, .of (by rw [e D _ h, map_bl n fun _ => true]), by rw [all_true]; exact q H1 (Ex.refl _)⟩
def spIsGroup : Sp := fun vs H Q _ => ∃ (a : Addr) (c : List Int) (n : Int), vs = [.ref a, .int n] ∧ TuI H a c ∧ Cnt c ∧ n = c.length ∧ RetV (.bl true) H Q
theorem sp_isGroup {H : Hp} {a : Addr} {c : List Int} {n : Int} (h : TuI H a c) (s : Cnt c) (hn : n = c.length) : SpV spIsGroup [.ref a, .int n] H (.bl true) := fun H1 e Q q E => ⟨a, c, n, rfl, e a _ h, s, hn, q⟩
theorem scIsGroup : FnScope ["value", "length", "entry"] ["value", "length"] (defScope sIsGroup) := ⟨rfl, rfl, rfl, by decide +kernel, rfl, by decide +kernel, by decide +kernel⟩
theorem ok_isGroup (F : Fun K "is_group" "is_group" sIsGroup f fd) (B : Bt mg) (c1 : Callee P w K mg base "is_at_least" ["value", "low"] 2 spAtLeast) : FnOk P w K mg base CX0 3 f fd ["value", "length"] spIsGroup := by
  refine F.ok scIsGroup (fun vs H Q E h => ?_) (fun cdv A outer s H vs Q E hr h => ?_)
  · obtain ⟨a, c, n, rfl, _⟩ := h
    rfl
  · obtain ⟨a, c, n, rfl, ha, C, rfl, k⟩ := h
    refine ⟨_, pss_one (ps_ret (pe_and (pe_callB call_isi (by rfl) B.isi (by decide +kernel) (pa_cons (pv 0) (pa_cons (pe_bltn (v := .ty "tuple") (by rfl) B.tuple (by decide +kernel) rfl) pa_nil)))
      (pe_and (pe_cmpR op_eq (pe_callB call_len_seq (by rfl) B.len PySem.boot_len (pa_cons (pv 0) pa_nil)) (pv 1) (nomark _))
      (pe_one (pe_callB (cr_all rfl) (by rfl) B.all (by decide +kernel) (pa_cons (pe_lc (own := [("entry", 2)]) (g := gName 2) (tt := tYes) rfl scIsGroup.nd (pi_tup (pv 0)) (blkOk_by (N := ["value", "length", "entry"]) (sc := defScope sIsGroup) (by decide +kernel))
        (fun _ _ _ _ _ => pg_name (i := 2) scIsGroup.nd rfl (.inl rfl)) (fun _ _ _ _ _ => pts_nil) (fun _ _ _ _ _ => pe_cal c1 hr (pa_cons (pv 2) (pa_cons pe_int pa_nil)))) pa_nil)))))), ?_⟩
    refine s_ret (ev_andV (a := true) (b := true) (ev_cb (ea_cons (ev_var rfl) (ea_cons ev_c ea_nil)) (rc_isi (tx_tup ha) k_tt)) fun _ =>
      ev_andV (a := true) (b := true) (ev_is (ev_op (ev_lenT (ev_var rfl) (.of ha)) (ev_var rfl) (rv_eq rfl)) ?_) fun _ => ev_cb1P (evl_lc (fun _ => .bl true) (src_tup (ev_var rfl) (.of ha)) ?_ (fun _ => rfl) (fun i x H1 hi hx e1 => ?_)) fun v H1 e1 hv => ?_) k
    · rw [List.length_map, decide_eq_true rfl]
    · have := C.len
      rw [List.length_map]
      omega
    · obtain ⟨z, hz, rfl⟩ := get_int hx
      refine ev_is (ev_call (ea_cons (ev_var rfl) (ea_cons ev_c ea_nil)) (sp_atLeast z 0)) ?_
      rw [decide_eq_true (C.pos z (List.mem_of_getElem? hz))]
    · obtain ⟨D, rfl, hD⟩ := hv
      exact rc_all hD
def spReqCounts : Sp := fun vs H Q _ => ∃ (a : Addr) (c : List Int), vs = [.ref a] ∧ TuI H a c ∧ Cnt c ∧ RetV .non H Q
theorem sp_reqCounts {H : Hp} {a : Addr} {c : List Int} (h : TuI H a c) (s : Cnt c) : SpV spReqCounts [.ref a] H .non := fun H1 e Q q E => ⟨a, c, rfl, e a _ h, s, q⟩
theorem scReqCounts : FnScope ["counts"] ["counts"] (defScope sReqCounts) := ⟨rfl, rfl, rfl, by decide +kernel, rfl, by decide +kernel, by decide +kernel⟩
theorem ok_reqCounts (F : Fun K "require_counts" "require_counts" sReqCounts f fd) (B : Bt mg) (c1 : Callee P w K mg base "is_group" ["value", "length"] 3 spIsGroup) : FnOk P w K mg base CX0 4 f fd ["counts"] spReqCounts := by
  refine F.ok scReqCounts (fun vs H Q E h => ?_) (fun cdv A outer s H vs Q E hr h => ?_)
  · obtain ⟨a, c, rfl, _⟩ := h
    rfl
  · obtain ⟨a, c, rfl, ha, C, k⟩ := h
    refine ⟨_, pss_one (ps_if (PW.pt (pw_or (pt_not (pt_val (pe_callB call_isi (by rfl) B.isi (by decide +kernel) (pa_cons (pv 0) (pa_cons (pe_bltn (v := .ty "tuple") (by rfl) B.tuple (by decide +kernel) rfl) pa_nil)))))
        (pw_or (pt_cmpR op_gt (pe_callB call_len_seq (by rfl) B.len PySem.boot_len (pa_cons (pv 0) pa_nil)) (pe_mod B.mr) (nomark _))
        (pw_or1 (pt_not (pt_val (pe_cal c1 hr (pa_cons (pv 0) (pa_cons (pe_callB call_len_seq (by rfl) B.len PySem.boot_len (pa_cons (pv 0) pa_nil)) pa_nil))))))))) (pss_one ps_never) pss_nil), ?_⟩
    refine s_guard (et_or (a := false) (b := false) (et_not (a := true) (et_B (ev_cb (ea_cons (ev_var rfl) (ea_cons ev_c ea_nil)) (rc_isi (tx_tup ha) k_tt)))) fun _ =>
      et_or (a := false) (b := false) (et_test (ev_is (ev_op (ev_lenT (ev_var rfl) (.of ha)) ev_c rv_I0) ?_)) fun _ => et_not (a := true) (et_B (ev_call (ea_cons (ev_var rfl) (ea_cons (ev_lenT (ev_var rfl) (.of ha)) ea_nil)) (sp_isGroup ha C (by rw [List.length_map]))))) k
    have := C.len
    rw [decide_eq_false (by rw [List.length_map]; omega)]
/-! ### require_small_round -/
def spSmallRound : Sp := fun vs H Q _ => ∃ (a : Addr) (rs : List Int), vs = [.ref a] ∧ LI H a rs ∧ Sched rs ∧ rs ≠ [] ∧ RetV .non H Q
theorem sp_smallRound {H : Hp} {a : Addr} {rs : List Int} (h : LI H a rs) (s : Sched rs) (n : rs ≠ []) : SpV spSmallRound [.ref a] H .non := fun H1 e Q q E => ⟨a, rs, rfl, e a _ h, s, n, q⟩
theorem scSmallRound : FnScope ["schedule"] ["schedule"] (defScope sSmallRound) := ⟨rfl, rfl, rfl, by decide +kernel, rfl, by decide +kernel, by decide +kernel⟩
theorem ok_smallRound (F : Fun K "require_small_round" "require_small_round" sSmallRound f fd) (B : Bt mg) : FnOk P w K mg base CX0 1 f fd ["schedule"] spSmallRound := by
  refine F.ok scSmallRound (fun vs H Q E h => ?_) (fun cdv A outer s H vs Q E hr h => ?_)
  · obtain ⟨a, rs, rfl, _⟩ := h
    rfl
  · obtain ⟨a, rs, rfl, ha, S, n, k⟩ := h
    refine ⟨_, pss_one (ps_if (pt_cmpR op_gt (pe_ix ix_list (pv 0) pe_int (fun _ _ => rfl)) (pe_mod B.mgr) (nomark _)) (pss_one ps_never) pss_nil), ?_⟩
    obtain ⟨q, r, rfl⟩ : ∃ q r, rs = q :: r := by
      cases rs with
      | nil => exact absurd rfl n
      | cons q r => exact ⟨q, r, rfl⟩
    refine s_guard (et_test (ev_is (ev_op (ev_op (ev_var rfl) ev_c (rv_ixL (.of ha) (at_of (j := 0) rfl rfl))) ev_c rv_I0) ?_)) k
    have := S.five q List.mem_cons_self
    rw [decide_eq_false (by omega)]
/-! ### products -/
/-- the products of the first 0, 1, 2, .. entries -/
def prods (rs : List Int) : List Int := (List.range (rs.length + 1)).map (pp rs)
def spProducts : Sp := fun vs H Q _ => ∃ (a : Addr) (rs : List Int), vs = [.ref a] ∧ LI H a rs ∧ Sched rs ∧ RetL ((prods rs).map V.int) H Q
theorem sp_products {H : Hp} {a : Addr} {rs : List Int} (h : LI H a rs) (s : Sched rs) : SpL spProducts [.ref a] H ((prods rs).map V.int) := fun H1 e Q q E => ⟨a, rs, rfl, e a _ h, s, fun p H2 hp e2 h2 => q p H2 hp e2 h2⟩
theorem scProducts : FnScope ["schedule", "found", "entry"] ["schedule"] (defScope sProducts) := ⟨rfl, rfl, rfl, by decide +kernel, rfl, by decide +kernel, by decide +kernel⟩
theorem ok_products (F : Fun K "products" "products" sProducts f fd) : FnOk P w K mg base CX0 1 f fd ["schedule"] spProducts := by
  refine F.ok scProducts (fun vs H Q E h => ?_) (fun cdv A outer s H vs Q E hr h => ?_)
  · obtain ⟨a, rs, rfl, _⟩ := h
    rfl
  · obtain ⟨a, rs, rfl, ha, S, k⟩ := h
    refine ⟨_, pss_cons (ps_set (i := 1) scProducts.nd rfl (.inl rfl) (pe_lst (pa_cons pe_int pa_nil)))
      (pss_cons (ps_for PassesOwn.never rfl (pi_list (pv 0)) (pg_name (i := 2) scProducts.nd rfl (.inl rfl)) (pss_one (ps_expr (pe_bm PySem.F.plainAttrs_list PySem.F.slot_list_append PySem.F.type_list_append mt_append (pv 1)
          (pa_cons (pe_op op_mul (pe_ix ix_list (pv 1) (pe_un un_neg pe_int) (fun _ _ => rfl)) (pv 2)) pa_nil)))))
      (pss_one (ps_ret (pv 1)))), ?_⟩
    refine q_asgL (el_lst (ea_cons ev_c ea_nil) (by decide)) fun p H1 hp e1 h1 => ?_
    refine q_forLn (ev_var rfl) (.of (e1 a _ ha)) (fun i σ' H' => (∃ z, σ' = [some (.ref a), some (.ref p), z]) ∧ Ex H H' ∧ H' p = some (.lst (((List.range (i + 1)).map (pp rs)).map V.int)))
      (fun H2 e2 => ⟨⟨none, rfl⟩, e1.trans e2, ?_⟩) (fun i σ' H' _ h => .of (h.2.1 a _ ha)) (fun i x σ' H' hx h => ?_) (fun σ' H' h => ?_)
    · rw [e2 p _ h1]
      show some (HO.lst [.int 1]) = some (.lst [.int (pp rs 0)])
      rw [pp_zero]
    · obtain ⟨⟨z, rfl⟩, e', hP⟩ := h
      obtain ⟨y, hy, rfl⟩ := get_int hx
      have h2 := S.two y (List.mem_of_getElem? hy)
      have h5 := S.five y (List.mem_of_getElem? hy)
      have hlt := (List.getElem?_eq_some_iff.mp hy).1
      have hl := S.len
      refine s_app (v := .int (pp rs i * y)) hP (ev_var rfl) (ev_op (ev_op (ev_var rfl) (ev_un ev_c ru_neg) (rv_ixL (v := .int (pp rs i)) (.of hP) ?_)) (ev_var rfl) (rv_I (.inr ⟨by omega, by omega⟩))) (by simp; omega) fun H2 e2 => ⟨⟨_, rfl⟩, ?_, ?_⟩
      · rw [List.range_succ, List.map_append, List.map_append]
        exact atI_last _ _
      · exact Ex.mut (e'.trans e2) hp
      · rw [upd_same, List.range_succ (n := i + 1), List.map_append, List.map_append]
        show _ = some (HO.lst (_ ++ [V.int (pp rs (i + 1))]))
        rw [pp_succ hy]
    · obtain ⟨⟨z, rfl⟩, e', hP⟩ := h
      refine s_ret (ev_var rfl) fun H2 e2 => k p H2 hp (e'.trans e2) ?_
      rw [e2 p _ hP, List.length_map]
      rfl
/-! ### climbed -/
def CliP (c : List Int) (v : V) (H2 : Hp) : Prop := ∃ p t : Addr, v = .ref p ∧ H2 p = some (.tup [.int (hd0 c), .ref t]) ∧ TuI H2 t (shift c)
def spClimbed : Sp := fun vs H Q _ => ∃ (a : Addr) (c : List Int), vs = [.ref a] ∧ TuI H a c ∧ Cnt c ∧ RetP (CliP c) H Q
theorem sp_climbed {H : Hp} {a : Addr} {c : List Int} (h : TuI H a c) (s : Cnt c) : SpP spClimbed [.ref a] H (CliP c) := fun H1 e Q q E => ⟨a, c, rfl, e a _ h, s, q⟩
theorem scClimbed : FnScope ["group"] ["group"] (defScope sClimbed) := ⟨rfl, rfl, rfl, by decide +kernel, rfl, by decide +kernel, by decide +kernel⟩
theorem ok_climbed (F : Fun K "climbed" "climbed" sClimbed f fd) (B : Bt mg) : FnOk P w K mg base CX0 1 f fd ["group"] spClimbed := by
  refine F.ok scClimbed (fun vs H Q E h => ?_) (fun cdv A outer s H vs Q E hr h => ?_)
  · obtain ⟨a, c, rfl, _⟩ := h
    rfl
  · obtain ⟨a, c, rfl, ha, C, k⟩ := h
    refine ⟨_, pss_one (ps_ret (pe_ifExp (pt_cmpR op_gt (pe_callB call_len_seq (by rfl) B.len PySem.boot_len (pa_cons (pv 0) pa_nil)) pe_int (nomark _))
      (pe_tup (pa_cons (pe_ix ix_tup (pv 0) pe_int (fun _ _ => rfl)) (pa_cons (pe_op op_catA (pe_slice sl_tupA (pv 0) (po_some pe_int) po_none) (pe_tup (pa_cons pe_int pa_nil))) pa_nil)))
      (pe_tup (pa_cons pe_int (pa_cons (pe_tup pa_nil) pa_nil))))), ?_⟩
    cases c with
    | nil =>
      refine ⟨.ref a, rfl, a, _, rfl, .inr (.of ha), _, 0, rfl, rfl, _, rfl, ?_⟩
      refine iteF ⟨Nat.zero_le _, fun t ht => ⟨show 2 ≤ sizeLine by decide, fun p hp => ?_⟩⟩
      refine k _ _ ((Ex.new ht).trans (Ex.new hp)) ⟨p, t, rfl, upd_same, ?_⟩
      have : p ≠ t := fun e => by rw [e, upd_same] at hp; cases hp
      rw [TuI, upd_ne this.symm, upd_same]
      rfl
    | cons x cs =>
      have hcl := C.len
      refine ⟨.ref a, rfl, a, _, rfl, .inr (.of ha), _, 0, rfl, rfl, _, rfl, ?_⟩
      rw [decide_eq_true (by simp)]
      refine iteT ⟨.ref a, rfl, a, _, 0, .int x, rfl, rfl, .of ha, at_of (j := 0) rfl rfl, ?_⟩
      have e1 : HT.sIx ((x :: cs).map V.int).length 0 (some 1) = 1 := by
        rw [show HT.sIx ((x :: cs).map V.int).length 0 (some 1) = min 1 _ from HT.sIx_nat _ 0 1]
        simp
      have ec : cutV ((x :: cs).map V.int) (some 1) none = cs.map V.int := by
        unfold cutV
        rw [e1, HT.sIx_none]
        exact List.take_of_length_le (by simp)
      refine ⟨.ref a, rfl, 1, rfl, a, _, rfl, .of ha, fun z => absurd z.1 (by rw [e1]; decide), fun _ t ht => ?_⟩
      rw [ec]
      refine ⟨by decide, fun u hu => ?_⟩
      have ut : u ≠ t := fun e => by rw [e, upd_same] at hu; cases hu
      have ht2 : (upd (upd H t (.tup (cs.map V.int))) u (.tup [.int 0])) t = some (.tup (cs.map V.int)) := by rw [upd_ne ut.symm, upd_same]
      refine ⟨t, u, _, _, rfl, rfl, .of ht2, .of upd_same, sz_of (by simp at hcl ⊢; omega), fun z => ?_, fun _ z => absurd z (List.cons_ne_nil _ _), fun z _ r hr' => ?_⟩
      · have z : cs = [] := List.map_eq_nil_iff.mp z
        subst z
        refine ⟨show 2 ≤ sizeLine by decide, fun p hp => k _ _ (((Ex.new ht).trans (Ex.new hu)).trans (Ex.new hp)) ⟨p, u, rfl, upd_same, ?_⟩⟩
        have : p ≠ u := fun e => by rw [e, upd_same] at hp; cases hp
        rw [TuI, upd_ne this.symm, upd_same]
        rfl
      · refine ⟨show 2 ≤ sizeLine by decide, fun p hp => k _ _ ((((Ex.new ht).trans (Ex.new hu)).trans (Ex.new hr')).trans (Ex.new hp)) ⟨p, r, rfl, upd_same, ?_⟩⟩
        have : p ≠ r := fun e => by rw [e, upd_same] at hp; cases hp
        rw [TuI, upd_ne this.symm, upd_same]
        show some (HO.tup (cs.map V.int ++ [.int 0])) = some (.tup ((cs ++ [0]).map V.int))
        rw [List.map_append]
        rfl
end
end SC

/-! ## ScA2 -/
/-! require_split. -/
namespace SC
open PySem PySem.Spec PyProof.Rows L2 Evl
theorem range_getD (c : List Int) : (List.range c.length).map (fun i => c.getD i 0) = c := by
  apply List.ext_getElem
  · simp
  · intro i h1 h2
    simp [List.getD_eq_getElem?_getD, h2]
theorem range_getL (gs : List (List Int)) : (List.range gs.length).map (fun i => gs.getD i []) = gs := by
  apply List.ext_getElem
  · simp
  · intro i h1 h2
    simp [List.getD_eq_getElem?_getD, h2]
theorem map_int (n : Nat) (f : Nat → Int) : (List.range n).map (fun i => V.int (f i)) = ((List.range n).map f).map V.int := by rw [List.map_map]; rfl
theorem getD_of {α : Type} {l : List α} {j : Nat} {x d : α} (h : l[j]? = some x) : l.getD j d = x := by
  rw [List.getD_eq_getElem?_getD, h]
  rfl
theorem int_at {g : List Int} {i : Nat} (h : i < g.length) : (g.map V.int)[i]? = some (.int (g.getD i 0)) := by
  rw [List.getElem?_map, List.getD_eq_getElem?_getD, List.getElem?_eq_getElem h]
  rfl
/-- a split at an address: a list of tuples of numbers -/
def SplH (H : Hp) (a : Addr) (gs : List (List Int)) : Prop := ∃ rs : List Addr, H a = some (.lst (rs.map V.ref)) ∧ rs.length = gs.length ∧ ∀ (i : Nat) (r : Addr) (g : List Int), rs[i]? = some r → gs[i]? = some g → TuI H r g
theorem SplH.up {H H' : Hp} {a : Addr} {gs : List (List Int)} (h : SplH H a gs) (e : Ex H H') : SplH H' a gs := by
  obtain ⟨rs, h1, h2, h3⟩ := h
  exact ⟨rs, e a _ h1, h2, fun i r g hr hg => e r _ (h3 i r g hr hg)⟩
theorem get_ref {rs : List Addr} {i : Nat} {x : V} (h : (rs.map V.ref)[i]? = some x) : ∃ r, rs[i]? = some r ∧ x = .ref r := by
  rw [List.getElem?_map] at h
  cases e : rs[i]? with
  | none => rw [e] at h; cases h
  | some r => rw [e] at h; exact ⟨r, rfl, (Option.some.inj h).symm⟩
abbrev sReqSplit' : Stmt := sReqSplit
section
variable {P : Program} {w : World} {K : PySem.W.Frag} {mg : Str → Option Value} {base : Heap} {f : Addr} {fd : FuncData}
def spReqSplit : Sp := fun vs H Q _ => ∃ (a b d : Addr) (q : Int) (r c : List Int) (gs : List (List Int)), vs = [.ref a, .ref b, .ref d] ∧ LI H a (q :: r) ∧ Sched (q :: r) ∧ TuI H b c ∧ Cnt c ∧ SplH H d gs ∧ IsSplit q c gs ∧ RetV .non H Q
theorem sp_reqSplit {H : Hp} {a b d : Addr} {q : Int} {r c : List Int} {gs : List (List Int)} (ha : LI H a (q :: r)) (S : Sched (q :: r)) (hb : TuI H b c) (C : Cnt c) (hd : SplH H d gs) (sp : IsSplit q c gs) : SpV spReqSplit [.ref a, .ref b, .ref d] H .non :=
  fun H1 e Q k E => ⟨a, b, d, q, r, c, gs, rfl, e a _ ha, S, e b _ hb, C, hd.up e, sp, k⟩
theorem scReqSplit : FnScope ["schedule", "counts", "split", "index", "group"] ["schedule", "counts", "split"] (defScope sReqSplit) := ⟨rfl, rfl, rfl, by decide +kernel, rfl, by decide +kernel, by decide +kernel⟩
theorem ok_reqSplit (F : Fun K "require_split" "require_split" sReqSplit f fd) (B : Bt mg) (c1 : Callee P w K mg base "require_rounds" ["schedule"] 4 spReqRounds) (c2 : Callee P w K mg base "require_counts" ["counts"] 4 spReqCounts) (c3 : Callee P w K mg base "require_small_round" ["schedule"] 1 spSmallRound)
    (c4 : Callee P w K mg base "is_group" ["value", "length"] 3 spIsGroup) : FnOk P w K mg base CX0 5 f fd ["schedule", "counts", "split"] spReqSplit := by
  refine F.ok scReqSplit (fun vs H Q E h => ?_) (fun cdv A outer s H vs Q E hr h => ?_)
  · obtain ⟨a, b, d, q, r, c, gs, rfl, _⟩ := h
    rfl
  · obtain ⟨a, b, d, q, r, c, gs, rfl, ha, S, hb, C, hd, sp, k⟩ := h
    refine ⟨_, pss_cons (ps_expr (pe_cal c1 hr (pa_cons (pv 0) pa_nil))) (pss_cons (ps_expr (pe_cal c2 hr (pa_cons (pv 1) pa_nil))) (pss_cons (ps_expr (pe_cal c3 (hr.mono (by decide)) (pa_cons (pv 0) pa_nil)))
      (pss_cons (ps_if (PW.pt (pw_or (pt_not (pt_val (pe_callB call_isi (by rfl) B.isi (by decide +kernel) (pa_cons (pv 2) (pa_cons (pe_bltn (v := .ty "list") (by rfl) B.list (by decide +kernel) rfl) pa_nil)))))
        (pw_or1 (pt_cmpR op_ne (pe_callB call_len_seq (by rfl) B.len PySem.boot_len (pa_cons (pv 2) pa_nil)) (pe_ix ix_list (pv 0) pe_int (fun _ _ => rfl)) (nomark _))))) (pss_one ps_never) pss_nil)
      (pss_cons (ps_for PassesOwn.never rfl (pi_enum (by rfl) B.enum (pa_cons (pv 2) pa_nil)) (pg_tup rfl (pgs_cons (pg_name (i := 3) scReqSplit.nd rfl (.inl rfl)) (pgs_cons (pg_name (i := 4) scReqSplit.nd rfl (.inl rfl)) pgs_nil)))
        (pss_one (ps_if (pt_not (pt_val (pe_cal c4 (hr.mono (by decide)) (pa_cons (pv 4) (pa_cons (pe_callB call_len_seq (by rfl) B.len PySem.boot_len (pa_cons (pv 1) pa_nil)) pa_nil))))) (pss_one ps_never) pss_nil)))
      (pss_one (ps_if (pt_cmpR (op_neD hr.units)
          (pe_lc (own := [("index", 3)]) (g := gName 3) (tt := tYes) rfl scReqSplit.nd (pi_range1 (by rfl) B.range (pa_cons (pe_callB call_len_seq (by rfl) B.len PySem.boot_len (pa_cons (pv 1) pa_nil)) pa_nil)) (blkOk_by (N := ["schedule", "counts", "split", "index", "group"]) (sc := defScope sReqSplit) (by decide +kernel))
            (fun _ _ _ _ _ => pg_name (i := 3) scReqSplit.nd rfl (.inr rfl)) (fun _ _ _ _ _ => pts_nil)
            (fun _ _ _ _ _ => pe_callB (cr_sumK K rfl) (by rfl) B.sum (by decide +kernel) (pa_cons (pe_lc (own := [("group", 4)]) (g := gName 4) (tt := tYes) rfl scReqSplit.nd (pi_listK K (pv 2)) (blkOk_by (by rfl))
              (fun _ _ _ _ _ => pg_name (i := 4) scReqSplit.nd rfl (.inl rfl)) (fun _ _ _ _ _ => pts_nil) (fun _ _ _ _ _ => pe_ix (ix_tupK K) (pv 4) (pv 3) (fun _ _ => rfl))) pa_nil)))
          (pe_callTy call_list_of (by rfl) B.list (by decide +kernel) (pa_cons (pv 1) pa_nil)) (nomark _)) (pss_one ps_never) pss_nil)))))), ?_⟩
    obtain ⟨rs, hd1, hd2, hd3⟩ := id hd
    refine q_drop (ev_call (ea_cons (ev_var rfl) ea_nil) (sp_reqRounds ha S (List.cons_ne_nil _ _))) fun H1 e1 => ?_
    refine q_drop (ev_call (ea_cons (ev_var rfl) ea_nil) (sp_reqCounts (e1 _ _ hb) C)) fun H2 e2 => ?_
    have e2 := e1.trans e2
    refine q_drop (ev_call (ea_cons (ev_var rfl) ea_nil) (sp_smallRound (e2 _ _ ha) S (List.cons_ne_nil _ _))) fun H3 e3 => ?_
    have e3 := e2.trans e3
    have hq := S.two q List.mem_cons_self
    have hq5 := S.five q List.mem_cons_self
    refine q_guard (et_or (a := false) (b := false) (et_not (a := true) (et_B (ev_cb (ea_cons (ev_var rfl) (ea_cons ev_c ea_nil)) (rc_isi (tx_lst (e3 _ _ hd1)) k_ll)))) fun _ =>
      et_test (ev_is (ev_op (ev_len (ev_var rfl) (.of (e3 _ _ hd1))) (ev_op (ev_var rfl) ev_c (rv_ixL (v := .int q) (.of (e3 _ _ ha)) (at_of (j := 0) rfl rfl))) (rv_ne rfl)) ?_)) fun H4 e4 => ?_
    · rw [List.length_map, hd2, sp.len]
      simp
    have e4 := e3.trans e4
    refine q_forS2 (src_enum (ea_cons (ev_var rfl) ea_nil) (e4 _ _ hd1)) (fun i σ' => ∃ y z, σ' = [some (.ref a), some (.ref b), some (.ref d), y, z]) ⟨none, none, rfl⟩ (fun i x y σ' H0 H' hi hx hy hP e0 e' => ?_) fun σ' H5 hσ e5 => ?_
    · obtain ⟨_, _, rfl⟩ := hP
      obtain ⟨r', hr', rfl⟩ := get_ref hy
      have hlt := (List.getElem?_eq_some_iff.mp hr').1
      have hg : gs[i]? = some gs[i] := List.getElem?_eq_getElem (by omega)
      have hT := ((e4.trans e0).trans e') _ _ (hd3 i r' _ hr' hg)
      obtain ⟨g1, g2⟩ := sp.row gs[i] (List.getElem_mem (by omega))
      refine s_guard (et_not (a := true) (et_B (ev_call (ea_cons (ev_var rfl) (ea_cons (ev_lenT (ev_var rfl) (.of (((e4.trans e0).trans e') _ _ hb))) ea_nil)) (sp_isGroup hT ⟨g2, by rw [g1]; exact C.len⟩ (by rw [List.length_map, g1]))))) fun H6 e6 => ⟨⟨_, _, rfl⟩, e'.trans e6⟩
    · obtain ⟨y, z, rfl⟩ := hσ
      have e5 := e4.trans e5
      have hcl := C.len
      have hgl : gs.length ≤ 5 := by have := sp.len; omega
      refine s_guard (et_test (ev_opPP (P' := fun v H2 => ∃ D, v = .ref D ∧ LI H2 D c) (evl_lc (fun i => .int (c.getD i 0)) (src_rng1 (n := c.length) (ea_cons (ev_is (ev_lenT (ev_var rfl) (.of (e5 _ _ hb))) (by rw [List.length_map])) ea_nil) (by omega)) (by omega) (fun _ => rfl) (fun i x H6 hi hx e6 => ?_))
        (evp_l (xs := c.map V.int) (fun H6 e6 Q' q' => ⟨_, rfl, b, _, rfl, .inr (.of (e6 _ _ (e5 _ _ hb))), fun l hl => q' l _ hl (Ex.new hl) upd_same⟩) fun p H2 _ hp => ⟨p, rfl, hp⟩) ?_ ?_)) fun H6 e6 => k H6 (e5.trans e6)
      · subst hx
        have e6 := e5.trans e6
        refine ev_cb1P (evl_lc (fun j => .int ((gs.getD j []).getD i 0)) (src_list (ev_var rfl) (e6 _ _ hd1)) (by rw [List.length_map]; omega) (fun _ => rfl) (fun j x H7 hj hx e7 => ?_)) fun v H7 e7 hv => ?_
        · obtain ⟨r', hr', rfl⟩ := get_ref hx
          have hlt := (List.getElem?_eq_some_iff.mp hr').1
          have hg : gs[j]? = some gs[j] := List.getElem?_eq_getElem (by omega)
          have hT := (e6.trans e7) _ _ (hd3 j r' _ hr' hg)
          obtain ⟨g1, g2⟩ := sp.row gs[j] (List.getElem_mem (by omega))
          refine ev_op (ev_var rfl) (ev_var rfl) (rv_ixT (.of hT) (at_of (j := i) rfl ?_))
          rw [getD_of hg]
          exact int_at (by rw [g1]; exact hi)
        · obtain ⟨D, rfl, hD⟩ := hv
          refine fun H8 e8 Q' q' => ⟨D, (List.range (rs.map V.ref).length).map fun j => (gs.getD j []).getD i 0, rfl, .of (by rw [e8 _ _ hD, map_int]), ?_⟩
          have : ((List.range (rs.map V.ref).length).map fun j => (gs.getD j []).getD i 0).sum = c.getD i 0 := by
            rw [List.length_map, hd2, ← sp.col i]
            have := sum_groups (fun g => g.getD i 0) gs gs.length rfl
            rw [Int.toNat_natCast] at this
            exact this
          rw [this]
          exact q' H8 (Ex.refl _)
      · rintro v w H7 e7 ⟨D, rfl, hD⟩ ⟨D2, rfl, hD2⟩
        rw [map_int, range_getD] at hD
        exact rv_neInts hD hD2
      · rintro v H7 H8 e8 ⟨D, rfl, hD⟩
        exact ⟨D, rfl, e8 _ _ hD⟩
end
end SC

/-! ## ScBase4 -/
/-! Loops over pairs that write, items written in place, three names at once. -/
namespace SC
open PySem PySem.Spec PyProof.Rows L2 Evl
section
variable {K : PySem.W.Frag} {σ : L2.St} {H : Hp} {ta : TA} {te to ti : TE} {tu tz : TS} {D : Ends} {a b : Addr} {xs ys : List V} {x y z v : V}
theorem q_unp3 {i j l : Nat} (h : Ev te σ H (.ref a)) (hx : H a = some (.tup [x, y, z])) (k : ∀ H1, Ex H H1 → tz D (((σ.set i (some x)).set j (some y)).set l (some z)) H1) :
    tSeq (tAsg te (gTup K 3 (gCons (gName i) (gCons (gName j) (gCons (gName l) gNil))))) tz D σ H :=
  h H (Ex.refl H) _ fun H1 e1 => ⟨a, [x, y, z], rfl, .of (e1 _ _ hx), rfl, x, _, rfl, y, _, rfl, z, _, rfl, rfl, k H1 e1⟩
theorem g_tup3 {i j l : Nat} {Q : L2.St → Hp → Prop} (hx : H a = some (.tup [x, y, z])) (k : Q (((σ.set i (some x)).set j (some y)).set l (some z)) H) : gTup K 3 (gCons (gName i) (gCons (gName j) (gCons (gName l) gNil))) (.ref a) σ H Q :=
  ⟨a, [x, y, z], rfl, .of hx, rfl, x, _, rfl, y, _, rfl, z, _, rfl, rfl, k⟩
/-- a, b = a pair just made -/
theorem q_unp2P {i j : Nat} {P : V → Hp → Prop} (h : EvP te σ H P) (hx : ∀ v H1, Ex H H1 → P v H1 → ∃ (p : Addr) (x y : V), v = .ref p ∧ H1 p = some (.tup [x, y]) ∧ tz D ((σ.set i (some x)).set j (some y)) H1) :
    tSeq (tAsg te (gTup K 2 (gCons (gName i) (gCons (gName j) gNil)))) tz D σ H :=
  h H (Ex.refl H) _ fun v H1 e1 hv => by
    obtain ⟨p, x, y, rfl, hp, k⟩ := hx v H1 e1 hv
    exact ⟨p, [x, y], rfl, .of hp, rfl, x, _, rfl, y, _, rfl, rfl, k⟩
/-- for a, b in zip(l1, l2, strict=False), the body writes -/
theorem q_forZ {j l n : Nat} (h : EvA ta σ H [.ref a, .ref b]) (ha : H a = some (.lst xs)) (hb : H b = some (.lst ys)) (hn : n = min xs.length ys.length) (Pv : Nat → L2.St → Hp → Prop) (h0 : ∀ H1, Ex H H1 → Pv 0 σ H1)
    (hl : ∀ i σ' H', i ≤ n → Pv i σ' H' → H' a = some (.lst xs) ∧ H' b = some (.lst ys))
    (hs : ∀ i x y σ' H', i < n → xs[i]? = some x → ys[i]? = some y → Pv i σ' H' → ∀ H2, Ex H' H2 → tu { D with nx := Pv (i + 1), ct := Pv (i + 1), bk := tz D } ((σ'.set j (some x)).set l (some y)) H2) (hd : ∀ σ' H', Pv n σ' H' → tz D σ' H') :
    tSeq (tFor (SCZ.iZipKw K false ta) (gTup K 2 (gCons (gName j) (gCons (gName l) gNil))) tu) tz D σ H :=
  h H (Ex.refl H) _ fun H1 e1 => ⟨a, b, xs, ys, rfl, .of (e1 _ _ ha), .of (e1 _ _ hb), fun z => (nomatch z), fun _ => for_it (D := { D with nx := tz D }) (walk_zip hn) Pv (h0 H1 e1) (fun i σ' H' hi p => ⟨.of (hl i σ' H' hi p).1, .of (hl i σ' H' hi p).2⟩) (fun i v σ' H' H'' hi p y => by
    obtain ⟨T, x, y, rfl, hT, rfl, hx, hy⟩ := y
    exact ⟨T, [x, y], rfl, .of upd_same, rfl, x, [y], rfl, y, [], rfl, rfl, hs i x y σ' H' hi hx hy p _ (Ex.new hT)⟩) hd⟩
/-- for i, x in enumerate(l), the body writes -/
theorem q_forE {j l : Nat} (h : EvA ta σ H [.ref a]) (ha : H a = some (.lst xs)) (Pv : Nat → L2.St → Hp → Prop) (h0 : ∀ H1, Ex H H1 → Pv 0 σ H1) (hl : ∀ i σ' H', i ≤ xs.length → Pv i σ' H' → H' a = some (.lst xs))
    (hs : ∀ i x σ' H', xs[i]? = some x → Pv i σ' H' → ∀ H2, Ex H' H2 → tu { D with nx := Pv (i + 1), ct := Pv (i + 1), bk := tz D } ((σ'.set j (some (.int (i : Nat)))).set l (some x)) H2) (hd : ∀ σ' H', Pv xs.length σ' H' → tz D σ' H') :
    tSeq (tFor (iEnum K ta) (gTup K 2 (gCons (gName j) (gCons (gName l) gNil))) tu) tz D σ H :=
  h H (Ex.refl H) _ fun H1 e1 => ⟨a, xs, rfl, .of (e1 _ _ ha), for_it (D := { D with nx := tz D }) walk_enum Pv (h0 H1 e1) (fun i σ' H' hi p => .of (hl i σ' H' hi p)) (fun i v σ' H' H'' hi p y => by
    obtain ⟨T, x, y, rfl, hT, rfl, hx, hy⟩ := y
    cases hx
    exact ⟨T, [.int (i : Nat), y], rfl, .of upd_same, rfl, _, [y], rfl, y, [], rfl, rfl, hs i y σ' H' hy p _ (Ex.new hT)⟩) hd⟩
theorem s_forE {j l : Nat} (h : EvA ta σ H [.ref a]) (ha : H a = some (.lst xs)) (Pv : Nat → L2.St → Hp → Prop) (h0 : ∀ H1, Ex H H1 → Pv 0 σ H1) (hl : ∀ i σ' H', i ≤ xs.length → Pv i σ' H' → H' a = some (.lst xs))
    (hs : ∀ i x σ' H', xs[i]? = some x → Pv i σ' H' → ∀ H2, Ex H' H2 → tu { D with nx := Pv (i + 1), ct := Pv (i + 1), bk := D.nx } ((σ'.set j (some (.int (i : Nat)))).set l (some x)) H2) (hd : ∀ σ' H', Pv xs.length σ' H' → D.nx σ' H') :
    tFor (iEnum K ta) (gTup K 2 (gCons (gName j) (gCons (gName l) gNil))) tu D σ H :=
  h H (Ex.refl H) _ fun H1 e1 => ⟨a, xs, rfl, .of (e1 _ _ ha), for_it walk_enum Pv (h0 H1 e1) (fun i σ' H' hi p => .of (hl i σ' H' hi p)) (fun i v σ' H' H'' hi p y => by
    obtain ⟨T, x, y, rfl, hT, rfl, hx, hy⟩ := y
    cases hx
    exact ⟨T, [.int (i : Nat), y], rfl, .of upd_same, rfl, _, [y], rfl, y, [], rfl, rfl, hs i y σ' H' hy p _ (Ex.new hT)⟩) hd⟩
/-- .. of a list just made -/
theorem q_forEN {j l : Nat} {P : V → Hp → Prop} (h : EvP te σ H P) (hP : ∀ v H1, P v H1 → ∃ p, v = .ref p ∧ H1 p = some (.lst xs)) (Pv : Addr → Nat → L2.St → Hp → Prop) (h0 : ∀ p H1, Ex H H1 → H1 p = some (.lst xs) → Pv p 0 σ H1) (hl : ∀ p i σ' H', i ≤ xs.length → Pv p i σ' H' → H' p = some (.lst xs))
    (hs : ∀ p i x σ' H', xs[i]? = some x → Pv p i σ' H' → ∀ H2, Ex H' H2 → tu { D with nx := Pv p (i + 1), ct := Pv p (i + 1), bk := tz D } ((σ'.set j (some (.int (i : Nat)))).set l (some x)) H2) (hd : ∀ p σ' H', Pv p xs.length σ' H' → tz D σ' H') :
    tSeq (tFor (iEnum K (tCons te tNil)) (gTup K 2 (gCons (gName j) (gCons (gName l) gNil))) tu) tz D σ H :=
  h H (Ex.refl H) _ fun v H1 e1 hv => by
    obtain ⟨p, rfl, hp⟩ := hP v H1 hv
    exact ⟨p, xs, rfl, .of hp, for_it (D := { D with nx := tz D }) walk_enum (Pv p) (h0 p H1 e1 hp) (fun i σ' H' hi q => .of (hl p i σ' H' hi q)) (fun i v σ' H' H'' hi q y => by
      obtain ⟨T, x, y, rfl, hT, rfl, hx, hy⟩ := y
      cases hx
      exact ⟨T, [.int (i : Nat), y], rfl, .of upd_same, rfl, _, [y], rfl, y, [], rfl, rfl, hs p i y σ' H' hy q _ (Ex.new hT)⟩) (hd p)⟩
/-- for i, x in enumerate(t), t a tuple, the body writes -/
theorem q_forEt {j l : Nat} (h : EvA ta σ H [.ref a]) (ha : H a = some (.tup xs)) (Pv : Nat → L2.St → Hp → Prop) (h0 : ∀ H1, Ex H H1 → Pv 0 σ H1) (hl : ∀ i σ' H', i ≤ xs.length → Pv i σ' H' → H' a = some (.tup xs))
    (hs : ∀ i x σ' H', xs[i]? = some x → Pv i σ' H' → ∀ H2, Ex H' H2 → tu { D with nx := Pv (i + 1), ct := Pv (i + 1), bk := tz D } ((σ'.set j (some (.int (i : Nat)))).set l (some x)) H2) (hd : ∀ σ' H', Pv xs.length σ' H' → tz D σ' H') :
    tSeq (tFor (SCR.iEnumT K ta) (gTup K 2 (gCons (gName j) (gCons (gName l) gNil))) tu) tz D σ H :=
  h H (Ex.refl H) _ fun H1 e1 => ⟨a, xs, rfl, .of (e1 _ _ ha), for_it (D := { D with nx := tz D }) walk_enumT Pv (h0 H1 e1) (fun i σ' H' hi p => .of (hl i σ' H' hi p)) (fun i v σ' H' H'' hi p y => by
    obtain ⟨T, x, y, rfl, hT, rfl, hx, hy⟩ := y
    cases hx
    exact ⟨T, [.int (i : Nat), y], rfl, .of upd_same, rfl, _, [y], rfl, y, [], rfl, rfl, hs i y σ' H' hy p _ (Ex.new hT)⟩) hd⟩
/-- l[j] += e -/
theorem s_augL {l : Addr} {j : Nat} {m n : Int} (ho : Ev to σ H (.ref l)) (hi : Ev ti σ H (.int (j : Int))) (he : Ev te σ H (.int n)) (hl : H l = some (.lst xs)) (hj : xs[j]? = some (.int m)) (k : ∀ H1, Ex H H1 → D.nx σ (upd H1 l (.lst (xs.set j (.int (m + n)))))) :
    tAugS to ti te (SCR.rGetN K) (ipI fun i j => i + j) rSetL D σ H :=
  ho H (Ex.refl H) _ fun H1 e1 => hi H1 e1 _ fun H2 e2 => ⟨l, xs, j, .int m, rfl, rfl, .of (e2 _ _ (e1 _ _ hl)), hj, he H2 (e1.trans e2) _ fun H3 e3 =>
    ⟨m, n, rfl, rfl, l, xs, (j : Int), j, rfl, rfl, e3 _ _ (e2 _ _ (e1 _ _ hl)), ixN_nat (List.getElem?_eq_some_iff.mp hj).1, k H3 ((e1.trans e2).trans e3)⟩⟩
/-- a, b = x, y -/
theorem q_par {i j : Nat} (h : EvA ta σ H [x, y]) (k : ∀ H1, Ex H H1 → tz D ((σ.set i (some x)).set j (some y)) H1) : tSeq (tPar i j ta) tz D σ H :=
  h H (Ex.refl H) _ fun H1 e1 => ⟨x, y, rfl, k H1 e1⟩
theorem ev_div {tb : TE} {i j : Int} (ha : Ev te σ H (.int i)) (hb : Ev tb σ H (.int j)) (h0 : 0 < j) (h1 : j < 1073741824) : Ev (tOp (rI CDiv fun i j => .int (i / j)) te tb) σ H (.int (i / j)) := ev_op ha hb (rv_I ⟨h0, h1⟩)
theorem ev_mod {tb : TE} {i j : Int} (ha : Ev te σ H (.int i)) (hb : Ev tb σ H (.int j)) (h0 : 0 < j) : Ev (tOp (rI (fun _ j => 0 < j) fun i j => .int (i % j)) te tb) σ H (.int (i % j)) := ev_op ha hb (rv_I h0)
theorem ev_mulR {tb : TE} {i j : Int} (ha : Ev te σ H (.int i)) (hb : Ev tb σ H (.int j)) (h0 : -1000000 < j) (h1 : j < 1000000) : Ev (tOp (rI CMul fun i j => .int (i * j)) te tb) σ H (.int (i * j)) := ev_op ha hb (rv_I (.inr ⟨by omega, by omega⟩))
theorem ev_add {tb : TE} {i j : Int} (ha : Ev te σ H (.int i)) (hb : Ev tb σ H (.int j)) : Ev (tOp (rI0 fun i j => .int (i + j)) te tb) σ H (.int (i + j)) := ev_op ha hb rv_I0
theorem ev_sub {tb : TE} {i j : Int} (ha : Ev te σ H (.int i)) (hb : Ev tb σ H (.int j)) : Ev (tOp (rI0 fun i j => .int (i - j)) te tb) σ H (.int (i - j)) := ev_op ha hb rv_I0
def rMin2 : List V → Hp → VK → Prop := fun xs H Q => ∃ i j, xs = [.int i, .int j] ∧ Q (.int (if j < i then j else i)) H
theorem ev_max {tb : TE} {i j : Int} (ha : Ev te σ H (.int i)) (hb : Ev tb σ H (.int j)) : Ev (tCB rMax2 (tCons te (tCons tb tNil))) σ H (.int (max i j)) := ev_is (ev_max2 ha hb) (by congr 1; omega)
theorem ev_min {tb : TE} {i j : Int} (ha : Ev te σ H (.int i)) (hb : Ev tb σ H (.int j)) : Ev (tCB rMin2 (tCons te (tCons tb tNil))) σ H (.int (min i j)) := fun H1 e Q q =>
  ha H1 e _ fun H2 e2 => hb H2 (e.trans e2) _ fun H3 e3 => ⟨i, j, rfl, by rw [show (if j < i then j else i) = min i j by omega]; exact q H3 (e2.trans e3)⟩
theorem ev_ixI {tb : TE} {zs : List Int} {i : Int} {j : Nat} {m : Int} (ha : Ev te σ H (.ref a)) (hb : Ev tb σ H (.int i)) (h : LI H a zs) (e : i = (j : Int)) (hj : zs[j]? = some m) : Ev (tOp (rIxL K) te tb) σ H (.int m) :=
  ev_op ha hb (rv_ixL (.of h) (at_of e (by rw [List.getElem?_map, hj]; rfl)))
theorem ev_lenI {zs : List Int} (ha : Ev te σ H (.ref a)) (h : LI H a zs) : Ev (tCB (rLenS K) (tCons te tNil)) σ H (.int (zs.length : Int)) := ev_is (ev_len ha (.of h)) (by rw [List.length_map])
theorem ev_lenTI {zs : List Int} (ha : Ev te σ H (.ref a)) (h : TuI H a zs) : Ev (tCB (rLenS K) (tCons te tNil)) σ H (.int (zs.length : Int)) := ev_is (ev_lenT ha (.of h)) (by rw [List.length_map])
theorem ev_last {zs : List Int} {m : Int} (ha : Ev te σ H (.ref a)) (h : LI H a (zs ++ [m])) : Ev (tOp (rIxL K) te (tUn (rU fun i => .int (-i)) (tC (.int 1)))) σ H (.int m) :=
  ev_op ha (ev_un ev_c ru_neg) (rv_ixL (.of h) (by rw [List.map_append]; exact atI_last _ _))
end
theorem rv_bl {H : Hp} {g : Int → Int → Bool} {i j : Int} {b : Bool} (h : g i j = b) : RV (rI0 fun i j => .bl (g i j)) (.int i) (.int j) H (.bl b) := fun H1 _ Q q => ⟨i, j, rfl, rfl, by
  show Q (.bl (g i j)) H1
  rw [h]
  exact q H1 (Ex.refl _)⟩
theorem prods_at {rs : List Int} {i : Nat} (h : i ≤ rs.length) : (prods rs)[i]? = some (pp rs i) := by
  unfold prods
  rw [List.getElem?_map, List.getElem?_range (by omega)]
  rfl
end SC

/-! ## ScB -/
/-! plans.py, def by def. -/
namespace SC
open PySem PySem.Spec PyProof.Rows L2 Evl
abbrev sIsRow : Stmt := top 30
abbrev sReqPlan : Stmt := top 31
abbrev sReqChoices : Stmt := top 32
abbrev sWordNums : Stmt := top 33
abbrev sCheckPlan : Stmt := top 34
abbrev sBetweenC : Stmt := top 35
abbrev sSplitOf : Stmt := top 36
/-- a schedule whose products are small -/
structure Small (rs : List Int) : Prop extends Sched rs where
  most : prod rs ≤ 1000
theorem Small.pp_lt {rs : List Int} (S : Small rs) (i : Nat) : pp rs i ≤ 1000 := Int.le_trans (pp_le S.two i) S.most
theorem Small.mid_lt {rs : List Int} (S : Small rs) {j d : Nat} (h : j ≤ d) : mid rs j d ≤ 1000 := by
  have h1 := mid_mul S.two h
  have h2 := pp_pos S.two j
  have h3 := mid_pos S.two h
  have h4 := Int.mul_le_mul_of_nonneg_left (show (1 : Int) ≤ pp rs j by omega) (Int.le_of_lt h3)
  have h5 := S.pp_lt d
  omega
/-- a row of a plan -/
structure RowOk (rs : List Int) (r : Row) : Prop where
  d1 : 1 ≤ r.d
  d2 : r.d ≤ rs.length
  f1 : 0 ≤ r.f
  f2 : r.f < pp rs r.d.toNat
  n1 : 1 ≤ r.n
theorem GoodPlan.ok {rs c : List Int} {pl : List Row} (G : GoodPlan rs c pl) {r : Row} (h : r ∈ pl) : RowOk rs r := let ⟨a, b, c, d, e⟩ := G.row r h; ⟨a, b, c, d, e⟩
abbrev RowH (H : Hp) (a : Addr) (r : Row) : Prop := H a = some (.tup [.int r.d, .int r.f, .int r.n])
def PlH (H : Hp) (a : Addr) (pl : List Row) : Prop := ∃ rs : List Addr, H a = some (.lst (rs.map V.ref)) ∧ rs.length = pl.length ∧ ∀ (i : Nat) (r : Addr) (row : Row), rs[i]? = some r → pl[i]? = some row → RowH H r row
theorem PlH.up {H H' : Hp} {a : Addr} {pl : List Row} (h : PlH H a pl) (e : Ex H H') : PlH H' a pl := by
  obtain ⟨rs, h1, h2, h3⟩ := h
  exact ⟨rs, e a _ h1, h2, fun i r g hr hg => e r _ (h3 i r g hr hg)⟩
section
variable {P : Program} {w : World} {K : PySem.W.Frag} {mg : Str → Option Value} {base : Heap} {f : Addr} {fd : FuncData}
/-! ### is_row -/
def spIsRow : Sp := fun vs H Q _ => ∃ (a b : Addr) (rs : List Int) (r : Row), vs = [.ref a, .ref b] ∧ LI H a (prods rs) ∧ RowH H b r ∧ RowOk rs r ∧ RetV (.bl true) H Q
theorem sp_isRow {H : Hp} {a b : Addr} {rs : List Int} {r : Row} (ha : LI H a (prods rs)) (hb : RowH H b r) (R : RowOk rs r) : SpV spIsRow [.ref a, .ref b] H (.bl true) := fun H1 e Q k E => ⟨a, b, rs, r, rfl, e _ _ ha, e _ _ hb, R, k⟩
theorem scIsRow : FnScope ["sizes", "value", "distance", "first", "count", "entry"] ["sizes", "value"] (defScope sIsRow) := ⟨rfl, rfl, rfl, by decide +kernel, rfl, by decide +kernel, by decide +kernel⟩
theorem ok_isRow (F : Fun K "is_row" "is_row" sIsRow f fd) (B : Bt mg) (c1 : Callee P w K mg base "is_integer" ["value"] 1 spIsInt) : FnOk P w K mg base CX0 2 f fd ["sizes", "value"] spIsRow := by
  refine F.ok scIsRow (fun vs H Q E h => ?_) (fun cdv A outer s H vs Q E hr h => ?_)
  · obtain ⟨a, b, rs, r, rfl, _⟩ := h
    rfl
  · obtain ⟨a, b, rs, r, rfl, ha, hb, R, k⟩ := h
    refine ⟨_, pss_cons (ps_if (PW.pt (pw_or (pt_not (pt_val (pe_callB call_isi (by rfl) B.isi (by decide +kernel) (pa_cons (pv 1) (pa_cons (pe_bltn (v := .ty "tuple") (by rfl) B.tuple (by decide +kernel) rfl) pa_nil)))))
        (pw_or (pt_cmpR op_ne (pe_callB call_len_seq (by rfl) B.len PySem.boot_len (pa_cons (pv 1) pa_nil)) pe_int (nomark _))
        (pw_or1 (pt_not (pt_val (pe_callB (cr_all rfl) (by rfl) B.all (by decide +kernel) (pa_cons (pe_lc (own := [("entry", 5)]) (g := gName 5) (tt := tYes) rfl scIsRow.nd (pi_tup (pv 1)) (blkOk_by (N := ["sizes", "value", "distance", "first", "count", "entry"]) (sc := defScope sIsRow) (by decide +kernel))
          (fun _ _ _ _ _ => pg_name (i := 5) scIsRow.nd rfl (.inl rfl)) (fun _ _ _ _ _ => pts_nil) (fun _ _ _ _ _ => pe_cal c1 hr (pa_cons (pv 5) pa_nil))) pa_nil)))))))) (pss_one ps_never) pss_nil)
      (pss_cons (ps_asg (pv 1) (pg_tup rfl (pgs_cons (pg_name (i := 2) scIsRow.nd rfl (.inl rfl)) (pgs_cons (pg_name (i := 3) scIsRow.nd rfl (.inl rfl)) (pgs_cons (pg_name (i := 4) scIsRow.nd rfl (.inl rfl)) pgs_nil)))))
      (pss_one (ps_ret (pe_and (pe_chain op_le op_lt pe_int (pv 2) (pe_callB call_len_seq (by rfl) B.len PySem.boot_len (pa_cons (pv 0) pa_nil)))
        (pe_and (pe_chain op_le op_lt pe_int (pv 3) (pe_ix ix_list (pv 0) (pv 2) (fun _ _ => rfl))) (pe_one (pe_cmpR op_ge (pv 4) pe_int (nomark _)))))))), ?_⟩
    have hd1 := R.d1
    have hd2 := R.d2
    refine q_guard (et_or (a := false) (b := false) (et_not (a := true) (et_B (ev_cb (ea_cons (ev_var rfl) (ea_cons ev_c ea_nil)) (rc_isi (tx_tup hb) k_tt)))) fun _ => et_or (a := false) (b := false) (et_test (ev_is (ev_op (ev_lenT (ev_var rfl) (.of hb)) ev_c (rv_ne rfl)) rfl)) fun _ =>
      et_not (a := true) (et_B (ev_cb1P (evl_lc (fun _ => .bl true) (src_tup (ev_var rfl) (.of hb)) (show 3 ≤ 50000 by decide) (fun _ => rfl) (fun i x H1 hi hx e1 => ?_)) fun v H1 e1 hv => ?_))) fun H1 e1 => ?_
    · have : ∃ z, x = .int z := by
        have hx : [V.int r.d, V.int r.f, V.int r.n][i]? = some x := hx
        match i, hx with
        | 0, hx => exact ⟨_, (Option.some.inj hx).symm⟩
        | 1, hx => exact ⟨_, (Option.some.inj hx).symm⟩
        | 2, hx => exact ⟨_, (Option.some.inj hx).symm⟩
      obtain ⟨z, rfl⟩ := this
      exact ev_call (ea_cons (ev_var rfl) ea_nil) (sp_isInt z)
    · obtain ⟨D, rfl, hD⟩ := hv
      exact rc_all hD
    · refine q_unp3 (ev_var rfl) (e1 _ _ hb) fun H2 e2 => ?_
      have e2 := e1.trans e2
      refine s_ret (ev_andV (a := true) (b := true) (ev_chain (c := true) (d := true) ev_c (ev_var rfl) (rv_bl (decide_eq_true hd1)) (fun _ => ev_lenI (ev_var rfl) (e2 _ _ ha)) (fun _ => rv_bl (decide_eq_true ?_)) (fun h => nomatch h))
        fun _ => ev_andV (a := true) (b := true) (ev_chain (c := true) (d := true) ev_c (ev_var rfl) (rv_bl (decide_eq_true R.f1)) (fun _ => ev_ixI (j := r.d.toNat) (ev_var rfl) (ev_var rfl) (e2 _ _ ha) (by omega) (prods_at (by omega))) (fun _ => rv_bl (decide_eq_true R.f2)) (fun h => nomatch h))
        fun _ => ev_op (ev_var rfl) ev_c (rv_bl (decide_eq_true R.n1))) fun H3 e3 => k H3 (e2.trans e3)
      unfold prods
      rw [List.length_map, List.length_range]
      omega
/-! ### require_plan -/
def spReqPlan : Sp := fun vs H Q _ => ∃ (a b : Addr) (rs : List Int) (pl : List Row), vs = [.ref a, .ref b] ∧ LI H a rs ∧ Sched rs ∧ PlH H b pl ∧ (∀ r ∈ pl, RowOk rs r) ∧ RetV .non H Q
theorem sp_reqPlan {H : Hp} {a b : Addr} {rs : List Int} {pl : List Row} (ha : LI H a rs) (S : Sched rs) (hb : PlH H b pl) (R : ∀ r ∈ pl, RowOk rs r) : SpV spReqPlan [.ref a, .ref b] H .non := fun H1 e Q k E => ⟨a, b, rs, pl, rfl, e _ _ ha, S, hb.up e, R, k⟩
theorem scReqPlan : FnScope ["schedule", "plan", "sizes", "index", "row"] ["schedule", "plan"] (defScope sReqPlan) := ⟨rfl, rfl, rfl, by decide +kernel, rfl, by decide +kernel, by decide +kernel⟩
theorem ok_reqPlan (F : Fun K "require_plan" "require_plan" sReqPlan f fd) (B : Bt mg) (c1 : Callee P w K mg base "products" ["schedule"] 1 spProducts) (c2 : Callee P w K mg base "is_row" ["sizes", "value"] 2 spIsRow) : FnOk P w K mg base CX0 3 f fd ["schedule", "plan"] spReqPlan := by
  refine F.ok scReqPlan (fun vs H Q E h => ?_) (fun cdv A outer s H vs Q E hr h => ?_)
  · obtain ⟨a, b, rs, pl, rfl, _⟩ := h
    rfl
  · obtain ⟨a, b, rs, pl, rfl, ha, S, hb, R, k⟩ := h
    refine ⟨_, pss_cons (ps_if (pt_not (pt_val (pe_callB call_isiT (by rfl) B.isi (by decide +kernel) (pa_cons (pv 1) (pa_cons (pe_tup (pa_cons (pe_bltn (v := .ty "list") (by rfl) B.list (by decide +kernel) rfl) (pa_cons (pe_bltn (v := .ty "tuple") (by rfl) B.tuple (by decide +kernel) rfl) pa_nil))) pa_nil))))) (pss_one ps_never) pss_nil)
      (pss_cons (ps_set (i := 2) scReqPlan.nd rfl (.inl rfl) (pe_cal c1 (hr.mono (by decide)) (pa_cons (pv 0) pa_nil)))
      (pss_one (ps_for PassesOwn.never rfl (pi_enum (by rfl) B.enum (pa_cons (pv 1) pa_nil)) (pg_tup rfl (pgs_cons (pg_name (i := 3) scReqPlan.nd rfl (.inl rfl)) (pgs_cons (pg_name (i := 4) scReqPlan.nd rfl (.inl rfl)) pgs_nil)))
        (pss_one (ps_if (pt_not (pt_val (pe_cal c2 hr (pa_cons (pv 2) (pa_cons (pv 4) pa_nil))))) (pss_one ps_never) pss_nil))))), ?_⟩
    obtain ⟨ads, hb1, hb2, hb3⟩ := hb
    refine q_guard (et_not (a := true) (et_B (ev_isi2 (ev_var rfl) (eu_tup (ea_cons ev_c (ea_cons ev_c ea_nil)) (by decide)) (tx_lst hb1) k_ll k_lt))) fun H1 e1 => ?_
    refine q_asgL (el_call (ea_cons (ev_var rfl) ea_nil) (sp_products (e1 _ _ ha) S)) fun p H2 hp e2 h2 => ?_
    have e2 := e1.trans e2
    refine s_forS2 (src_enum (ea_cons (ev_var rfl) ea_nil) (e2 _ _ hb1)) (fun i σ' => ∃ y z, σ' = [some (.ref a), some (.ref b), some (.ref p), y, z]) ⟨none, none, rfl⟩ (fun i x y σ' H0 H' hi hx hy hP e0 e' => ?_) fun σ' H3 _ e3 => k H3 (e2.trans e3)
    obtain ⟨_, _, rfl⟩ := hP
    obtain ⟨r', hr', rfl⟩ := get_ref hy
    have hlt := (List.getElem?_eq_some_iff.mp hr').1
    have hg : pl[i]? = some pl[i] := List.getElem?_eq_getElem (by omega)
    have e3 := (e2.trans e0).trans e'
    exact s_guard (et_not (a := true) (et_B (ev_call (ea_cons (ev_var rfl) (ea_cons (ev_var rfl) ea_nil)) (sp_isRow (e' _ _ (e0 _ _ h2)) (e3 _ _ (hb3 i r' _ hr' hg)) (R _ (List.getElem_mem (by omega))))))) fun H4 e4 => ⟨⟨_, _, rfl⟩, e'.trans e4⟩
/-! ### require_choices -/
def spReqChoices : Sp := fun vs H Q _ => ∃ (a b : Addr) (rs ch : List Int) (n : Int), vs = [.ref a, .ref b, .int n] ∧ LI H a rs ∧ Sched rs ∧ LI H b ch ∧ Ok rs ch ∧ (ch.length : Int) ≤ n ∧ RetV .non H Q
theorem sp_reqChoices {H : Hp} {a b : Addr} {rs ch : List Int} {n : Int} (ha : LI H a rs) (S : Sched rs) (hb : LI H b ch) (o : Ok rs ch) (hn : (ch.length : Int) ≤ n) : SpV spReqChoices [.ref a, .ref b, .int n] H .non := fun H1 e Q k E => ⟨a, b, rs, ch, n, rfl, e _ _ ha, S, e _ _ hb, o, hn, k⟩
theorem scReqChoices : FnScope ["schedule", "choices", "limit", "index", "chosen"] ["schedule", "choices", "limit"] (defScope sReqChoices) := ⟨rfl, rfl, rfl, by decide +kernel, rfl, by decide +kernel, by decide +kernel⟩
theorem ok_reqChoices (F : Fun K "require_choices" "require_choices" sReqChoices f fd) (B : Bt mg) (c1 : Callee P w K mg base "is_between" ["value", "low", "high"] 2 spBetween) : FnOk P w K mg base CX0 3 f fd ["schedule", "choices", "limit"] spReqChoices := by
  refine F.ok scReqChoices (fun vs H Q E h => ?_) (fun cdv A outer s H vs Q E hr h => ?_)
  · obtain ⟨a, b, rs, ch, n, rfl, _⟩ := h
    rfl
  · obtain ⟨a, b, rs, ch, n, rfl, ha, S, hb, o, hn, k⟩ := h
    refine ⟨_, pss_cons (ps_if (PW.pt (pw_or (pt_not (pt_val (pe_callB call_isiT (by rfl) B.isi (by decide +kernel) (pa_cons (pv 1) (pa_cons (pe_tup (pa_cons (pe_bltn (v := .ty "list") (by rfl) B.list (by decide +kernel) rfl) (pa_cons (pe_bltn (v := .ty "tuple") (by rfl) B.tuple (by decide +kernel) rfl) pa_nil))) pa_nil)))))
        (pw_or1 (pt_cmpR op_gt (pe_callB call_len_seq (by rfl) B.len PySem.boot_len (pa_cons (pv 1) pa_nil)) (pv 2) (nomark _))))) (pss_one ps_never) pss_nil)
      (pss_one (ps_for PassesOwn.never rfl (pi_enum (by rfl) B.enum (pa_cons (pv 1) pa_nil)) (pg_tup rfl (pgs_cons (pg_name (i := 3) scReqChoices.nd rfl (.inl rfl)) (pgs_cons (pg_name (i := 4) scReqChoices.nd rfl (.inl rfl)) pgs_nil)))
        (pss_one (ps_if (pt_not (pt_val (pe_cal c1 hr (pa_cons (pv 4) (pa_cons pe_int (pa_cons (pe_op op_sub (pe_ix ix_list (pv 0) (pv 3) (fun _ _ => rfl)) pe_int) pa_nil)))))) (pss_one ps_never) pss_nil)))), ?_⟩
    refine q_guard (et_or (a := false) (b := false) (et_not (a := true) (et_B (ev_isi2 (ev_var rfl) (eu_tup (ea_cons ev_c (ea_cons ev_c ea_nil)) (by decide)) (tx_lst hb) k_ll k_lt))) fun _ => et_test (ev_is (ev_op (ev_lenI (ev_var rfl) hb) (ev_var rfl) rv_I0) ?_)) fun H1 e1 => ?_
    · rw [decide_eq_false (by omega)]
    · refine s_forS2 (src_enum (ea_cons (ev_var rfl) ea_nil) (e1 _ _ hb)) (fun i σ' => ∃ y z, σ' = [some (.ref a), some (.ref b), some (.int n), y, z]) ⟨none, none, rfl⟩ (fun i x y σ' H0 H' hi hx hy hP e0 e' => ?_) fun σ' H3 _ e3 => k H3 (e1.trans e3)
      obtain ⟨_, _, rfl⟩ := hP
      cases hx
      obtain ⟨g, hg, rfl⟩ := get_int hy
      have hlt := (List.getElem?_eq_some_iff.mp hg).1
      have hl := o.1
      have hE : rs[i]? = some rs[i] := List.getElem?_eq_getElem (by omega)
      obtain ⟨g0, g1⟩ := o.2 i g _ hg hE
      refine s_guard (et_not (a := true) (et_B (ev_is (ev_call (ea_cons (ev_var rfl) (ea_cons ev_c (ea_cons (ev_sub (ev_ixI (j := i) (ev_var rfl) (ev_var rfl) (((e1.trans e0).trans e') _ _ ha) rfl hE) ev_c) ea_nil))) (sp_between g 0 (rs[i] - 1))) ?_))) fun H4 e4 => ⟨⟨_, _, rfl⟩, e'.trans e4⟩
      rw [decide_eq_true g0, decide_eq_true (by omega)]
      rfl
/-! ### word_numbers -/
def wnums (rs ch : List Int) : List Int := (List.range (ch.length + 1)).map (Sx rs ch)
def spWordNums : Sp := fun vs H Q _ => ∃ (a b : Addr) (rs ch : List Int), vs = [.ref a, .ref b] ∧ LI H a rs ∧ Sched rs ∧ LI H b ch ∧ ch.length ≤ rs.length ∧ RetL ((wnums rs ch).map V.int) H Q
theorem sp_wordNums {H : Hp} {a b : Addr} {rs ch : List Int} (ha : LI H a rs) (S : Sched rs) (hb : LI H b ch) (hl : ch.length ≤ rs.length) : SpL spWordNums [.ref a, .ref b] H ((wnums rs ch).map V.int) := fun H1 e Q k E => ⟨a, b, rs, ch, rfl, e _ _ ha, S, e _ _ hb, hl, k⟩
theorem scWordNums : FnScope ["schedule", "choices", "found", "entry", "chosen"] ["schedule", "choices"] (defScope sWordNums) := ⟨rfl, rfl, rfl, by decide +kernel, rfl, by decide +kernel, by decide +kernel⟩
theorem ok_wordNums (F : Fun K "word_numbers" "word_numbers" sWordNums f fd) (B : Bt mg) : FnOk P w K mg base CX0 1 f fd ["schedule", "choices"] spWordNums := by
  refine F.ok scWordNums (fun vs H Q E h => ?_) (fun cdv A outer s H vs Q E hr h => ?_)
  · obtain ⟨a, b, rs, ch, rfl, _⟩ := h
    rfl
  · obtain ⟨a, b, rs, ch, rfl, ha, S, hb, hl, k⟩ := h
    refine ⟨_, pss_cons (ps_set (i := 2) scWordNums.nd rfl (.inl rfl) (pe_lst (pa_cons pe_int pa_nil)))
      (pss_cons (ps_for PassesOwn.never rfl (SCZ.pi_zipKw (bs := false) (by rfl) B.zip (pa_cons (pv 0) (pa_cons (pv 1) pa_nil))) (pg_tup rfl (pgs_cons (pg_name (i := 3) scWordNums.nd rfl (.inl rfl)) (pgs_cons (pg_name (i := 4) scWordNums.nd rfl (.inl rfl)) pgs_nil)))
        (pss_one (ps_expr (pe_bm PySem.F.plainAttrs_list PySem.F.slot_list_append PySem.F.type_list_append mt_append (pv 2) (pa_cons (pe_op op_add (pe_op op_mul (pe_ix ix_list (pv 2) (pe_un un_neg pe_int) (fun _ _ => rfl)) (pv 3)) (pv 4)) pa_nil)))))
      (pss_one (ps_ret (pv 2)))), ?_⟩
    refine q_asgL (el_lst (ea_cons ev_c ea_nil) (by decide)) fun p H1 hp e1 h1 => ?_
    refine q_forZ (n := ch.length) (ea_cons (ev_var rfl) (ea_cons (ev_var rfl) ea_nil)) (e1 _ _ ha) (e1 _ _ hb) (by rw [List.length_map, List.length_map]; omega)
      (fun i σ' H' => (∃ y z, σ' = [some (.ref a), some (.ref b), some (.ref p), y, z]) ∧ Ex H H' ∧ LI H' p ((List.range (i + 1)).map (Sx rs ch))) (fun H2 e2 => ⟨⟨none, none, rfl⟩, e1.trans e2, e2 _ _ h1⟩)
      (fun i σ' H' _ h => ⟨h.2.1 _ _ ha, h.2.1 _ _ hb⟩) (fun i x y σ' H' hi hx hy h H2 e2 => ?_) (fun σ' H' h => ?_)
    · obtain ⟨⟨_, _, rfl⟩, e', hP⟩ := h
      obtain ⟨e, he, rfl⟩ := get_int hx
      obtain ⟨g, hg, rfl⟩ := get_int hy
      have h2 := S.two e (List.mem_of_getElem? he)
      have h5 := S.five e (List.mem_of_getElem? he)
      have hsl := S.len
      rw [List.range_succ, List.map_append] at hP
      refine s_app (v := .int (Sx rs ch i * e + g)) (e2 _ _ hP) (ev_var rfl) (ev_add (ev_mulR (ev_last (ev_var rfl) (e2 _ _ hP)) (ev_var rfl) (by omega) (by omega)) (ev_var rfl)) (by simp; omega) fun H3 e3 => ⟨⟨_, _, rfl⟩, Ex.mut ((e'.trans e2).trans e3) hp, ?_⟩
      have : Sx rs ch (i + 1) = Sx rs ch i * e + g := by
        show Sx rs ch i * rs.getD i 0 + ch.getD i 0 = _
        rw [getD_of he, getD_of hg]
      rw [LI, upd_same, List.range_succ (n := i + 1), List.map_append, List.map_append, List.range_succ (n := i), List.map_append, List.map_append]
      show _ = some (HO.lst (_ ++ [V.int (Sx rs ch (i + 1))]))
      rw [this, List.map_append]
    · obtain ⟨⟨_, _, rfl⟩, e', hP⟩ := h
      exact s_ret (ev_var rfl) fun H2 e2 => k p H2 hp (e'.trans e2) (e2 _ _ hP)
/-! ### climbers_between -/
def spBetweenC : Sp := fun vs H Q _ => ∃ (b : Addr) (size start length : Int) (r : Row), vs = [.int size, .ref b, .int start, .int length] ∧ RowH H b r ∧ 0 < size ∧ size ≤ 1000 ∧ 0 ≤ length ∧ length ≤ 1000 ∧ RetV (.int (btw r.n size length ((start - r.f) % size))) H Q
theorem sp_betweenC {H : Hp} {b : Addr} {size start length : Int} {r : Row} (hb : RowH H b r) (h1 : 0 < size) (h2 : size ≤ 1000) (h3 : 0 ≤ length) (h4 : length ≤ 1000) : SpV spBetweenC [.int size, .ref b, .int start, .int length] H (.int (btw r.n size length ((start - r.f) % size))) :=
  fun H1 e Q k E => ⟨b, size, start, length, r, rfl, e _ _ hb, h1, h2, h3, h4, k⟩
theorem scBetweenC : FnScope ["size", "row", "start", "length", "distance", "first", "count", "turns", "rest", "place", "inside"] ["size", "row", "start", "length"] (defScope sBetweenC) := ⟨rfl, rfl, rfl, by decide +kernel, rfl, by decide +kernel, by decide +kernel⟩
theorem ok_betweenC (F : Fun K "climbers_between" "climbers_between" sBetweenC f fd) (B : Bt mg) : FnOk P w K mg base CX0 1 f fd ["size", "row", "start", "length"] spBetweenC := by
  refine F.ok scBetweenC (fun vs H Q E h => ?_) (fun cdv A outer s H vs Q E hr h => ?_)
  · obtain ⟨b, size, start, length, r, rfl, _⟩ := h
    rfl
  · obtain ⟨b, size, start, length, r, rfl, hb, h1, h2, h3, h4, k⟩ := h
    refine ⟨_, pss_cons (ps_asg (pv 1) (pg_tup rfl (pgs_cons (pg_name (i := 4) scBetweenC.nd rfl (.inl rfl)) (pgs_cons (pg_name (i := 5) scBetweenC.nd rfl (.inl rfl)) (pgs_cons (pg_name (i := 6) scBetweenC.nd rfl (.inl rfl)) pgs_nil)))))
      (pss_cons (ps_par (i := 7) (j := 8) (by rfl) scBetweenC.nd rfl rfl (by decide) rfl rfl (pa_cons (pe_op op_fdiv (pv 6) (pv 0)) (pa_cons (pe_op op_mod (pv 6) (pv 0)) pa_nil)) (by rfl))
      (pss_cons (ps_set (i := 9) scBetweenC.nd rfl (.inl rfl) (pe_op op_mod (pe_op op_sub (pv 2) (pv 5)) (pv 0)))
      (pss_cons (ps_set (i := 10) scBetweenC.nd rfl (.inl rfl) (pe_callB (call_max2 rfl) (by rfl) B.max (by decide +kernel) (pa_cons pe_int (pa_cons (pe_op op_sub (pe_callB (call_min2 rfl) (by rfl) B.min (by decide +kernel) (pa_cons (pv 8) (pa_cons (pe_op op_add (pv 9) (pv 3)) pa_nil))) (pv 9)) pa_nil))))
      (pss_one (ps_ret (pe_op op_add (pe_op op_add (pe_op op_mul (pv 7) (pv 3)) (pv 10))
        (pe_callB (call_max2 rfl) (by rfl) B.max (by decide +kernel) (pa_cons pe_int (pa_cons
          (pe_callB (call_min2 rfl) (by rfl) B.min (by decide +kernel) (pa_cons (pv 8) (pa_cons (pe_op op_sub (pe_op op_add (pv 9) (pv 3)) (pv 0)) pa_nil))) pa_nil))))))))), ?_⟩
    refine q_unp3 (ev_var rfl) hb fun H1 e1 => ?_
    refine q_par (ea_cons (ev_div (ev_var rfl) (ev_var rfl) h1 (by omega)) (ea_cons (ev_mod (ev_var rfl) (ev_var rfl) h1) ea_nil)) fun H2 e2 => ?_
    refine q_asg (ev_mod (ev_sub (ev_var rfl) (ev_var rfl)) (ev_var rfl) h1) fun H3 e3 => ?_
    refine q_asg (ev_max ev_c (ev_sub (ev_min (ev_var rfl) (ev_add (ev_var rfl) (ev_var rfl))) (ev_var rfl))) fun H4 e4 => ?_
    refine s_ret (ev_add (ev_add (ev_mulR (ev_var rfl) (ev_var rfl) (by omega) (by omega)) (ev_var rfl)) (ev_max ev_c (ev_min (ev_var rfl) (ev_sub (ev_add (ev_var rfl) (ev_var rfl)) (ev_var rfl))))) fun H5 e5 => k H5 ((((e1.trans e2).trans e3).trans e4).trans e5)
end
end SC

/-! ## ScBase5 -/
/-! Lists glued and repeated, slices, lists of new lists. -/
namespace SC
open PySem PySem.Spec PyProof.Rows L2 Evl
def IsL (xs : List V) (v : V) (H : Hp) : Prop := ∃ p, v = .ref p ∧ H p = some (.lst xs)
theorem IsL.up {xs : List V} {v : V} {H H' : Hp} (e : Ex H H') (h : IsL xs v H) : IsL xs v H' := by
  obtain ⟨p, rfl, hp⟩ := h
  exact ⟨p, rfl, e _ _ hp⟩
theorem flat_rep {α : Type} (z : α) : ∀ k : Nat, (List.replicate k [z]).flatten = List.replicate k z
  | 0 => rfl
  | k + 1 => by
    rw [List.replicate_succ, List.flatten_cons, flat_rep z k, List.replicate_succ]
    rfl
section
variable {K : PySem.W.Frag} {σ : L2.St} {H : Hp} {te ta tb : TE} {tu tz : TS} {D : Ends} {a b : Addr} {xs ys : List V} {x y z v : V}
theorem isl_l (h : EvL te σ H xs) : EvP te σ H (IsL xs) := evp_l h fun p H2 _ hp => ⟨p, rfl, hp⟩
theorem isl_v (h : Ev te σ H (.ref a)) (hx : H a = some (.lst xs)) : EvP te σ H (IsL xs) := evp_v h fun H2 e2 => ⟨a, rfl, e2 _ _ hx⟩
theorem el_cat (h : EvP ta σ H (IsL xs)) (hb : EvP tb σ H (IsL ys)) (hl : xs.length + ys.length ≤ 100000) : EvL (tOp rCat ta tb) σ H (xs ++ ys) := fun H1 e Q q =>
  h H1 e _ fun v H2 e2 hv => hb H2 (e.trans e2) _ fun w H3 e3 hw => by
    obtain ⟨l, rfl, h1⟩ := hv.up e3
    obtain ⟨r, rfl, h2⟩ := hw
    exact ⟨l, r, xs, ys, rfl, rfl, h1, h2, sz_of hl, fun p hp => q p _ (fresh_back (e2.trans e3) hp) ((e2.trans e3).trans (Ex.new hp)) upd_same⟩
theorem el_rep {k : Nat} {n : Int} (h : EvL ta σ H [z]) (hb : ∀ H1, Ex H H1 → Ev tb σ H1 (.int n)) (hn : n.toNat = k) (h0 : -1000 < n) (h1 : n ≤ 10000) : EvL (tOp rRep ta tb) σ H (List.replicate k z) := fun H1 e Q q =>
  h H1 e _ fun l H2 hl e2 h2 => hb H2 (e.trans e2) H2 (Ex.refl _) _ fun H3 e3 => ⟨l, n, [z], rfl, rfl, e3 _ _ h2, by omega, by omega, sz_of (by rw [hn]; simp; omega), fun p hp => by
    rw [hn, flat_rep]
    exact q p _ (fresh_back (e2.trans e3) hp) ((e2.trans e3).trans (Ex.new hp)) upd_same⟩
/-- t[:n], a tuple of numbers -/
theorem evp_slT {th : TE} {c : List Int} {n : Nat} (h : Ev te σ H (.ref a)) (hc : TuI H a c) (hn : Ev th σ H (.int (n : Int))) : EvP (tSl (rSlA K) te tNoPart (tPart th)) σ H (fun v H2 => ∃ p, v = .ref p ∧ TuI H2 p (c.take n)) := fun H1 e Q q =>
  h H1 e _ fun H2 e2 => hn H2 (e.trans e2) _ fun H3 e3 => ⟨(n : Int), rfl, a, c.map V.int, rfl, .of (((e.trans e2).trans e3) _ _ hc), fun z => q _ H3 (e2.trans e3) ⟨a, rfl, by
      have z2 : HT.sIx (c.map V.int).length (c.map V.int).length (some (n : Int)) = (c.map V.int).length := z.2
      rw [HT.sIx_nat, List.length_map] at z2
      rw [List.take_of_length_le (by omega)]
      exact ((e.trans e2).trans e3) _ _ hc⟩, fun z p hp => q _ _ ((e2.trans e3).trans (Ex.new hp)) ⟨p, rfl, by
      show upd H3 p _ p = _
      rw [upd_same]
      unfold cutV
      rw [HT.sIx_none, HT.sIx_nat, List.drop_zero, Nat.sub_zero, List.map_take]
      congr 2
      rcases Nat.le_total n (c.map V.int).length with hh | hh
      · rw [Nat.min_eq_left hh]
      · rw [Nat.min_eq_right hh, List.take_length, List.take_of_length_le hh]⟩⟩
/-- l[n:], a list of numbers -/
theorem el_slI {tl : TE} {c : List Int} {n : Nat} (h : Ev te σ H (.ref a)) (hc : LI H a c) (hn : Ev tl σ H (.int (n : Int))) : EvL (tSl (rSlL K) te (tPart tl) tNoPart) σ H ((c.drop n).map V.int) := by
  have := el_sl (K := K) (lo := some (n : Int)) (hi := none) h (eo_some hn) eo_none (.of hc)
  have e : cutV (c.map V.int) (some (n : Int)) none = (c.drop n).map V.int := by
    unfold cutV
    rw [HT.sIx_none, HT.sIx_nat, List.map_drop]
    rcases Nat.le_total n (c.map V.int).length with hh | hh
    · rw [Nat.min_eq_left hh]
      exact List.take_of_length_le (by simp)
    · rw [Nat.min_eq_right hh, List.drop_length, List.drop_of_length_le hh]
      exact List.take_nil
  rw [e] at this
  exact this
theorem q_parP {i j : Nat} {P1 P2 : V → Hp → Prop} (h : EvP ta σ H P1) (h2 : EvP tb σ H P2) (k : ∀ v w H1 H2, Ex H H1 → P1 v H1 → Ex H1 H2 → P2 w H2 → tz D ((σ.set i (some v)).set j (some w)) H2) : tSeq (tPar i j (tCons ta (tCons tb tNil))) tz D σ H :=
  h H (Ex.refl H) _ fun v H1 e1 hv => h2 H1 e1 _ fun w H2 e2 hw => ⟨v, w, rfl, k v w H1 H2 e1 hv e2 hw⟩
end
/-! ### a comprehension that makes new lists -/
structure FndC (H H2 : Hp) (D : Addr) (ads : List Addr) (xs : List V) : Prop where
  lst : H2 D = some (.lst (ads.map V.ref))
  nd : ads.Nodup
  out : D ∉ ads
  new : H D = none
  news : ∀ a ∈ ads, H a = none
  each : ∀ a ∈ ads, H2 a = some (.lst xs)
theorem evp_lcF {σ : L2.St} {H : Hp} {te : TE} {wi : TI} {n j : Nat} {vs : List Nat} {f : Nat → V → Prop} {xs : List V} (hs : Src wi σ H n (fun i H x H' => H' = H ∧ f i x)) (hn : n ≤ 50000) (hw : ∀ x, wipe ((wipe σ vs).set j (some x)) vs = wipe σ vs)
    (he : ∀ i x H1, i < n → f i x → Ex H H1 → EvL te ((wipe σ vs).set j (some x)) H1 xs) : EvP (tLc wi (gName j) tYes te vs) σ H (fun v H2 => ∃ D ads, v = .ref D ∧ ads.length = n ∧ FndC H H2 D ads xs) := fun H1 e Q q =>
  hs.run H1 e _ fun J G H2 e2 w hG D hD => by
    have hDH : H D = none := fresh_back (e.trans e2) hD
    refine lc_it w (fun i H' => Ex H2 H' ∧ ∃ ads : List Addr, ads.length = i ∧ FndC H2 H' D ads xs) ⟨Ex.new hD, ([] : List Addr), rfl, ⟨upd_same, List.nodup_nil, List.not_mem_nil, hD, fun a h => absurd h List.not_mem_nil, fun a h => absurd h List.not_mem_nil⟩⟩ (fun i H' _ p => hG H' p.1) (fun i x H' H'' hi p y => ?_) (fun H' p => ?_)
    · obtain ⟨p1, ads, p2, p3⟩ := p
      obtain ⟨rfl, hfx⟩ := y
      refine ⟨hw x, ?_⟩
      dsimp only [tYes]
      rw [if_pos rfl]
      refine he i x H'' hi hfx ((e.trans e2).trans p1) H'' (Ex.refl _) _ fun r H4 hr e4 h4 => ⟨ads.map V.ref, e4 D _ p3.lst, sz_lt (by rw [List.length_map]; omega), ?_, ads ++ [r], by simp [p2], ?_⟩
      · exact Ex.mut (p1.trans e4) hD
      · have rD : r ≠ D := fun z => by rw [z, p3.lst] at hr; cases hr
        have rads : r ∉ ads := fun z => by rw [p3.each r z] at hr; cases hr
        refine ⟨by rw [upd_same, List.map_append]; rfl, List.nodup_append.mpr ⟨p3.nd, by simp, fun a ha b hb z => rads (by rw [List.mem_singleton] at hb; rw [← hb, ← z]; exact ha)⟩, fun z => ?_, hD, fun a ha => ?_, fun a ha => ?_⟩
        · rcases List.mem_append.mp z with z | z
          · exact p3.out z
          · exact rD (List.mem_singleton.mp z).symm
        · rcases List.mem_append.mp ha with z | z
          · exact p3.news a z
          · rw [List.mem_singleton.mp z]; exact fresh_back p1 hr
        · have aD : a ≠ D := fun z => by
            rw [z] at ha
            rcases List.mem_append.mp ha with z | z
            · exact p3.out z
            · exact rD (List.mem_singleton.mp z).symm
          rw [upd_ne aD]
          rcases List.mem_append.mp ha with z | z
          · exact e4 _ _ (p3.each a z)
          · rw [List.mem_singleton.mp z]; exact h4
    · obtain ⟨p1, ads, p2, p3⟩ := p
      exact q (.ref D) H' (e2.trans p1) ⟨D, ads, rfl, p2, p3.lst, p3.nd, p3.out, hDH, fun a ha => fresh_back (e.trans e2) (p3.news a ha), p3.each⟩
/-- rows that are written, each a list of its own -/
structure Fnd (H H' : Hp) (D : Addr) (ads : List Addr) (rows : Nat → List Int) : Prop where
  ex : Ex H H'
  lst : H' D = some (.lst (ads.map V.ref))
  each : ∀ (g : Nat) (a : Addr), ads[g]? = some a → LI H' a (rows g)
theorem Fnd.up {H H' H2 : Hp} {D : Addr} {ads : List Addr} {rows : Nat → List Int} (F : Fnd H H' D ads rows) (e : Ex H' H2) : Fnd H H2 D ads rows := ⟨F.ex.trans e, e _ _ F.lst, fun g a h => e _ _ (F.each g a h)⟩
theorem Fnd.set {H H' : Hp} {D : Addr} {ads : List Addr} {rows : Nat → List Int} (F : Fnd H H' D ads rows) (nd : ads.Nodup) (out : D ∉ ads) (news : ∀ a ∈ ads, H a = none) {g : Nat} {a : Addr} (h : ads[g]? = some a) (zs : List Int) :
    Fnd H (upd H' a (.lst (zs.map V.int))) D ads (fun g' => if g' = g then zs else rows g') := by
  have ha := List.mem_of_getElem? h
  refine ⟨Ex.mut F.ex (news a ha), ?_, fun g' a' h' => ?_⟩
  · rw [upd_ne (fun z => out (by rw [z]; exact ha))]
    exact F.lst
  · by_cases hg : g' = g
    · subst hg
      rw [h] at h'
      cases h'
      rw [LI, upd_same, if_pos rfl]
    · have : a' ≠ a := fun z => by
        subst z
        exact hg (nd_ix nd h' h)
      rw [LI, upd_ne this, if_neg hg]
      exact F.each g' a' h'
theorem Fnd.same {H H' : Hp} {D : Addr} {ads : List Addr} {rows rows' : Nat → List Int} (F : Fnd H H' D ads rows) (h : ∀ g, g < ads.length → rows g = rows' g) : Fnd H H' D ads rows' :=
  ⟨F.ex, F.lst, fun g a hg => by rw [← h g (List.getElem?_eq_some_iff.mp hg).1]; exact F.each g a hg⟩
theorem set_range {n k : Nat} (f : Nat → Int) (x : Int) : ((List.range n).map f).set k x = (List.range n).map fun j => if j = k then x else f j := by
  apply List.ext_getElem
  · simp
  · intro i h1 h2
    simp only [List.getElem_set, List.getElem_map, List.getElem_range]
    by_cases h : k = i
    · rw [if_pos h, if_pos h.symm]
    · rw [if_neg h, if_neg (fun z => h z.symm)]
theorem range_at {n k : Nat} (f : Nat → Int) (h : k < n) : ((List.range n).map f)[k]? = some (f k) := by
  rw [List.getElem?_map, List.getElem?_range h]
  rfl
theorem map_set_int (zs : List Int) (k : Nat) (x : Int) : (zs.map V.int).set k (.int x) = (zs.set k x).map V.int := by rw [List.map_set]

theorem list_refs {Pr : Nat → Addr → Prop} : ∀ {xs : List V}, (∀ (i : Nat) x, xs[i]? = some x → ∃ p, x = .ref p ∧ Pr i p) → ∃ rs : List Addr, xs = rs.map V.ref ∧ ∀ (i : Nat) p, rs[i]? = some p → Pr i p
  | [], _ => ⟨[], rfl, fun i p h => by simp at h⟩
  | x :: xs, h => by
    obtain ⟨p, rfl, hp⟩ := h 0 x rfl
    obtain ⟨rs, rfl, hr⟩ := list_refs (Pr := fun i => Pr (i + 1)) (xs := xs) fun i y hy => h (i + 1) y hy
    exact ⟨p :: rs, rfl, fun i q hq => match i, hq with
      | 0, hq => by cases hq; exact hp
      | i + 1, hq => hr i q hq⟩
/-- what a comprehension of tuples leaves is a split -/
theorem LcR.spl {n : Nat} {gs : List (List Int)} {v : V} {H2 : Hp} (h : LcR n (fun i x H => ∃ p, x = .ref p ∧ TuI H p (gs.getD i [])) v H2) (hl : gs.length = n) : ∃ p, v = .ref p ∧ SplH H2 p gs := by
  obtain ⟨D, xs, rfl, hD, hx, hp⟩ := h
  obtain ⟨rs, rfl, hr⟩ := list_refs hp
  rw [List.length_map] at hx
  exact ⟨D, rfl, rs, hD, by omega, fun i r g h1 h2 => by
    have := hr i r h1
    rw [getD_of h2] at this
    exact this⟩
theorem tup_mono {H : Hp} (gs : List (List Int)) : ∀ (i : Nat) (v : V) (H1 H2 : Hp) (D : Addr), (∀ b o, H1 b = some o → b ≠ D → H2 b = some o) → (∃ xs, H1 D = some (.lst xs)) → H D = none → (∃ p, v = V.ref p ∧ TuI H1 p (gs.getD i [])) → ∃ p, v = V.ref p ∧ TuI H2 p (gs.getD i []) := by
  rintro i v H1 H2 D k ⟨xs, hD⟩ _ ⟨p, rfl, hp⟩
  exact ⟨p, rfl, k p _ hp (ne_of hp hD (by intro z; cases z))⟩
/-- a call on one value just made -/
theorem ev_call1P {σ : L2.St} {H : Hp} {te : TE} {z : V} {sp : Sp} {E : XK} {P : V → Hp → Prop} (h : EvP te σ H P) (hs : ∀ v H1, Ex H H1 → P v H1 → SpV sp [v] H1 z) : Ev (tCall sp [] E (tCons te tNil)) σ H z := fun H1 e Q q =>
  h H1 e _ fun v H2 e2 hv => hs v H2 (e.trans e2) hv H2 (Ex.refl _) Q (fun H3 e3 => q H3 (e2.trans e3)) E

section
variable {K : PySem.W.Frag} {σ : L2.St} {H : Hp} {te ta tb : TE} {tu tz : TS} {D : Ends} {a b l : Addr} {xs ys : List V} {x y z v : V} {P : V → Hp → Prop}
theorem s_appP (hl : H l = some (.lst xs)) (ha : Ev ta σ H (.ref l)) (h : EvP te σ H P) (hz : xs.length < 100000) (k : ∀ v H1, Ex H H1 → P v H1 → D.nx σ (upd H1 l (.lst (xs ++ [v])))) :
    tDrop (tBM K "list" rAppend ta (tCons te tNil)) D σ H := ha H (Ex.refl H) _ fun H1 e1 =>
  ⟨Or.inl ⟨rfl, xs, sq_of (e1 l _ hl)⟩, h H1 e1 _ fun v H2 e2 hv => ⟨l, xs, v, rfl, rfl, e2 l _ (e1 l _ hl), sz_lt hz, k v H2 (e1.trans e2) hv⟩⟩
theorem q_appP (hl : H l = some (.lst xs)) (ha : Ev ta σ H (.ref l)) (h : EvP te σ H P) (hz : xs.length < 100000) (k : ∀ v H1, Ex H H1 → P v H1 → tz D σ (upd H1 l (.lst (xs ++ [v])))) :
    tSeq (tDrop (tBM K "list" rAppend ta (tCons te tNil))) tz D σ H := s_appP (D := { D with nx := tz D }) hl ha h hz k
/-- tuple(a list just made) -/
theorem evp_tupleOf (h : EvP te σ H (IsL xs)) : EvP (tCB (rTupleOf K) (tCons te tNil)) σ H (fun v H2 => ∃ p, v = .ref p ∧ H2 p = some (.tup xs)) :=
  evp_cb1P h fun v H1 e1 hv Q q => by
    obtain ⟨p, rfl, hp⟩ := hv
    exact ⟨p, xs, rfl, .inl ⟨.of hp, fun l hl => q _ _ (Ex.new hl) ⟨l, rfl, upd_same⟩⟩⟩
theorem rc_int {b : Bool} : RC (fun xs H Q => (∃ i, xs = [V.int i] ∧ Q (.int i) H) ∨ ∃ k, xs = [V.bl k] ∧ Q (.int (if k then 1 else 0)) H) [.bl b] H (.int (if b then 1 else 0)) := fun H1 e Q q => .inr ⟨b, rfl, q H1 (Ex.refl _)⟩
end
end SC

/-! ## ScB2 -/
/-! check_plan. -/
namespace SC
open PySem PySem.Spec PyProof.Rows L2 Evl
section
variable {P : Program} {w : World} {K : PySem.W.Frag} {mg : Str → Option Value} {base : Heap} {f : Addr} {fd : FuncData}
/-- climbers of distance k + 1 in the first i rows -/
def tot (pl : List Row) (i k : Nat) : Int := ((pl.take i).map fun r => if r.d = (k : Int) + 1 then r.n else 0).sum
theorem tot_succ {pl : List Row} {i : Nat} {r : Row} (h : pl[i]? = some r) (k : Nat) : tot pl (i + 1) k = tot pl i k + if r.d = (k : Int) + 1 then r.n else 0 := by
  unfold tot
  rw [List.take_add_one, h, List.map_append, List.sum_append]
  simp
def spCheckPlan : Sp := fun vs H Q _ => ∃ (a b d : Addr) (rs c : List Int) (pl : List Row), vs = [.ref a, .ref b, .ref d] ∧ LI H a rs ∧ Sched rs ∧ TuI H b c ∧ Cnt c ∧ PlH H d pl ∧ GoodPlan rs c pl ∧ RetV .non H Q
theorem sp_checkPlan {H : Hp} {a b d : Addr} {rs c : List Int} {pl : List Row} (ha : LI H a rs) (S : Sched rs) (hb : TuI H b c) (C : Cnt c) (hd : PlH H d pl) (G : GoodPlan rs c pl) : SpV spCheckPlan [.ref a, .ref b, .ref d] H .non := fun H1 e Q k E => ⟨a, b, d, rs, c, pl, rfl, e _ _ ha, S, e _ _ hb, C, hd.up e, G, k⟩
theorem scCheckPlan : FnScope ["schedule", "counts", "plan", "totals", "distance", "first", "count", "due"] ["schedule", "counts", "plan"] (defScope sCheckPlan) := ⟨rfl, rfl, rfl, by decide +kernel, rfl, by decide +kernel, by decide +kernel⟩
theorem due_list (c : List Int) (n : Nat) : c.take n ++ List.replicate (n - (c.take n).length) 0 = (List.range n).map fun k => c.getD k 0 := by
  apply List.ext_getElem
  · simp; omega
  · intro i h1 h2
    have hi : i < n := by simpa using h2
    rw [List.getElem_map, List.getElem_range]
    by_cases h : i < (c.take n).length
    · rw [List.getElem_append_left h]
      have : i < c.length := by rw [List.length_take] at h; omega
      simp [List.getD_eq_getElem?_getD, this]
    · rw [List.getElem_append_right (by omega), List.getElem_replicate]
      have : c.length ≤ i := by rw [List.length_take] at h; omega
      simp [List.getD_eq_getElem?_getD, this]
theorem ok_checkPlan (F : Fun K "check_plan" "check_plan" sCheckPlan f fd) (B : Bt mg) (c1 : Callee P w K mg base "require_schedule" ["schedule"] 3 spReqSched) (c2 : Callee P w K mg base "require_counts" ["counts"] 4 spReqCounts)
    (c3 : Callee P w K mg base "require_plan" ["schedule", "plan"] 3 spReqPlan) : FnOk P w K mg base CX0 5 f fd ["schedule", "counts", "plan"] spCheckPlan := by
  refine F.ok scCheckPlan (fun vs H Q E h => ?_) (fun cdv A outer s H vs Q E hr h => ?_)
  · obtain ⟨a, b, d, rs, c, pl, rfl, _⟩ := h
    rfl
  · obtain ⟨a, b, d, rs, c, pl, rfl, ha, S, hb, C, hd, G, k⟩ := h
    refine ⟨_, pss_cons (ps_expr (pe_cal c1 (hr.mono (by decide)) (pa_cons (pv 0) pa_nil))) (pss_cons (ps_expr (pe_cal c2 hr (pa_cons (pv 1) pa_nil))) (pss_cons (ps_expr (pe_cal c3 (hr.mono (by decide)) (pa_cons (pv 0) (pa_cons (pv 2) pa_nil))))
      (pss_cons (ps_set (i := 3) scCheckPlan.nd rfl (.inl rfl) (pe_op op_rep (pe_lst (pa_cons pe_int pa_nil)) (pe_callB call_len_seq (by rfl) B.len PySem.boot_len (pa_cons (pv 0) pa_nil))))
      (pss_cons (ps_for PassesOwn.never rfl (pi_list (pv 2)) (pg_tup rfl (pgs_cons (pg_name (i := 4) scCheckPlan.nd rfl (.inl rfl)) (pgs_cons (pg_name (i := 5) scCheckPlan.nd rfl (.inl rfl)) (pgs_cons (pg_name (i := 6) scCheckPlan.nd rfl (.inl rfl)) pgs_nil))))
        (pss_one (ps_augS (pv 3) (pe_op op_sub (pv 4) pe_int) SCR.get_list (pv 6) ip_add set_list)))
      (pss_cons (ps_set (i := 7) scCheckPlan.nd rfl (.inl rfl) (pe_callTy call_list_of (by rfl) B.list (by decide +kernel) (pa_cons (pe_slice sl_tupA (pv 1) po_none (po_some (pe_callB call_len_seq (by rfl) B.len PySem.boot_len (pa_cons (pv 0) pa_nil)))) pa_nil)))
      (pss_one (ps_if (pt_cmpR (op_neD hr.units) (pv 3) (pe_op op_cat (pv 7) (pe_op op_rep (pe_lst (pa_cons pe_int pa_nil)) (pe_op op_sub (pe_callB call_len_seq (by rfl) B.len PySem.boot_len (pa_cons (pv 0) pa_nil)) (pe_callB call_len_seq (by rfl) B.len PySem.boot_len (pa_cons (pv 7) pa_nil))))) (nomark _)) (pss_one ps_never) pss_nil))))))), ?_⟩
    obtain ⟨ads, hd1, hd2, hd3⟩ := id hd
    have hsl := S.len
    have hcl := C.len
    refine q_drop (ev_call (ea_cons (ev_var rfl) ea_nil) (sp_reqSched ha S)) fun H1 e1 => q_drop (ev_call (ea_cons (ev_var rfl) ea_nil) (sp_reqCounts (e1 _ _ hb) C)) fun H2 e2 => ?_
    have e2 := e1.trans e2
    refine q_drop (ev_call (ea_cons (ev_var rfl) (ea_cons (ev_var rfl) ea_nil)) (sp_reqPlan (e2 _ _ ha) S (hd.up e2) fun r hr => G.ok hr)) fun H3 e3 => ?_
    have e3 := e2.trans e3
    refine q_asgL (el_rep (k := rs.length) (el_lst (ea_cons ev_c ea_nil) (by decide)) (fun H1 e => ev_lenI (ev_var rfl) (e _ _ (e3 _ _ ha))) (by omega) (by omega) (by omega)) fun t H4 ht e4 h4 => ?_
    have e4 := e3.trans e4
    refine q_forL (ev_var rfl) (.of (e4 _ _ hd1)) (fun i σ' H' => (∃ x y z, σ' = [some (.ref a), some (.ref b), some (.ref d), some (.ref t), x, y, z, none]) ∧ Ex H H' ∧ LI H' t ((List.range rs.length).map (tot pl i)))
      (fun H5 e5 => ⟨⟨none, none, none, rfl⟩, e4.trans e5, ?_⟩) (fun i σ' H' _ h => .of (h.2.1 _ _ hd1)) (fun i x σ' H' hx h => ?_) (fun σ' H5 h => ?_)
    · rw [LI, e5 _ _ h4]
      congr 2
      apply List.ext_getElem
      · simp
      · intro i h1 h2
        simp [tot]
    · obtain ⟨⟨_, _, _, rfl⟩, e5, hT⟩ := h
      obtain ⟨r', hr', rfl⟩ := get_ref hx
      have hlt := (List.getElem?_eq_some_iff.mp hr').1
      have hg : pl[i]? = some pl[i] := List.getElem?_eq_getElem (by omega)
      have hR := hd3 i r' _ hr' hg
      have R := G.ok (List.getElem_mem (show i < pl.length by omega))
      generalize pl[i] = r at *
      have hd1' := R.d1
      have hd2' := R.d2
      refine g_tup3 (e5 _ _ hR) ?_
      refine s_augL (j := (r.d - 1).toNat) (m := tot pl i (r.d - 1).toNat) (n := r.n) (ev_var rfl) (ev_is (ev_sub (ev_var rfl) ev_c) (by congr 1; omega)) (ev_var rfl) hT (by rw [List.getElem?_map, range_at _ (by omega)]; rfl) fun H6 e6 => ⟨⟨_, _, _, rfl⟩, Ex.mut (e5.trans e6) (fresh_back e3 ht), ?_⟩
      rw [LI, upd_same, map_set_int, set_range]
      congr 3
      refine List.map_congr_left fun k hk => ?_
      rw [tot_succ hg]
      by_cases hk : k = (r.d - 1).toNat
      · rw [if_pos hk, if_pos (by omega), hk]
      · rw [if_neg hk, if_neg (by omega)]
        omega
    · obtain ⟨⟨_, _, _, rfl⟩, e5, hT⟩ := h
      refine q_asgP (P := IsL ((c.take rs.length).map V.int)) (evp_cb1P (evp_slT (n := rs.length) (ev_var rfl) (e5 _ _ hb) (ev_lenI (ev_var rfl) (e5 _ _ ha))) ?_) fun v H6 e6 hv => ?_
      · rintro v H6 e6 ⟨p, rfl, hp⟩ Q' q'
        exact ⟨p, _, rfl, .inr (.of hp), fun l hl => q' _ _ (Ex.new hl) ⟨l, rfl, upd_same⟩⟩
      · obtain ⟨u, rfl, hu⟩ := hv
        have e6 := e5.trans e6
        have hT6 : LI H6 t ((List.range rs.length).map fun k => c.getD k 0) := by
          have : (List.range rs.length).map (tot pl pl.length) = (List.range rs.length).map fun k => c.getD k 0 := by
            refine List.map_congr_left fun k hk => ?_
            rw [← G.tot k (List.mem_range.mp hk)]
            unfold tot
            rw [List.take_length]
          rw [← this]
          rw [List.length_map, hd2] at hT
          exact (by assumption : Ex _ H6) _ _ hT
        refine s_guard (et_test (ev_opPP (isl_v (ev_var rfl) hT6) (isl_l (el_cat (ys := List.replicate (rs.length - (c.take rs.length).length) (V.int 0)) (isl_v (ev_var rfl) hu) (isl_l (el_rep (el_lst (ea_cons ev_c ea_nil) (by decide)) (fun H1 e => ev_sub (ev_lenI (ev_var rfl) (e _ _ (e6 _ _ ha))) (ev_lenI (ev_var rfl) (e _ _ hu))) ?_ ?_ ?_)) ?_)) ?_ (fun v H1 H2 e h => h.up e))) fun H7 e7 => k H7 (e6.trans e7)
        · omega
        · rw [List.length_take]; omega
        · omega
        · simp; omega
        · rintro v w H7 e7 ⟨p, rfl, hp⟩ ⟨q, rfl, hq⟩
          refine rv_neInts hp ?_
          rw [hq, ← due_list c rs.length, List.map_append, List.map_replicate]
end
end SC

/-! ## ScB3 -/
/-! split_of. -/
namespace SC
open PySem PySem.Spec PyProof.Rows L2 Evl
/-- climbers in group g after i rows -/
def cellN (rs ch : List Int) (pl : List Row) (i : Nat) (g : Int) (k : Nat) : Int := ((pl.take i).map (cellR rs ch g k)).sum
theorem cellN_succ {rs ch : List Int} {pl : List Row} {i : Nat} {r : Row} (h : pl[i]? = some r) (g : Int) (k : Nat) : cellN rs ch pl (i + 1) g k = cellN rs ch pl i g k + cellR rs ch g k r := by
  unfold cellN
  rw [List.take_add_one, h, List.map_append, List.sum_append]
  simp
abbrev rowN (rs ch : List Int) (pl : List Row) (n i : Nat) (g : Nat) : List Int := (List.range n).map (cellN rs ch pl i (g : Int))
/-- the far climbers that t of them have been put in -/
def farN (rs c ch : List Int) (t k : Nat) : Int := if rs.length ≤ k + ch.length ∧ k + ch.length < rs.length + t then c.getD (k + ch.length) 0 else 0
theorem Small.drop {rs : List Int} (S : Small rs) (i : Nat) : Sched (rs.drop i) := ⟨fun x hx => S.two x (List.mem_of_mem_drop hx), fun x hx => S.five x (List.mem_of_mem_drop hx), by have := S.len; rw [List.length_drop]; omega⟩
section
variable {P : Program} {w : World} {K : PySem.W.Frag} {mg : Str → Option Value} {base : Heap} {f : Addr} {fd : FuncData}
def spSplitOf : Sp := fun vs H Q _ => ∃ (a b d e : Addr) (rs c : List Int) (pl : List Row) (ch : List Int), vs = [.ref a, .ref b, .ref d, .ref e] ∧ LI H a rs ∧ Small rs ∧ TuI H b c ∧ Cnt c ∧ PlH H d pl ∧ GoodPlan rs c pl ∧ LI H e ch ∧ Ok rs ch ∧ ch.length < rs.length ∧
  RetP (fun v H2 => ∃ p, v = .ref p ∧ SplH H2 p (stP rs c pl ch)) H Q
theorem sp_splitOf {H : Hp} {a b d e : Addr} {rs c : List Int} {pl : List Row} {ch : List Int} (ha : LI H a rs) (S : Small rs) (hb : TuI H b c) (C : Cnt c) (hd : PlH H d pl) (G : GoodPlan rs c pl) (he : LI H e ch) (o : Ok rs ch) (hl : ch.length < rs.length) :
    SpP spSplitOf [.ref a, .ref b, .ref d, .ref e] H (fun v H2 => ∃ p, v = .ref p ∧ SplH H2 p (stP rs c pl ch)) := fun H1 x Q k E => ⟨a, b, d, e, rs, c, pl, ch, rfl, x _ _ ha, S, x _ _ hb, C, hd.up x, G, x _ _ he, o, hl, k⟩
theorem scSplitOf : FnScope ["schedule", "counts", "plan", "choices", "done", "sizes", "numbers", "found", "row", "length", "entries", "start", "index", "group", "chosen"] ["schedule", "counts", "plan", "choices"] (defScope sSplitOf) := ⟨rfl, rfl, rfl, by decide +kernel, rfl, by decide +kernel, by decide +kernel⟩
theorem ok_splitOf (F : Fun K "split_of" "split_of" sSplitOf f fd) (B : Bt mg) (c1 : Callee P w K mg base "require_rounds" ["schedule"] 4 spReqRounds) (c2 : Callee P w K mg base "check_plan" ["schedule", "counts", "plan"] 5 spCheckPlan)
    (c3 : Callee P w K mg base "require_choices" ["schedule", "choices", "limit"] 3 spReqChoices) (c4 : Callee P w K mg base "require_small_round" ["schedule"] 1 spSmallRound) (c5 : Callee P w K mg base "products" ["schedule"] 1 spProducts)
    (c6 : Callee P w K mg base "word_numbers" ["schedule", "choices"] 1 spWordNums) (c7 : Callee P w K mg base "climbers_between" ["size", "row", "start", "length"] 1 spBetweenC) : FnOk P w K mg base CX0 6 f fd ["schedule", "counts", "plan", "choices"] spSplitOf := by
  refine F.ok scSplitOf (fun vs H Q E h => ?_) (fun cdv A outer s H vs Q E hr h => ?_)
  · obtain ⟨a, b, d, e, rs, c, pl, ch, rfl, _⟩ := h
    rfl
  · obtain ⟨a, b, d, e, rs, c, pl, ch, rfl, ha, S, hb, C, hd, G, he, o, hl, k⟩ := h
    refine ⟨_, pss_cons (ps_expr (pe_cal c1 (hr.mono (by decide)) (pa_cons (pv 0) pa_nil))) (pss_cons (ps_expr (pe_cal c2 hr (pa_cons (pv 0) (pa_cons (pv 1) (pa_cons (pv 2) pa_nil)))))
      (pss_cons (ps_expr (pe_cal c3 (hr.mono (by decide)) (pa_cons (pv 0) (pa_cons (pv 3) (pa_cons (pe_op op_sub (pe_callB call_len_seq (by rfl) B.len PySem.boot_len (pa_cons (pv 0) pa_nil)) pe_int) pa_nil)))))
      (pss_cons (ps_set (i := 4) scSplitOf.nd rfl (.inl rfl) (pe_callB call_len_seq (by rfl) B.len PySem.boot_len (pa_cons (pv 3) pa_nil)))
      (pss_cons (ps_expr (pe_cal c4 (hr.mono (by decide)) (pa_cons (pe_slice sl_list (pv 0) (po_some (pv 4)) po_none) pa_nil)))
      (pss_cons (ps_par (i := 5) (j := 6) (by rfl) scSplitOf.nd rfl rfl (by decide) rfl rfl (pa_cons (pe_cal c5 (hr.mono (by decide)) (pa_cons (pv 0) pa_nil)) (pa_cons (pe_cal c6 (hr.mono (by decide)) (pa_cons (pv 0) (pa_cons (pv 3) pa_nil))) pa_nil)) (by rfl))
      (pss_cons (ps_setLc (i := 7) (own := [("group", 13)]) (g := gName 13) (tt := tYes) rfl scSplitOf.nd rfl rfl (sw_true rfl rfl rfl (by decide +kernel)) (pi_range1 (by rfl) B.range (pa_cons (pe_ix ix_list (pv 0) (pv 4) (fun _ _ => rfl)) pa_nil))
          (blkOk_by (N := ["schedule", "counts", "plan", "choices", "done", "sizes", "numbers", "found", "row", "length", "entries", "start", "index", "group", "chosen"]) (sc := defScope sSplitOf) (by decide +kernel))
          (fun _ _ _ _ _ => pg_name (i := 13) scSplitOf.nd rfl (.inl rfl)) (fun _ _ _ _ _ => pts_nil) (fun _ _ _ _ _ => pe_op op_rep (pe_lst (pa_cons pe_int pa_nil)) (pe_callB (call_lenK K) (by rfl) B.len PySem.boot_len (pa_cons (pv 1) pa_nil))))
      (pss_cons (ps_for PassesOwn.never rfl (pi_list (pv 2)) (pg_name (i := 8) scSplitOf.nd rfl (.inl rfl))
        (pss_one (ps_if (pt_cmpR op_gt (pe_ix ix_tup (pv 8) pe_int (fun _ _ => rfl)) (pv 4) (nomark _))
          (pss_cons (ps_set (i := 9) scSplitOf.nd rfl (.inl rfl) (pe_op op_fdiv (pe_ix ix_list (pv 5) (pe_ix ix_tup (pv 8) pe_int (fun _ _ => rfl)) (fun _ _ => rfl)) (pe_ix ix_list (pv 5) (pe_op op_add (pv 4) pe_int) (fun _ _ => rfl))))
          (pss_one (ps_for PassesOwn.never rfl (pi_enum (by rfl) B.enum (pa_cons (pv 7) pa_nil)) (pg_tup rfl (pgs_cons (pg_name (i := 13) scSplitOf.nd rfl (.inl rfl)) (pgs_cons (pg_name (i := 10) scSplitOf.nd rfl (.inl rfl)) pgs_nil)))
            (pss_cons (ps_set (i := 11) scSplitOf.nd rfl (.inl rfl) (pe_op op_mul (pe_op op_add (pe_op op_mul (pe_ix ix_list (pv 6) (pe_un un_neg pe_int) (fun _ _ => rfl)) (pe_ix ix_list (pv 0) (pv 4) (fun _ _ => rfl))) (pv 13)) (pv 9)))
            (pss_one (ps_augS (pv 10) (pe_op op_sub (pe_op op_sub (pe_ix ix_tup (pv 8) pe_int (fun _ _ => rfl)) (pv 4)) pe_int) SCR.get_list
              (pe_cal c7 (hr.mono (by decide)) (pa_cons (pe_ix ix_list (pv 5) (pe_ix ix_tup (pv 8) pe_int (fun _ _ => rfl)) (fun _ _ => rfl)) (pa_cons (pv 8) (pa_cons (pv 11) (pa_cons (pv 9) pa_nil))))) ip_add set_list)))))) pss_nil)))
      (pss_cons (ps_if (pt_val (pe_callB (cr_all rfl) (by rfl) B.all (by decide +kernel) (pa_cons (pe_lc (own := [("chosen", 14)]) (g := gName 14) (tt := tYes) rfl scSplitOf.nd (pi_list (pv 3))
          (blkOk_by (N := ["schedule", "counts", "plan", "choices", "done", "sizes", "numbers", "found", "row", "length", "entries", "start", "index", "group", "chosen"]) (sc := defScope sSplitOf) (by decide +kernel))
          (fun _ _ _ _ _ => pg_name (i := 14) scSplitOf.nd rfl (.inl rfl)) (fun _ _ _ _ _ => pts_nil) (fun _ _ _ _ _ => pe_cmpR op_eq (pv 14) pe_int (nomark _))) pa_nil)))
        (pss_one (ps_for PassesOwn.never rfl (pi_range2 (by rfl) B.range (pa_cons (pe_callB call_len_seq (by rfl) B.len PySem.boot_len (pa_cons (pv 0) pa_nil)) (pa_cons (pe_callB call_len_seq (by rfl) B.len PySem.boot_len (pa_cons (pv 1) pa_nil)) pa_nil))) (pg_name (i := 12) scSplitOf.nd rfl (.inl rfl))
          (pss_one (ps_augS (pe_ix ix_list (pv 7) pe_int (fun _ _ => rfl)) (pe_op op_sub (pv 12) (pv 4)) SCR.get_list (pe_ix ix_tup (pv 1) (pv 12) (fun _ _ => rfl)) ip_add set_list)))) pss_nil)
      (pss_one (ps_ret (pe_lc (own := [("entries", 10)]) (g := gName 10) (tt := tYes) rfl scSplitOf.nd (pi_list (pv 7))
          (blkOk_by (N := ["schedule", "counts", "plan", "choices", "done", "sizes", "numbers", "found", "row", "length", "entries", "start", "index", "group", "chosen"]) (sc := defScope sSplitOf) (by decide +kernel))
          (fun _ _ _ _ _ => pg_name (i := 10) scSplitOf.nd rfl (.inl rfl)) (fun _ _ _ _ _ => pts_nil) (fun _ _ _ _ _ => pe_callTy (call_tupleK K) (by rfl) B.tuple (by decide +kernel) (pa_cons (pv 10) pa_nil))))))))))))), ?_⟩
    obtain ⟨ads0, hd1, hd2, hd3⟩ := id hd
    have hsl := S.len
    have hcl := C.len
    have hne : rs ≠ [] := fun z => by rw [z] at hl; simp at hl
    have hq : rs[ch.length]? = some rs[ch.length] := List.getElem?_eq_getElem hl
    generalize hqe : rs[ch.length] = q at *
    have hqd : rs.getD ch.length 0 = q := getD_of hq
    have hq2 := S.two q (List.mem_of_getElem? hq)
    have hq5 := S.five q (List.mem_of_getElem? hq)
    refine q_drop (ev_call (ea_cons (ev_var rfl) ea_nil) (sp_reqRounds ha S.toSched hne)) fun H1 e1 => ?_
    refine q_drop (ev_call (ea_cons (ev_var rfl) (ea_cons (ev_var rfl) (ea_cons (ev_var rfl) ea_nil))) (sp_checkPlan (e1 _ _ ha) S.toSched (e1 _ _ hb) C (hd.up e1) G)) fun H2 e2 => ?_
    have e2 := e1.trans e2
    refine q_drop (ev_call (ea_cons (ev_var rfl) (ea_cons (ev_var rfl) (ea_cons (ev_sub (ev_lenI (ev_var rfl) (e2 _ _ ha)) ev_c) ea_nil))) (sp_reqChoices (e2 _ _ ha) S.toSched (e2 _ _ he) o (by omega))) fun H3 e3 => ?_
    have e3 := e2.trans e3
    refine q_asg (ev_lenI (ev_var rfl) (e3 _ _ he)) fun H4 e4 => ?_
    have e4 := e3.trans e4
    refine q_drop (v := .non) (ev_call1P (isl_l (el_slI (n := ch.length) (ev_var rfl) (e4 _ _ ha) (ev_var rfl))) ?_) fun H5 e5 => ?_
    · rintro v H5 e5 ⟨p, rfl, hp⟩
      exact sp_smallRound hp (S.drop _) (fun z => by have := congrArg List.length z; rw [List.length_drop, List.length_nil] at this; omega)
    have e5 := e4.trans e5
    refine q_parP (isl_l (el_call (ea_cons (ev_var rfl) ea_nil) (sp_products (e5 _ _ ha) S.toSched))) (isl_l (el_call (ea_cons (ev_var rfl) (ea_cons (ev_var rfl) ea_nil)) (sp_wordNums (e5 _ _ ha) S.toSched (e5 _ _ he) (by omega)))) fun v w H6 H7 e6 hv e7 hw => ?_
    obtain ⟨ps, rfl, hps⟩ := hv.up e7
    obtain ⟨ns, rfl, hns⟩ := hw
    have e7 := e5.trans (e6.trans e7)
    refine q_asgP (evp_lcF (xs := List.replicate c.length (V.int 0)) (src_rng1 (n := q.toNat) (ea_cons (ev_is (ev_ixI (j := ch.length) (ev_var rfl) (ev_var rfl) (e7 _ _ ha) rfl hq) (by rw [Int.toNat_of_nonneg (by omega)])) ea_nil) (by omega)) (by omega) (fun _ => rfl) (fun i x H8 hi hx e8 => el_rep (el_lst (ea_cons ev_c ea_nil) (by decide)) (fun H9 e9 => ev_lenTI (ev_var rfl) (e9 _ _ (e8 _ _ (e7 _ _ hb)))) (by omega) (by omega) (by omega))) fun v H8 e8 hv => ?_
    obtain ⟨D, ads, rfl, hadl, Fc⟩ := hv
    have F0 : Fnd H7 H8 D ads (rowN rs ch pl c.length 0) := ⟨e8, Fc.lst, fun g a' h => by
      rw [LI, Fc.each a' (List.mem_of_getElem? h)]
      congr 2
      apply List.ext_getElem
      · simp
      · intro i h1 h2
        simp [cellN]⟩
    have nd := Fc.nd
    have out := Fc.out
    have news := Fc.news
    clear Fc
    have fin : ∀ (x8 x9 x10 x11 x12 x13 : Option V) (H' : Hp), Fnd H7 H' D ads (fun g => (List.range c.length).map fun k => cellP rs c pl ch k (g : Int)) →
        tRet (tLc (iList K (tVar 7)) (gName 10) tYes (tCB (rTupleOf K) (tCons (tVar 10) tNil)) [10]) { nx := fun _ H' => Q V.non H', rt := Q } [some (.ref a), some (.ref b), some (.ref d), some (.ref e), some (.int ch.length), some (.ref ps), some (.ref ns), some (.ref D), x8, x9, x10, x11, x12, x13, none] H' := by
      intro x8 x9 x10 x11 x12 x13 H' Fd
      have hg : (stP rs c pl ch).length = ads.length := by
        unfold stP tab
        rw [List.length_map, List.length_range, hqd, hadl]
      refine s_retP (evp_lc (n := (ads.map V.ref).length) (src_list (ev_var rfl) Fd.lst) (by rw [List.length_map, hadl]; omega) (fun _ => rfl) (fun i x H => ∃ p, x = .ref p ∧ TuI H p ((stP rs c pl ch).getD i [])) (tup_mono _) (fun i x H9 hi hx e9 => ?_)) fun v H9 e9 hv => ?_
      · obtain ⟨r', hr', rfl⟩ := get_ref hx
        have hL := e9 _ _ (Fd.each i r' hr')
        have hlt := (List.getElem?_eq_some_iff.mp hr').1
        have hrow : (stP rs c pl ch).getD i [] = (List.range c.length).map fun k => cellP rs c pl ch k (i : Int) := by
          refine getD_of ?_
          unfold stP tab
          rw [hqd, List.getElem?_map, List.getElem?_range (by omega)]
          rfl
        rw [hrow]
        intro H10 e10 Q' q'
        refine ⟨.ref r', rfl, r', _, rfl, .inl ⟨.of (e10 _ _ hL), fun l hl => q' _ _ (Ex.new hl) ⟨l, rfl, upd_same⟩⟩⟩
      · obtain ⟨p, rfl, hp⟩ := hv.spl (by rw [hg, List.length_map])
        exact k _ _ ((e7.trans Fd.ex).trans e9) ⟨p, rfl, hp⟩
    refine q_forLn (ev_var rfl) (.of ((e7.trans F0.ex) _ _ hd1)) (fun i σ' H' => (∃ x8 x9 x10 x11 x13 : Option V, σ' = [some (.ref a), some (.ref b), some (.ref d), some (.ref e), some (.int ch.length), some (.ref ps), some (.ref ns), some (.ref D), x8, x9, x10, x11, none, x13, none]) ∧ Fnd H7 H' D ads (rowN rs ch pl c.length i))
      (fun H9 e9 => ⟨⟨none, none, none, none, none, rfl⟩, F0.up e9⟩) (fun i σ' H' _ h => .of ((e7.trans h.2.ex) _ _ hd1)) (fun i x σ' H' hx h => ?_) (fun σ' H' h => ?_)
    · -- a row of the plan
      obtain ⟨⟨x8, x9, x10, x11, x13, rfl⟩, Fi⟩ := h
      obtain ⟨r', hr', rfl⟩ := get_ref hx
      have hlt := (List.getElem?_eq_some_iff.mp hr').1
      have hg : pl[i]? = some pl[i] := List.getElem?_eq_getElem (by omega)
      have hR := (e7.trans Fi.ex) _ _ (hd3 i r' _ hr' hg)
      have R := G.ok (List.getElem_mem (show i < pl.length by omega))
      have hshort := G.short (List.getElem_mem (show i < pl.length by omega))
      generalize pl[i] = r at *
      have hd1' := R.d1
      have hd2' := R.d2
      have hrow0 : ∀ {σ : L2.St} {H9 : Hp} {te : TE}, Ex H' H9 → Ev te σ H9 (.ref r') → Ev (tOp (rIxT K) te (tC (.int 0))) σ H9 (.int r.d) := fun {σ H9 te} e9 hv => ev_op hv ev_c (rv_ixT (.of (e9 _ _ hR)) (at_of (j := 0) rfl rfl))
      refine s_if (b := decide ((ch.length : Int) < r.d)) (et_test (ev_op (hrow0 (Ex.refl _) (ev_var rfl)) (ev_var rfl) rv_I0)) (fun hb' H9 e9 => ?_) (fun hb' H9 e9 => ?_)
      · -- climbers who are still in the game
        have hdn : (ch.length : Int) < r.d := of_decide_eq_true hb'
        have hdn' : ch.length + 1 ≤ r.d.toNat := by omega
        have F9 := Fi.up e9
        have hps9 := F9.ex _ _ hps
        have hns9 := F9.ex _ _ hns
        have m0 := mid_pos S.two hdn'
        have m1 := S.mid_lt hdn'
        have p0 := pp_pos S.two (ch.length + 1)
        have p1 := S.pp_lt (ch.length + 1)
        refine q_asg (v := .int (mid rs (ch.length + 1) r.d.toNat)) (ev_div (ev_ixI (j := r.d.toNat) (ev_var rfl) (hrow0 e9 (ev_var rfl)) hps9 (by omega) (prods_at (by omega))) (ev_ixI (j := ch.length + 1) (ev_var rfl) (ev_add (ev_var rfl) ev_c) hps9 (by omega) (prods_at (by omega))) p0 (by omega)) fun H10 e10 => ?_
        have F10 := F9.up e10
        refine s_forE (ea_cons (ev_var rfl) ea_nil) F10.lst (fun gi σ' H'' => (∃ x10 x11 x13 : Option V, σ' = [some (.ref a), some (.ref b), some (.ref d), some (.ref e), some (.int ch.length), some (.ref ps), some (.ref ns), some (.ref D), some (.ref r'), some (.int (mid rs (ch.length + 1) r.d.toNat)), x10, x11, none, x13, none]) ∧ Fnd H7 H'' D ads (fun g => if g < gi then rowN rs ch pl c.length (i + 1) g else rowN rs ch pl c.length i g))
          (fun H11 e11 => ⟨⟨_, _, _, rfl⟩, (F10.up e11).same fun g _ => by rw [if_neg (Nat.not_lt_zero g)]⟩) (fun gi σ' H'' _ h => h.2.lst) (fun gi x σ' H'' hx h H11 e11 => ?_) (fun σ' H'' h => ?_)
        · obtain ⟨⟨_, _, _, rfl⟩, Fg⟩ := h
          obtain ⟨a', ha', rfl⟩ := get_ref hx
          have Fg := Fg.up e11
          have hlt' := (List.getElem?_eq_some_iff.mp ha').1
          have hR11 := (e7.trans Fg.ex) _ _ (hd3 i r' _ hr' hg)
          have hnl : LI H11 ns ((List.range ch.length).map (Sx rs ch) ++ [Sx rs ch ch.length]) := by
            have := Fg.ex _ _ hns
            unfold wnums at this
            rw [List.range_succ, List.map_append] at this
            exact this
          refine q_asg (v := .int ((Sx rs ch ch.length * q + (gi : Int)) * mid rs (ch.length + 1) r.d.toNat)) (ev_mulR (ev_add (ev_mulR (ev_last (ev_var rfl) hnl) (ev_ixI (j := ch.length) (ev_var rfl) (ev_var rfl) ((e7.trans Fg.ex) _ _ ha) rfl hq) (by omega) (by omega)) (ev_var rfl)) (ev_var rfl) (by omega) (by omega)) fun H12 e12 => ?_
          have Fg := Fg.up e12
          have hR12 := e12 _ _ hR11
          have hrd : ∀ {σ : L2.St} {te : TE}, Ev te σ H12 (.ref r') → Ev (tOp (rIxT K) te (tC (.int 0))) σ H12 (.int r.d) := fun {σ te} hv => ev_op hv ev_c (rv_ixT (.of hR12) (at_of (j := 0) rfl rfl))
          have hrow := Fg.each gi a' ha'
          rw [if_neg (Nat.lt_irrefl gi)] at hrow
          refine s_augL (j := (r.d - ch.length - 1).toNat) (m := cellN rs ch pl i gi (r.d - ch.length - 1).toNat) (n := btw r.n (pp rs r.d.toNat) (mid rs (ch.length + 1) r.d.toNat) (((Sx rs ch ch.length * q + (gi : Int)) * mid rs (ch.length + 1) r.d.toNat - r.f) % pp rs r.d.toNat))
            (ev_var rfl) (ev_is (ev_sub (ev_sub (hrd (ev_var rfl)) (ev_var rfl)) ev_c) (by congr 1; omega)) (ev_call (ea_cons (ev_ixI (j := r.d.toNat) (ev_var rfl) (hrd (ev_var rfl)) (Fg.ex _ _ hps) (by omega) (prods_at (by omega))) (ea_cons (ev_var rfl) (ea_cons (ev_var rfl) (ea_cons (ev_var rfl) ea_nil)))) (sp_betweenC hR12 (pp_pos S.two _) (S.pp_lt _) (Int.le_of_lt m0) m1))
            hrow (by rw [List.getElem?_map, range_at _ (by omega)]; rfl) fun H13 e13 => ⟨⟨_, _, _, rfl⟩, ?_⟩
          rw [map_set_int, set_range]
          refine ((Fg.up e13).set nd out news ha' _).same fun g hgl => ?_
          by_cases hgg : g = gi
          · subst hgg
            rw [if_pos rfl, if_pos (Nat.lt_succ_self g)]
            refine List.map_congr_left fun kk hkk => ?_
            rw [cellN_succ hg]
            unfold cellR
            rw [hqd]
            by_cases hke : kk = (r.d - ch.length - 1).toNat
            · rw [if_pos hke, if_pos (by omega), hke]
            · rw [if_neg hke, if_neg (by omega), Int.add_zero]
          · rw [if_neg hgg]
            by_cases hlg : g < gi
            · rw [if_pos hlg, if_pos (by omega)]
            · rw [if_neg hlg, if_neg (by omega)]
        · obtain ⟨⟨_, _, _, rfl⟩, Fg⟩ := h
          exact ⟨⟨_, _, _, _, _, rfl⟩, Fg.same fun g hgl => by rw [List.length_map, if_pos hgl]⟩
      · -- climbers who have arrived or left
        have hdn : ¬ (ch.length : Int) < r.d := of_decide_eq_false hb'
        refine ⟨⟨_, _, _, _, _, rfl⟩, (Fi.up e9).same fun g _ => List.map_congr_left fun kk _ => ?_⟩
        rw [cellN_succ hg]
        unfold cellR
        rw [if_neg (by omega), Int.add_zero]
    · -- the far climbers
      obtain ⟨⟨x8, x9, x10, x11, x13, rfl⟩, Fi⟩ := h
      rw [List.length_map, hd2] at Fi
      have hz : ∀ g k : Nat, cellN rs ch pl pl.length (g : Int) k = (pl.map (cellR rs ch (g : Int) k)).sum := fun g k => by
        unfold cellN
        rw [List.take_length]
      refine q_if (b := zero0 ch) (et_B (ev_cb1P (evl_lc (n := (ch.map V.int).length) (fun i => .bl (decide (ch.getD i 0 = 0))) (src_list (ev_var rfl) ((e7.trans Fi.ex) _ _ he)) (by rw [List.length_map]; omega) (fun _ => rfl) (fun i x H9 hi hx e9 => ?_)) fun v H9 e9 hv => ?_)) (fun hb' H9 e9 => ?_) (fun hb' H9 e9 => ?_)
      · obtain ⟨z, hz', rfl⟩ := get_int hx
        rw [getD_of hz']
        exact ev_is (ev_op (ev_var rfl) ev_c (rv_eq rfl)) (by congr 1; rw [dec_int, Bool.beq_eq_decide_eq])
      · obtain ⟨L, rfl, hL⟩ := hv
        refine fun H10 e10 Q' q' => ⟨L, (List.range (ch.map V.int).length).map fun i => decide (ch.getD i 0 = 0), rfl, .of (by rw [e10 _ _ hL, map_bl _ fun i => decide (ch.getD i 0 = 0)]), ?_⟩
        have : ((List.range (ch.map V.int).length).map fun i => decide (ch.getD i 0 = 0)).all id = zero0 ch := by
          rw [List.length_map, show ((List.range ch.length).map fun i => decide (ch.getD i 0 = 0)) = ch.map (fun x => decide (x = 0)) by
            conv => rhs; rw [← range_getD ch]
            rw [List.map_map]
            rfl]
          unfold zero0
          rw [List.all_map]
          rfl
        rw [this]
        exact q' H10 (Ex.refl _)
      · -- all choices are 0
        have a0 : ads[0]? = some ads[0] := List.getElem?_eq_getElem (by omega)
        refine s_forR2 (lo := (rs.length : Int)) (n := (c.length : Int)) (ea_cons (ev_lenI (ev_var rfl) ((e7.trans (Fi.ex.trans e9)) _ _ ha)) (ea_cons (ev_lenTI (ev_var rfl) ((e7.trans (Fi.ex.trans e9)) _ _ hb)) ea_nil)) ⟨by omega, by omega, by omega, by omega⟩
          (fun t σ' H' => (∃ x12 : Option V, σ' = [some (.ref a), some (.ref b), some (.ref d), some (.ref e), some (.int ch.length), some (.ref ps), some (.ref ns), some (.ref D), x8, x9, x10, x11, x12, x13, none]) ∧ Fnd H7 H' D ads (fun g => (List.range c.length).map fun kk => cellN rs ch pl pl.length (g : Int) kk + if g = 0 then farN rs c ch t kk else 0))
          (fun H10 e10 => ⟨⟨none, rfl⟩, ((Fi.up e9).up e10).same fun g _ => List.map_congr_left fun kk _ => ?_⟩) (fun t σ' H' ht h => ?_) (fun σ' H' h => ?_)
        · have : farN rs c ch 0 kk = 0 := if_neg (by omega)
          rw [this]
          split <;> omega
        · obtain ⟨⟨x12, rfl⟩, Ft⟩ := h
          have hct : c[rs.length + t]? = some (c.getD (rs.length + t) 0) := by
            rw [List.getD_eq_getElem?_getD, List.getElem?_eq_getElem (show rs.length + t < c.length by omega)]
            rfl
          have h0 := Ft.each 0 _ a0
          simp only [↓reduceIte] at h0
          refine s_augL (l := ads[0]) (j := rs.length + t - ch.length) (m := cellN rs ch pl pl.length ((0 : Nat) : Int) (rs.length + t - ch.length) + farN rs c ch t (rs.length + t - ch.length)) (n := c.getD (rs.length + t) 0)
            (ev_op (ev_var rfl) ev_c (rv_ixL (.of Ft.lst) (at_of (j := 0) rfl (by rw [List.getElem?_map, a0]; rfl)))) (ev_is (ev_sub (ev_var rfl) (ev_var rfl)) (by congr 1; omega)) (ev_op (ev_var rfl) (ev_var rfl) (rv_ixT (.of ((e7.trans Ft.ex) _ _ hb)) (at_of (j := rs.length + t) (by omega) (by rw [List.getElem?_map, hct]; rfl))))
            h0 (by rw [List.getElem?_map, range_at _ (by omega)]; rfl) fun H10 e10 => ⟨⟨_, rfl⟩, ?_⟩
          rw [map_set_int, set_range]
          refine ((Ft.up e10).set nd out news a0 _).same fun g hgl => ?_
          by_cases hgg : g = 0
          · subst hgg
            rw [if_pos rfl]
            refine List.map_congr_left fun kk hkk => ?_
            rw [if_pos rfl]
            by_cases hke : kk = rs.length + t - ch.length
            · have z1 : farN rs c ch t kk = 0 := if_neg (by omega)
              have z2 : farN rs c ch (t + 1) kk = c.getD (rs.length + t) 0 := by
                unfold farN
                rw [if_pos (by omega), show kk + ch.length = rs.length + t by omega]
              rw [if_pos hke, ← hke, z1, z2, Int.add_zero]
            · have z1 : farN rs c ch (t + 1) kk = farN rs c ch t kk := by
                unfold farN
                by_cases hh : rs.length ≤ kk + ch.length ∧ kk + ch.length < rs.length + t
                · rw [if_pos hh, if_pos (by omega)]
                · rw [if_neg hh, if_neg (by omega)]
              rw [if_neg hke, z1]
          · simp only [hgg, ↓reduceIte]
        · obtain ⟨⟨x12, rfl⟩, Ft⟩ := h
          refine fin _ _ _ _ _ _ _ (Ft.same fun g _ => List.map_congr_left fun kk hkk => ?_)
          have hkk := List.mem_range.mp hkk
          unfold cellP
          rw [hz]
          congr 1
          by_cases hgg : g = 0
          · rw [if_pos hgg, if_pos (by omega)]
            unfold farN farC
            by_cases hh : rs.length ≤ kk + ch.length
            · by_cases h2 : kk + ch.length < c.length
              · rw [if_pos ⟨hh, by omega⟩, if_pos ⟨hb', hh⟩]
              · rw [if_neg (by omega), if_pos ⟨hb', hh⟩, List.getD_eq_getElem?_getD, List.getElem?_eq_none (by omega)]
                rfl
            · rw [if_neg (by omega), if_neg (fun z => hh z.2)]
          · rw [if_neg hgg, if_neg (by omega)]
      · refine fin _ _ _ _ _ _ _ ((Fi.up e9).same fun g _ => List.map_congr_left fun kk hkk => ?_)
        unfold cellP
        rw [hz]
        have : farC rs c ch kk = 0 := if_neg (by rw [hb']; simp)
        rw [this]
        split <;> omega
end
end SC

/-! ## ScC1 -/
/-! splits.py, and the small defs of players.py. -/
namespace SC
open PySem PySem.Spec PyProof.Rows L2 Evl
abbrev sShared : Stmt := top 41
abbrev sBalanced : Stmt := top 42
abbrev sIsWord : Stmt := top 49
abbrev sIsSeq : Stmt := top 50
abbrev sEven : Stmt := top 51
abbrev sJoint : Stmt := top 52
abbrev sSmallRounds : Stmt := top 53
theorem Small.rest {rs : List Int} (S : Small rs) (i : Nat) : Small (rs.drop i) := by
  refine ⟨S.drop i, ?_⟩
  have h1 := pp_pos S.two i
  have h2 : 0 < prod (rs.drop i) := prod_pos fun x hx => S.two x (List.mem_of_mem_drop hx)
  have h3 := Int.mul_le_mul_of_nonneg_right (show (1 : Int) ≤ pp rs i by omega) (Int.le_of_lt h2)
  have h4 := pp_rest rs i
  have h5 := S.most
  omega
/-- a list that grows, its items things of their own -/
structure Grow (H H' : Hp) (D : Addr) (ads : List Addr) (mk : Nat → HO) : Prop where
  ex : Ex H H'
  lst : H' D = some (.lst (ads.map V.ref))
  out : D ∉ ads
  each : ∀ (g : Nat) (a : Addr), ads[g]? = some a → H' a = some (mk g)
theorem Grow.up {H H' H2 : Hp} {D : Addr} {ads : List Addr} {mk : Nat → HO} (G : Grow H H' D ads mk) (e : Ex H' H2) : Grow H H2 D ads mk := ⟨G.ex.trans e, e _ _ G.lst, G.out, fun g a h => e _ _ (G.each g a h)⟩
theorem Grow.add {H H' H2 : Hp} {D p : Addr} {ads : List Addr} {mk : Nat → HO} (G : Grow H H' D ads mk) (hD : H D = none) (e : Ex H' H2) (hp : H2 p = some (mk ads.length)) (hpD : p ≠ D) : Grow H (upd H2 D (.lst (ads.map V.ref ++ [.ref p]))) D (ads ++ [p]) mk := by
  refine ⟨Ex.mut (G.ex.trans e) hD, by rw [upd_same, List.map_append]; rfl, fun z => ?_, fun g a h => ?_⟩
  · rcases List.mem_append.mp z with z | z
    · exact G.out z
    · exact hpD (List.mem_singleton.mp z).symm
  · by_cases hg : g < ads.length
    · rw [List.getElem?_append_left hg] at h
      rw [upd_ne (fun z => G.out (by rw [← z]; exact List.mem_of_getElem? h))]
      exact e _ _ (G.each g a h)
    · have hl := (List.getElem?_eq_some_iff.mp h).1
      rw [List.length_append, List.length_singleton] at hl
      have ek : g = ads.length := by omega
      subst ek
      rw [List.getElem?_concat_length] at h
      cases h
      rw [upd_ne hpD]
      exact hp
theorem Grow.begin {H H' : Hp} {D : Addr} {mk : Nat → HO} (e : Ex H H') (h : H' D = some (.lst [])) : Grow H H' D [] mk := ⟨e, h, List.not_mem_nil, fun g a h => by simp at h⟩
section
variable {P : Program} {w : World} {K : PySem.W.Frag} {mg : Str → Option Value} {base : Heap} {f : Addr} {fd : FuncData}
/-! ### shared_out -/
def sharedL (count first length groups : Int) : List Int := (List.range groups.toNat).map fun g : Nat => btw count (length * groups) length (((g : Int) * length - first) % (length * groups))
def spShared : Sp := fun vs H Q _ => ∃ count first length groups : Int, vs = [.int count, .int first, .int length, .int groups] ∧ 0 < length ∧ length ≤ 1000 ∧ 0 < groups ∧ groups ≤ 1000 ∧ RetL ((sharedL count first length groups).map V.int) H Q
theorem sp_shared {H : Hp} {count first length groups : Int} (h1 : 0 < length) (h2 : length ≤ 1000) (h3 : 0 < groups) (h4 : groups ≤ 1000) : SpL spShared [.int count, .int first, .int length, .int groups] H ((sharedL count first length groups).map V.int) :=
  fun H1 e Q k E => ⟨count, first, length, groups, rfl, h1, h2, h3, h4, k⟩
theorem scShared : FnScope ["count", "first", "length", "groups", "turns", "rest", "found", "number", "start", "inside", "wrapped"] ["count", "first", "length", "groups"] (defScope sShared) := ⟨rfl, rfl, rfl, by decide +kernel, rfl, by decide +kernel, by decide +kernel⟩
theorem ok_shared (F : Fun K "shared_out" "shared_out" sShared f fd) (B : Bt mg) : FnOk P w K mg base CX0 1 f fd ["count", "first", "length", "groups"] spShared := by
  refine F.ok scShared (fun vs H Q E h => ?_) (fun cdv A outer s H vs Q E hr h => ?_)
  · obtain ⟨count, first, length, groups, rfl, _⟩ := h
    rfl
  · obtain ⟨count, first, length, groups, rfl, h1, h2, h3, h4, k⟩ := h
    refine ⟨_, pss_cons (ps_par (i := 4) (j := 5) (by rfl) scShared.nd rfl rfl (by decide) rfl rfl (pa_cons (pe_op op_fdiv (pv 0) (pe_op op_mul (pv 2) (pv 3))) (pa_cons (pe_op op_mod (pv 0) (pe_op op_mul (pv 2) (pv 3))) pa_nil)) (by rfl))
      (pss_cons (ps_set (i := 6) scShared.nd rfl (.inl rfl) (pe_lst pa_nil))
      (pss_cons (ps_for PassesOwn.never rfl (pi_range1 (by rfl) B.range (pa_cons (pv 3) pa_nil)) (pg_name (i := 7) scShared.nd rfl (.inl rfl))
        (pss_cons (ps_set (i := 8) scShared.nd rfl (.inl rfl) (pe_op op_mod (pe_op op_sub (pe_op op_mul (pv 7) (pv 2)) (pv 1)) (pe_op op_mul (pv 2) (pv 3))))
        (pss_cons (ps_set (i := 9) scShared.nd rfl (.inl rfl) (pe_callB (call_max2 rfl) (by rfl) B.max (by decide +kernel) (pa_cons pe_int (pa_cons (pe_op op_sub (pe_callB (call_min2 rfl) (by rfl) B.min (by decide +kernel) (pa_cons (pv 5) (pa_cons (pe_op op_add (pv 8) (pv 2)) pa_nil))) (pv 8)) pa_nil))))
        (pss_cons (ps_set (i := 10) scShared.nd rfl (.inl rfl) (pe_callB (call_max2 rfl) (by rfl) B.max (by decide +kernel) (pa_cons pe_int (pa_cons (pe_callB (call_min2 rfl) (by rfl) B.min (by decide +kernel) (pa_cons (pv 5) (pa_cons (pe_op op_sub (pe_op op_add (pv 8) (pv 2)) (pe_op op_mul (pv 2) (pv 3))) pa_nil))) pa_nil))))
        (pss_one (ps_expr (pe_bm PySem.F.plainAttrs_list PySem.F.slot_list_append PySem.F.type_list_append mt_append (pv 6) (pa_cons (pe_op op_add (pe_op op_add (pe_op op_mul (pv 4) (pv 2)) (pv 9)) (pv 10)) pa_nil))))))))
      (pss_one (ps_ret (pv 6))))), ?_⟩
    have hlg : 0 < length * groups := Int.mul_pos h1 h3
    have hlg2 : length * groups ≤ 1000000 := by
      have := Int.mul_le_mul h2 h4 (Int.le_of_lt h3) (by decide : (0 : Int) ≤ 1000)
      omega
    have hm : ∀ {σ : L2.St} {H : Hp}, σ[2]? = some (some (.int length)) → σ[3]? = some (some (.int groups)) → Ev (tOp (rI CMul fun i j => .int (i * j)) (tVar 2) (tVar 3)) σ H (.int (length * groups)) := fun a b => ev_mulR (ev_var a) (ev_var b) (by omega) (by omega)
    refine q_par (ea_cons (ev_div (ev_var rfl) (hm rfl rfl) hlg (by omega)) (ea_cons (ev_mod (ev_var rfl) (hm rfl rfl) hlg) ea_nil)) fun H1 e1 => ?_
    refine q_asgL (el_lst ea_nil (by decide)) fun p H2 hp e2 h2' => ?_
    have e2 := e1.trans e2
    have hp0 := fresh_back e1 hp
    refine q_forR1 (ea_cons (ev_var rfl) ea_nil) ⟨by omega, by omega⟩ (fun i σ' H' => (∃ x7 x8 x9 x10 : Option V, σ' = [some (.int count), some (.int first), some (.int length), some (.int groups), some (.int (count / (length * groups))), some (.int (count % (length * groups))), some (.ref p), x7, x8, x9, x10]) ∧ Ex H H' ∧
        LI H' p ((List.range i).map fun g : Nat => btw count (length * groups) length (((g : Int) * length - first) % (length * groups))))
      (fun H3 e3 => ⟨⟨none, none, none, none, rfl⟩, e2.trans e3, e3 _ _ h2'⟩) (fun i σ' H' hi h => ?_) (fun σ' H' h => ?_)
    · obtain ⟨⟨_, _, _, _, rfl⟩, e3, hP⟩ := h
      refine q_asg (ev_mod (ev_sub (ev_mulR (ev_var rfl) (ev_var rfl) (by omega) (by omega)) (ev_var rfl)) (hm rfl rfl) hlg) fun H4 e4 => ?_
      refine q_asg (ev_max ev_c (ev_sub (ev_min (ev_var rfl) (ev_add (ev_var rfl) (ev_var rfl))) (ev_var rfl))) fun H5 e5 => ?_
      refine q_asg (ev_max ev_c (ev_min (ev_var rfl) (ev_sub (ev_add (ev_var rfl) (ev_var rfl)) (hm rfl rfl)))) fun H6 e6 => ?_
      have e6 := (e4.trans e5).trans e6
      refine s_app (v := .int (btw count (length * groups) length (((i : Int) * length - first) % (length * groups)))) (e6 _ _ hP) (ev_var rfl) (ev_add (ev_add (ev_mulR (ev_var rfl) (ev_var rfl) (by omega) (by omega)) (ev_var rfl)) (ev_var rfl)) (by simp; omega) fun H7 e7 => ⟨⟨_, _, _, _, rfl⟩, Ex.mut ((e3.trans e6).trans e7) hp0, ?_⟩
      rw [LI, upd_same, List.range_succ, List.map_append, List.map_append]
      rfl
    · obtain ⟨⟨_, _, _, _, rfl⟩, e3, hP⟩ := h
      exact s_ret (ev_var rfl) fun H4 e4 => k p H4 hp0 (e3.trans e4) (e4 _ _ hP)
/-! ### is_word, is_sequence -/
def spIsWord : Sp := fun vs H Q _ => ∃ (x : V) (p : Addr) (ws : List V), vs = [x, .ref p] ∧ H p = some (.tup ws) ∧ ws.all flatV = true ∧ ((∃ z : Str, x = .str z ∧ RetV (.bl (inV (.str z) ws)) H Q) ∨ ∃ (a : Addr) (xs : List V), x = .ref a ∧ H a = some (.lst xs) ∧ RetV (.bl false) H Q)
theorem sp_isWordS {H : Hp} {p : Addr} {ws : List V} {z : Str} (hp : H p = some (.tup ws)) (hw : ws.all flatV = true) : SpV spIsWord [.str z, .ref p] H (.bl (inV (.str z) ws)) := fun H1 e Q k E => ⟨_, p, ws, rfl, e _ _ hp, hw, .inl ⟨z, rfl, k⟩⟩
theorem sp_isWordL {H : Hp} {p a : Addr} {ws xs : List V} (hp : H p = some (.tup ws)) (hw : ws.all flatV = true) (ha : H a = some (.lst xs)) : SpV spIsWord [.ref a, .ref p] H (.bl false) := fun H1 e Q k E => ⟨_, p, ws, rfl, e _ _ hp, hw, .inr ⟨a, xs, rfl, e _ _ ha, k⟩⟩
theorem scIsWord : FnScope ["value", "words"] ["value", "words"] (defScope sIsWord) := ⟨rfl, rfl, rfl, by decide +kernel, rfl, by decide +kernel, by decide +kernel⟩
theorem ok_isWord (F : Fun K "is_word" "is_word" sIsWord f fd) (B : Bt mg) : FnOk P w K mg base CX0 1 f fd ["value", "words"] spIsWord := by
  refine F.ok scIsWord (fun vs H Q E h => ?_) (fun cdv A outer s H vs Q E hr h => ?_)
  · obtain ⟨x, p, ws, rfl, _⟩ := h
    rfl
  · obtain ⟨x, p, ws, rfl, hp, hw, k⟩ := h
    refine ⟨_, pss_one (ps_ret (pe_and (pe_callB call_isi (by rfl) B.isi (by decide +kernel) (pa_cons (pv 0) (pa_cons (pe_bltn (v := .ty "str") (by rfl) B.str (by decide +kernel) rfl) pa_nil))) (pe_one (pe_cmpR op_in_seq (pv 0) (pv 1) (by with_unfolding_all rfl))))), ?_⟩
    rcases k with ⟨z, rfl, k⟩ | ⟨a, xs, rfl, ha, k⟩
    · exact s_ret (ev_andV (a := true) (ev_cb (ea_cons (ev_var rfl) (ea_cons ev_c ea_nil)) (rc_isi (tx_str z) k_ss)) fun _ => ev_op (ev_var rfl) (ev_var rfl) (rv_isT (.of hp) rfl hw)) k
    · exact s_ret (ev_andV (a := false) (b := false) (ev_cb (ea_cons (ev_var rfl) (ea_cons ev_c ea_nil)) (rc_isi (tx_lst ha) k_ls)) fun z => nomatch z) k
def spIsSeq : Sp := fun vs H Q _ => ∃ x : V, vs = [x] ∧ ((∃ z : Str, x = .str z ∧ RetV (.bl false) H Q) ∨ ∃ (a : Addr) (xs : List V), x = .ref a ∧ H a = some (.lst xs) ∧ RetV (.bl true) H Q)
theorem sp_isSeqS {H : Hp} {z : Str} : SpV spIsSeq [.str z] H (.bl false) := fun H1 e Q k E => ⟨_, rfl, .inl ⟨z, rfl, k⟩⟩
theorem sp_isSeqL {H : Hp} {a : Addr} {xs : List V} (ha : H a = some (.lst xs)) : SpV spIsSeq [.ref a] H (.bl true) := fun H1 e Q k E => ⟨_, rfl, .inr ⟨a, xs, rfl, e _ _ ha, k⟩⟩
theorem scIsSeq : FnScope ["value"] ["value"] (defScope sIsSeq) := ⟨rfl, rfl, rfl, by decide +kernel, rfl, by decide +kernel, by decide +kernel⟩
theorem ok_isSeq (F : Fun K "is_sequence" "is_sequence" sIsSeq f fd) (B : Bt mg) : FnOk P w K mg base CX0 1 f fd ["value"] spIsSeq := by
  refine F.ok scIsSeq (fun vs H Q E h => ?_) (fun cdv A outer s H vs Q E hr h => ?_)
  · obtain ⟨x, rfl, _⟩ := h
    rfl
  · obtain ⟨x, rfl, k⟩ := h
    refine ⟨_, pss_one (ps_ret (pe_callB call_isiT (by rfl) B.isi (by decide +kernel) (pa_cons (pv 0) (pa_cons (pe_tup (pa_cons (pe_bltn (v := .ty "list") (by rfl) B.list (by decide +kernel) rfl) (pa_cons (pe_bltn (v := .ty "tuple") (by rfl) B.tuple (by decide +kernel) rfl) pa_nil))) pa_nil)))), ?_⟩
    rcases k with ⟨z, rfl, k⟩ | ⟨a, xs, rfl, ha, k⟩
    · exact s_ret (ev_isi2 (ev_var rfl) (eu_tup (ea_cons ev_c (ea_cons ev_c ea_nil)) (by decide)) (tx_str z) k_sl k_st) k
    · exact s_ret (ev_isi2 (ev_var rfl) (eu_tup (ea_cons ev_c (ea_cons ev_c ea_nil)) (by decide)) (tx_lst ha) k_ll k_lt) k
/-! ### require_small_rounds -/
def spSmallRounds : Sp := fun vs H Q _ => ∃ (a : Addr) (rs : List Int), vs = [.ref a] ∧ LI H a rs ∧ Sched rs ∧ RetV .non H Q
theorem sp_smallRounds {H : Hp} {a : Addr} {rs : List Int} (h : LI H a rs) (s : Sched rs) : SpV spSmallRounds [.ref a] H .non := fun H1 e Q q E => ⟨a, rs, rfl, e a _ h, s, q⟩
theorem scSmallRounds : FnScope ["schedule", "entry"] ["schedule"] (defScope sSmallRounds) := ⟨rfl, rfl, rfl, by decide +kernel, rfl, by decide +kernel, by decide +kernel⟩
theorem any_false : ∀ n : Nat, ((List.range n).map fun _ => false).any id = false := fun n => by
  rw [List.any_eq_false]
  intro b hb
  obtain ⟨_, _, rfl⟩ := List.mem_map.mp hb
  decide
theorem ok_smallRounds (F : Fun K "require_small_rounds" "require_small_rounds" sSmallRounds f fd) (B : Bt mg) : FnOk P w K mg base CX0 1 f fd ["schedule"] spSmallRounds := by
  refine F.ok scSmallRounds (fun vs H Q E h => ?_) (fun cdv A outer s H vs Q E hr h => ?_)
  · obtain ⟨a, rs, rfl, _⟩ := h
    rfl
  · obtain ⟨a, rs, rfl, ha, S, k⟩ := h
    refine ⟨_, pss_one (ps_if (pt_val (pe_callB (cr_any rfl) (by rfl) B.any (by decide +kernel) (pa_cons (pe_lc (own := [("entry", 1)]) (g := gName 1) (tt := tYes) rfl scSmallRounds.nd (pi_list (pv 0)) (blkOk_by (N := ["schedule", "entry"]) (sc := defScope sSmallRounds) (by decide +kernel))
        (fun _ _ _ _ _ => pg_name (i := 1) scSmallRounds.nd rfl (.inl rfl)) (fun _ _ _ _ _ => pts_nil) (fun _ _ _ _ _ => pe_cmpR op_gt (pv 1) (pe_mod B.mgr) (nomark _))) pa_nil))) (pss_one ps_never) pss_nil), ?_⟩
    have hsl := S.len
    refine s_guard (et_B (ev_cb1P (evl_lc (n := (rs.map V.int).length) (fun _ => .bl false) (src_list (ev_var rfl) ha) (by rw [List.length_map]; omega) (fun _ => rfl) (fun i x H1 hi hx e1 => ?_)) fun v H1 e1 hv => ?_)) k
    · obtain ⟨z, hz, rfl⟩ := get_int hx
      have := S.five z (List.mem_of_getElem? hz)
      exact ev_op (ev_var rfl) ev_c (rv_bl (decide_eq_false (by omega)))
    · obtain ⟨L, rfl, hL⟩ := hv
      exact fun H2 e2 Q' q' => ⟨L, (List.range (rs.map V.int).length).map fun _ => false, rfl, .of (by rw [e2 _ _ hL, map_bl _ fun _ => false]), by rw [any_false]; exact q' H2 (Ex.refl _)⟩
/-! ### even_split -/
def spEven : Sp := fun vs H Q _ => ∃ (a b : Addr) (q : Int) (r c : List Int), vs = [.ref a, .ref b] ∧ LI H a (q :: r) ∧ Sched (q :: r) ∧ TuI H b c ∧ Cnt c ∧ RetP (fun v H2 => ∃ p, v = .ref p ∧ SplH H2 p (even (q :: r) c)) H Q
theorem sp_even {H : Hp} {a b : Addr} {q : Int} {r c : List Int} (ha : LI H a (q :: r)) (S : Sched (q :: r)) (hb : TuI H b c) (C : Cnt c) : SpP spEven [.ref a, .ref b] H (fun v H2 => ∃ p, v = .ref p ∧ SplH H2 p (even (q :: r) c)) := fun H1 e Q k E => ⟨a, b, q, r, c, rfl, e _ _ ha, S, e _ _ hb, C, k⟩
theorem scEven : FnScope ["schedule", "counts", "groups", "found", "number", "count"] ["schedule", "counts"] (defScope sEven) := ⟨rfl, rfl, rfl, by decide +kernel, rfl, by decide +kernel, by decide +kernel⟩
theorem evp_w {te : TE} {σ : L2.St} {H : Hp} {P P' : V → Hp → Prop} (h : EvP te σ H P) (hp : ∀ v H2, P v H2 → P' v H2) : EvP te σ H P' := fun H1 e Q q => h H1 e Q fun v H2 e2 hv => q v H2 e2 (hp v H2 hv)
theorem isl_ints {te : TE} {σ : L2.St} {H : Hp} {n m : Nat} {f : Nat → Int} (h : EvP te σ H (fun w H2 => ∃ D, w = .ref D ∧ H2 D = some (.lst ((List.range n).map fun i => V.int (f i))))) (e : n = m) : EvP te σ H (IsL (((List.range m).map f).map V.int)) := by
  subst e
  refine evp_w h fun v H2 hv => ?_
  obtain ⟨D, rfl, hD⟩ := hv
  exact ⟨D, rfl, by rw [← map_int]; exact hD⟩
theorem Grow.spl {H H' : Hp} {D : Addr} {ads : List Addr} {rows : Nat → List Int} {gs : List (List Int)} (G : Grow H H' D ads (fun g => .tup ((rows g).map V.int))) (hl : ads.length = gs.length) (he : ∀ g, g < gs.length → gs.getD g [] = rows g) : SplH H' D gs :=
  ⟨ads, G.lst, hl, fun i r g hr hg => by
    have := G.each i r hr
    rw [← he i (List.getElem?_eq_some_iff.mp hg).1, getD_of hg] at this
    exact this⟩
theorem ok_even (F : Fun K "even_split" "even_split" sEven f fd) (B : Bt mg) : FnOk P w K mg base CX0 1 f fd ["schedule", "counts"] spEven := by
  refine F.ok scEven (fun vs H Q E h => ?_) (fun cdv A outer s H vs Q E hr h => ?_)
  · obtain ⟨a, b, q, r, c, rfl, _⟩ := h
    rfl
  · obtain ⟨a, b, q, r, c, rfl, ha, S, hb, C, k⟩ := h
    refine ⟨_, pss_cons (ps_set (i := 2) scEven.nd rfl (.inr rfl) (pe_ix ix_list (pv 0) pe_int (fun _ _ => rfl)))
      (pss_cons (ps_set (i := 3) scEven.nd rfl (.inl rfl) (pe_lst pa_nil))
      (pss_cons (ps_for PassesOwn.never rfl (pi_range1 (by rfl) B.range (pa_cons (pv 2) pa_nil)) (pg_name (i := 4) scEven.nd rfl (.inr rfl))
        (pss_one (ps_expr (pe_bm PySem.F.plainAttrs_list PySem.F.slot_list_append PySem.F.type_list_append mt_append (pv 3) (pa_cons (pe_callTy (call_tupleK K) (by rfl) B.tuple (by decide +kernel)
          (pa_cons (pe_lc (own := [("count", 5)]) (g := gName 5) (tt := tYes) rfl scEven.nd (pi_tup (pv 1)) (blkOk_by (N := ["schedule", "counts", "groups", "found", "number", "count"]) (sc := defScope sEven) (by decide +kernel))
            (fun _ _ _ _ _ => pg_name (i := 5) scEven.nd rfl (.inl rfl)) (fun _ _ _ _ _ => pts_nil)
            (fun _ _ _ _ _ => pe_op op_add (pe_op op_fdiv (pv 5) (pv 2)) (pe_callTy call_int1 (by rfl) B.int (by decide +kernel) (pa_cons (pe_cmpR op_lt (pv 4) (pe_op op_mod (pv 5) (pv 2)) (nomark _)) pa_nil)))) pa_nil)) pa_nil)))))
      (pss_one (ps_ret (pv 3))))), ?_⟩
    have hq2 := S.two q List.mem_cons_self
    have hq5 := S.five q List.mem_cons_self
    have hcl := C.len
    refine q_asg (ev_ixI (j := 0) (ev_var rfl) ev_c ha rfl rfl) fun H1 e1 => ?_
    refine q_asgL (el_lst ea_nil (by decide)) fun p H2 hp e2 h2 => ?_
    have e2 := e1.trans e2
    have hp0 := fresh_back e1 hp
    refine q_forR1 (ea_cons (ev_var rfl) ea_nil) ⟨by omega, by omega⟩ (fun i σ' H' => (∃ x4 : Option V, σ' = [some (.ref a), some (.ref b), some (.int q), some (.ref p), x4, none]) ∧ ∃ ads : List Addr, ads.length = i ∧ Grow H H' p ads fun g => .tup (((List.range c.length).map fun j => c.getD j 0 / q + if (g : Int) < c.getD j 0 % q then 1 else 0).map V.int))
      (fun H3 e3 => ⟨⟨none, rfl⟩, [], rfl, .begin (e2.trans e3) (e3 _ _ h2)⟩) (fun i σ' H' hi h => ?_) (fun σ' H' h => ?_)
    · obtain ⟨⟨_, rfl⟩, ads, hl, G⟩ := h
      refine s_appP G.lst (ev_var rfl) (evp_tupleOf (isl_ints (evl_lc (n := (c.map V.int).length) (fun j => .int (c.getD j 0 / q + if (i : Int) < c.getD j 0 % q then 1 else 0)) (src_tup (ev_var rfl) (.of (G.ex _ _ hb))) (by rw [List.length_map]; omega) (fun _ => rfl) (fun j x H5 hj hx e5 => ?_)) (by rw [List.length_map]))) (by rw [List.length_map]; omega) fun v H4 e4 hv => ?_
      · obtain ⟨z, hz, rfl⟩ := get_int hx
        rw [getD_of hz]
        exact ev_is (ev_add (ev_div (ev_var rfl) (ev_var rfl) (by omega) (by omega)) (ev_cb (ea_cons (ev_op (ev_var rfl) (ev_mod (ev_var rfl) (ev_var rfl) (by omega)) rv_I0) ea_nil) rc_int)) (by simp only [decide_eq_true_eq])
      · obtain ⟨t, rfl, ht⟩ := hv
        refine ⟨⟨_, rfl⟩, ads ++ [t], by simp [hl], G.add hp0 e4 (by rw [hl]; exact ht) fun z => ?_⟩
        have := e4 _ _ G.lst
        rw [z, this] at ht
        cases ht
    · obtain ⟨⟨_, rfl⟩, ads, hl, G⟩ := h
      refine s_ret (ev_var rfl) fun H4 e4 => k _ _ (G.ex.trans e4) ⟨p, rfl, (G.up e4).spl ?_ fun g hg => ?_⟩
      · rw [hl]
        simp [even, tab]
      · refine getD_of ?_
        have hg' : g < q.toNat := by simpa [even, tab] using hg
        unfold even tab
        rw [List.getElem?_map, List.getD_cons_zero, List.getElem?_range hg']
        rfl
/-! ### joint_split -/
def spJoint : Sp := fun vs H Q _ => ∃ (a b : Addr) (q : Int) (r c : List Int), vs = [.ref a, .ref b] ∧ LI H a (q :: r) ∧ Sched (q :: r) ∧ TuI H b c ∧ Cnt c ∧ RetP (fun v H2 => ∃ p, v = .ref p ∧ SplH H2 p (joint (q :: r) c)) H Q
theorem sp_joint {H : Hp} {a b : Addr} {q : Int} {r c : List Int} (ha : LI H a (q :: r)) (S : Sched (q :: r)) (hb : TuI H b c) (C : Cnt c) : SpP spJoint [.ref a, .ref b] H (fun v H2 => ∃ p, v = .ref p ∧ SplH H2 p (joint (q :: r) c)) := fun H1 e Q k E => ⟨a, b, q, r, c, rfl, e _ _ ha, S, e _ _ hb, C, k⟩
theorem scJoint : FnScope ["schedule", "counts", "number"] ["schedule", "counts"] (defScope sJoint) := ⟨rfl, rfl, rfl, by decide +kernel, rfl, by decide +kernel, by decide +kernel⟩
theorem ok_joint (F : Fun K "joint_split" "joint_split" sJoint f fd) (B : Bt mg) : FnOk P w K mg base CX0 1 f fd ["schedule", "counts"] spJoint := by
  refine F.ok scJoint (fun vs H Q E h => ?_) (fun cdv A outer s H vs Q E hr h => ?_)
  · obtain ⟨a, b, q, r, c, rfl, _⟩ := h
    rfl
  · obtain ⟨a, b, q, r, c, rfl, ha, S, hb, C, k⟩ := h
    refine ⟨_, pss_one (ps_ret (pe_op op_cat (pe_lst (pa_cons (pv 1) pa_nil)) (pe_lc (own := [("number", 2)]) (g := gName 2) (tt := tYes) rfl scJoint.nd (pi_range2 (by rfl) B.range (pa_cons pe_int (pa_cons (pe_ix ix_list (pv 0) pe_int (fun _ _ => rfl)) pa_nil)))
      (blkOk_by (N := ["schedule", "counts", "number"]) (sc := defScope sJoint) (by decide +kernel)) (fun _ _ _ _ _ => pg_name (i := 2) scJoint.nd rfl (.inl rfl)) (fun _ _ _ _ _ => pts_nil)
      (fun _ _ _ _ _ => pe_op (op_repZK K) (pe_tup (pa_cons pe_int pa_nil)) (pe_callB (call_lenK K) (by rfl) B.len PySem.boot_len (pa_cons (pv 1) pa_nil)))))), ?_⟩
    have hq2 := S.two q List.mem_cons_self
    have hq5 := S.five q List.mem_cons_self
    have hcl := C.len
    refine s_retP (evp_op (P' := fun v H2 => ∃ p, v = .ref p ∧ SplH H2 p (joint (q :: r) c)) (isl_l (xs := [.ref b]) (el_lst (ea_cons (ev_var rfl) ea_nil) (by simp)))
      (evp_lc (n := (q - 1).toNat) (src_rng2 (ea_cons ev_c (ea_cons (ev_ixI (j := 0) (ev_var rfl) ev_c ha rfl rfl) ea_nil)) ⟨by omega, by omega, by omega, by omega⟩ rfl) (by omega) (fun _ => rfl) (fun i x H => ∃ p, x = .ref p ∧ TuI H p (((List.range (q - 1).toNat).map fun _ => List.replicate c.length (0 : Int)).getD i [])) (tup_mono _) (fun i x H1 hi hx e1 => ?_))
      (fun v H1 H2 e h => h.up e) (fun v u H1 e1 hv hu Q' q' => ?_)) k
    · rw [getD_of (x := List.replicate c.length (0 : Int)) (by rw [List.getElem?_map, List.getElem?_range hi]; rfl)]
      refine evp_op (P1 := fun v H2 => ∃ p, v = .ref p ∧ H2 p = some (.tup [.int 0])) (P2 := fun v _ => v = .int (c.length : Int)) (evp_u (eu_tup (ea_cons ev_c ea_nil) (by decide)) fun p H2 _ hp => ⟨p, rfl, hp⟩) (evp_v (ev_lenTI (ev_var rfl) (e1 _ _ hb)) fun _ _ => rfl) ?_ ?_
      · rintro v H2 H3 e ⟨p, rfl, hp⟩
        exact ⟨p, rfl, e _ _ hp⟩
      · rintro v _ H2 e2 ⟨p, rfl, hp⟩ rfl Q' q'
        exact ⟨p, c.length, .int 0, rfl, rfl, hp, by omega, fun t H3 e3 ht => q' _ H3 e3 ⟨t, rfl, by rw [TuI, ht, List.map_replicate]⟩⟩
    · obtain ⟨l, rfl, hl⟩ := hv
      obtain ⟨D, xs, rfl, hD, hx, hp⟩ := hu
      obtain ⟨rs, rfl, hr'⟩ := list_refs hp
      rw [List.length_map] at hx
      refine ⟨l, D, _, _, rfl, rfl, hl, hD, sz_of (by simp; omega), fun p hp => q' _ _ (Ex.new hp) ⟨p, rfl, b :: rs, by rw [upd_same]; rfl, by simp [joint, hx], fun i r' g h1 h2 => ?_⟩⟩
      have ex := Ex.new (o := HO.lst ([V.ref b] ++ rs.map V.ref)) hp
      cases i with
      | zero =>
        cases h1
        have h2 : some c = some g := h2
        cases h2
        exact ex _ _ (e1 _ _ hb)
      | succ i =>
        have h2 : ((List.range (q - 1).toNat).map fun _ => List.replicate c.length (0 : Int))[i]? = some g := h2
        have := hr' i r' h1
        rw [getD_of h2] at this
        exact ex _ _ this
/-! ### balanced_split -/
def spBalanced : Sp := fun vs H Q _ => ∃ (a b : Addr) (q : Int) (r c : List Int), vs = [.ref a, .ref b] ∧ LI H a (q :: r) ∧ Small (q :: r) ∧ TuI H b c ∧ Cnt c ∧ RetP (fun v H2 => ∃ p, v = .ref p ∧ SplH H2 p (bal (q :: r) c)) H Q
theorem sp_balanced {H : Hp} {a b : Addr} {q : Int} {r c : List Int} (ha : LI H a (q :: r)) (S : Small (q :: r)) (hb : TuI H b c) (C : Cnt c) : SpP spBalanced [.ref a, .ref b] H (fun v H2 => ∃ p, v = .ref p ∧ SplH H2 p (bal (q :: r) c)) := fun H1 e Q k E => ⟨a, b, q, r, c, rfl, e _ _ ha, S, e _ _ hb, C, k⟩
theorem scBalanced : FnScope ["schedule", "counts", "found", "groups", "first", "columns", "index", "count", "number", "column"] ["schedule", "counts"] (defScope sBalanced) := ⟨rfl, rfl, rfl, by decide +kernel, rfl, by decide +kernel, by decide +kernel⟩
/-- a column: the climbers of one distance, group by group -/
def colK (q : Int) (r c : List Int) (k : Nat) : HO := .lst (((List.range q.toNat).map fun g : Nat => colB (q :: r) c k (g : Int)).map V.int)
theorem colK_lt {q : Int} {r c : List Int} {i : Nat} {z : Int} (hi : i < (q :: r).length) (hz : c[i]? = some z) : HO.lst ((sharedL z (fr (q :: r) c i) (ln (q :: r) (i + 1)) q).map V.int) = colK q r c i := by
  unfold colK sharedL
  congr 2
  refine List.map_congr_left fun g _ => ?_
  unfold colB
  rw [if_pos hi, getD_of hz, pp_ln]
theorem colK_ge {q : Int} {r c : List Int} {i : Nat} {z : Int} (hi : (q :: r).length ≤ i) (hz : c[i]? = some z) (hq : 2 ≤ q) : HO.lst ([V.int z] ++ List.replicate (q - 1).toNat (V.int 0)) = colK q r c i := by
  unfold colK
  congr 1
  obtain ⟨m, hm⟩ : ∃ m, q.toNat = m + 1 := ⟨q.toNat - 1, by omega⟩
  rw [hm, show (q - 1).toNat = m by omega, List.range_succ_eq_map, List.map_cons, List.map_cons, List.map_map, List.map_map]
  show V.int z :: List.replicate m (V.int 0) = _
  congr 1
  · unfold colB
    rw [if_neg (by omega), if_pos (by simp), getD_of hz]
  · symm
    rw [List.eq_replicate_iff]
    refine ⟨by simp, fun x hx => ?_⟩
    obtain ⟨g, _, rfl⟩ := List.mem_map.mp hx
    show V.int (colB (q :: r) c i ((g + 1 : Nat) : Int)) = _
    unfold colB
    rw [if_neg (by omega), if_neg (by omega)]
theorem ok_balanced (F : Fun K "balanced_split" "balanced_split" sBalanced f fd) (B : Bt mg) (c1 : Callee P w K mg base "require_rounds" ["schedule"] 4 spReqRounds) (c2 : Callee P w K mg base "require_counts" ["counts"] 4 spReqCounts) (c3 : Callee P w K mg base "require_small_round" ["schedule"] 1 spSmallRound)
    (c4 : Callee P w K mg base "products" ["schedule"] 1 spProducts) (c5 : Callee P w K mg base "shared_out" ["count", "first", "length", "groups"] 1 spShared) : FnOk P w K mg base CX0 5 f fd ["schedule", "counts"] spBalanced := by
  refine F.ok scBalanced (fun vs H Q E h => ?_) (fun cdv A outer s H vs Q E hr h => ?_)
  · obtain ⟨a, b, q, r, c, rfl, _⟩ := h
    rfl
  · obtain ⟨a, b, q, r, c, rfl, ha, S, hb, C, k⟩ := h
    refine ⟨_, pss_cons (ps_expr (pe_cal c1 (hr.mono (by decide)) (pa_cons (pv 0) pa_nil))) (pss_cons (ps_expr (pe_cal c2 (hr.mono (by decide)) (pa_cons (pv 1) pa_nil))) (pss_cons (ps_expr (pe_cal c3 (hr.mono (by decide)) (pa_cons (pv 0) pa_nil)))
      (pss_cons (ps_set (i := 2) scBalanced.nd rfl (.inl rfl) (pe_cal c4 (hr.mono (by decide)) (pa_cons (pv 0) pa_nil)))
      (pss_cons (ps_asg (pe_tup (pa_cons (pe_ix ix_list (pv 0) pe_int (fun _ _ => rfl)) (pa_cons pe_int (pa_cons (pe_lst pa_nil) pa_nil)))) (pg_tup rfl (pgs_cons (pg_name (i := 3) scBalanced.nd rfl (.inl rfl)) (pgs_cons (pg_name (i := 4) scBalanced.nd rfl (.inl rfl)) (pgs_cons (pg_name (i := 5) scBalanced.nd rfl (.inr rfl)) pgs_nil)))))
      (pss_cons (ps_for PassesOwn.never rfl (SCR.pi_enumT (by rfl) B.enum (pa_cons (pv 1) pa_nil)) (pg_tup rfl (pgs_cons (pg_name (i := 6) scBalanced.nd rfl (.inl rfl)) (pgs_cons (pg_name (i := 7) scBalanced.nd rfl (.inl rfl)) pgs_nil)))
        (pss_one (ps_if (pt_cmpR op_lt (pv 6) (pe_callB call_len_seq (by rfl) B.len PySem.boot_len (pa_cons (pv 0) pa_nil)) (nomark _))
          (pss_cons (ps_set (i := 4) scBalanced.nd rfl (.inl rfl) (pe_op op_mod (pe_op op_mul (pv 4) (pe_ix ix_list (pv 0) (pv 6) (fun _ _ => rfl))) (pe_ix ix_list (pv 2) (pe_op op_add (pv 6) pe_int) (fun _ _ => rfl))))
          (pss_cons (ps_expr (pe_bm PySem.F.plainAttrs_list PySem.F.slot_list_append PySem.F.type_list_append mt_append (pv 5) (pa_cons (pe_cal c5 (hr.mono (by decide)) (pa_cons (pv 7) (pa_cons (pv 4) (pa_cons (pe_op op_fdiv (pe_ix ix_list (pv 2) (pe_op op_add (pv 6) pe_int) (fun _ _ => rfl)) (pv 3)) (pa_cons (pv 3) pa_nil))))) pa_nil)))
          (pss_one (ps_set (i := 4) scBalanced.nd rfl (.inl rfl) (pe_op op_mod (pe_op op_add (pv 4) (pv 7)) (pe_ix ix_list (pv 2) (pe_op op_add (pv 6) pe_int) (fun _ _ => rfl)))))))
          (pss_one (ps_expr (pe_bm PySem.F.plainAttrs_list PySem.F.slot_list_append PySem.F.type_list_append mt_append (pv 5) (pa_cons (pe_op op_cat (pe_lst (pa_cons (pv 7) pa_nil)) (pe_op op_rep (pe_lst (pa_cons pe_int pa_nil)) (pe_op op_sub (pv 3) pe_int))) pa_nil)))))))
      (pss_one (ps_ret (pe_lc (own := [("number", 8)]) (g := gName 8) (tt := tYes) rfl scBalanced.nd (pi_range1 (by rfl) B.range (pa_cons (pv 3) pa_nil)) (blkOk_by (N := ["schedule", "counts", "found", "groups", "first", "columns", "index", "count", "number", "column"]) (sc := defScope sBalanced) (by decide +kernel))
        (fun _ _ _ _ _ => pg_name (i := 8) scBalanced.nd rfl (.inr rfl)) (fun _ _ _ _ _ => pts_nil)
        (fun _ _ _ _ _ => pe_callTy (call_tupleK K) (by rfl) B.tuple (by decide +kernel) (pa_cons (pe_lc (own := [("column", 9)]) (g := gName 9) (tt := tYes) rfl scBalanced.nd (pi_listK K (pv 5)) (blkOk_by (by rfl))
          (fun _ _ _ _ _ => pg_name (i := 9) scBalanced.nd rfl (.inl rfl)) (fun _ _ _ _ _ => pts_nil) (fun _ _ _ _ _ => pe_ix (ix_listK K) (pv 9) (pv 8) (fun _ _ => rfl))) pa_nil)))))))))), ?_⟩
    have hq2 := S.two q List.mem_cons_self
    have hq5 := S.five q List.mem_cons_self
    have hcl := C.len
    have hsl := S.len
    refine q_drop (ev_call (ea_cons (ev_var rfl) ea_nil) (sp_reqRounds ha S.toSched (List.cons_ne_nil _ _))) fun H1 e1 => ?_
    refine q_drop (ev_call (ea_cons (ev_var rfl) ea_nil) (sp_reqCounts (e1 _ _ hb) C)) fun H2 e2 => ?_
    have e2 := e1.trans e2
    refine q_drop (ev_call (ea_cons (ev_var rfl) ea_nil) (sp_smallRound (e2 _ _ ha) S.toSched (List.cons_ne_nil _ _))) fun H3 e3 => ?_
    have e3 := e2.trans e3
    refine q_asgL (el_call (ea_cons (ev_var rfl) ea_nil) (sp_products (e3 _ _ ha) S.toSched)) fun ps H4 _ e4 hps => ?_
    have e4' := e3.trans e4
    refine (ev_ixI (j := 0) (ev_var rfl) ev_c (e4' _ _ ha) rfl rfl : Ev (tOp (rIxL K) (tVar 0) (tC (.int 0))) _ _ (.int q)) H4 (Ex.refl _) _ fun H5 e5 => ⟨Nat.zero_le _, fun p hp => ⟨show 3 ≤ sizeLine by decide, fun t ht => ?_⟩⟩
    have hp' := ht
    refine ⟨t, [.int q, .int 0, .ref p], rfl, .of upd_same, rfl, _, _, rfl, _, _, rfl, _, _, rfl, rfl, ?_⟩
    have hpt : p ≠ t := fun z => by rw [z, upd_same] at hp'; cases hp'
    have e6 := (e5.trans (Ex.new (o := HO.lst []) hp)).trans (Ex.new (o := HO.tup [.int q, .int 0, .ref p]) ht)
    have hp4 : H4 p = none := fresh_back e5 hp
    have G0 : Grow H4 (upd (upd H5 p (.lst [])) t (.tup [.int q, .int 0, .ref p])) p [] (colK q r c) := .begin e6 (by rw [upd_ne hpt, upd_same])
    generalize upd (upd H5 p (.lst [])) t (.tup [.int q, .int 0, .ref p]) = H6 at *
    have ha4 := e4' _ _ ha
    have hb4 := e4' _ _ hb
    refine q_forEt (ea_cons (ev_var rfl) ea_nil) (G0.ex _ _ hb4) (fun i σ' H' => (∃ x6 x7 : Option V, σ' = [some (.ref a), some (.ref b), some (.ref ps), some (.int q), some (.int (fb (q :: r) c (min i (q :: r).length))), some (.ref p), x6, x7, none, none]) ∧ ∃ ads : List Addr, ads.length = i ∧ Grow H4 H' p ads (colK q r c))
      (fun H7 e7 => ⟨⟨none, none, by rw [Nat.zero_min]; rfl⟩, [], rfl, G0.up e7⟩) (fun i σ' H' _ h => by obtain ⟨_, ads, _, G⟩ := h; exact G.ex _ _ hb4) (fun i x σ' H' hx h H7 e7 => ?_) (fun σ' H' h => ?_)
    · obtain ⟨⟨_, _, rfl⟩, ads, hl, G⟩ := h
      have G := G.up e7
      obtain ⟨z, hz, rfl⟩ := get_int hx
      refine s_if (b := decide ((i : Int) < ((q :: r).length : Int))) (et_test (ev_op (ev_var rfl) (ev_lenI (ev_var rfl) (G.ex _ _ ha4)) rv_I0)) (fun hb' H8 e8 => ?_) (fun hb' H8 e8 => ?_)
      · have hi : i < (q :: r).length := by have := of_decide_eq_true hb'; omega
        have G := G.up e8
        have hri : (q :: r)[i]? = some ((q :: r).getD i 0) := by
          rw [List.getD_eq_getElem?_getD, List.getElem?_eq_getElem hi]
          rfl
        have hpp : (prods (q :: r))[i + 1]? = some (pp (q :: r) (i + 1)) := prods_at (by omega)
        have hp0 := pp_pos S.two (i + 1)
        have hp1 := S.pp_lt (i + 1)
        have hln := ln_pos S.two i
        have hpl := pp_ln (q := q) (r := r) i
        have hln1 : ln (q :: r) (i + 1) ≤ 1000 := by
          have := Int.mul_le_mul_of_nonneg_left (show (1 : Int) ≤ q by omega) (Int.le_of_lt hln)
          omega
        have hr2 := S.two _ (List.mem_of_getElem? hri)
        have hr5 := S.five _ (List.mem_of_getElem? hri)
        have hix : ∀ {σ : L2.St} {H' : Hp}, LI H' ps (prods (q :: r)) → σ[2]? = some (some (.ref ps)) → σ[6]? = some (some (.int (i : Nat))) → Ev (tOp (rIxL K) (tVar 2) (tOp (rI0 fun i j => .int (i + j)) (tVar 6) (tC (.int 1)))) σ H' (.int (pp (q :: r) (i + 1))) :=
          fun h a b => ev_ixI (j := i + 1) (ev_var a) (ev_add (ev_var b) ev_c) h (by omega) hpp
        rw [show min i (q :: r).length = i by omega]
        refine q_asg (v := .int (fr (q :: r) c i)) (ev_mod (ev_mulR (ev_var rfl) (ev_ixI (j := i) (ev_var rfl) (ev_var rfl) (G.ex _ _ ha4) rfl hri) (by omega) (by omega)) (hix (G.ex _ _ hps) rfl rfl) hp0) fun H9 e9 => ?_
        have G := G.up e9
        refine q_appL G.lst (ev_var rfl) (el_call (ea_cons (ev_var rfl) (ea_cons (ev_var rfl) (ea_cons (ev_is (ev_div (hix (G.ex _ _ hps) rfl rfl) (ev_var rfl) (by omega) (by omega)) (show V.int (pp (q :: r) (i + 1) / q) = .int (ln (q :: r) (i + 1)) by rw [hpl, Int.mul_ediv_cancel _ (by omega)])) (ea_cons (ev_var rfl) ea_nil)))) (sp_shared hln hln1 (by omega) (by omega))) (by rw [List.length_map]; have := (List.getElem?_eq_some_iff.mp hz).1; omega) fun d H10 hd e10 hd10 => ?_
        have G2 := G.add hp4 e10 (by rw [hd10, hl, colK_lt hi hz]) (fun z => by rw [z, G.lst] at hd; cases hd)
        refine s_asg (ev_mod (ev_add (ev_var rfl) (ev_var rfl)) (hix (G2.ex _ _ hps) rfl rfl) hp0) fun H11 e11 => ⟨⟨some (.int (i : Nat)), some (.int z), ?_⟩, _, ?_, G2.up e11⟩
        · rw [show min (i + 1) (q :: r).length = i + 1 by omega]
          show _ = [some (V.ref a), some (.ref b), some (.ref ps), some (.int q), some (.int ((fr (q :: r) c i + c.getD i 0) % pp (q :: r) (i + 1))), some (.ref p), some (.int (i : Nat)), some (.int z), none, none]
          rw [getD_of hz]
          rfl
        · simp [hl]
      · have hi : (q :: r).length ≤ i := by have := of_decide_eq_false hb'; omega
        have G := G.up e8
        refine s_appL G.lst (ev_var rfl) (el_cat (isl_l (el_lst (ea_cons (ev_var rfl) ea_nil) (by simp))) (isl_l (el_rep (k := (q - 1).toNat) (el_lst (ea_cons ev_c ea_nil) (by decide)) (fun H9 e9 => ev_sub (ev_var rfl) ev_c) rfl (by omega) (by omega))) (by simp; omega)) (by rw [List.length_map]; have := (List.getElem?_eq_some_iff.mp hz).1; omega) fun d H10 hd e10 hd10 => ?_
        have G2 := G.add hp4 e10 (by rw [hd10, hl, colK_ge hi hz hq2]) (fun z => by rw [z, G.lst] at hd; cases hd)
        refine ⟨⟨some (.int (i : Nat)), some (.int z), ?_⟩, _, ?_, G2⟩
        · rw [show min (i + 1) (q :: r).length = (q :: r).length by omega, show min i (q :: r).length = (q :: r).length by omega]
          rfl
        · simp [hl]
    · obtain ⟨⟨_, _, rfl⟩, ads, hl, G⟩ := h
      rw [List.length_map] at hl
      have hbl : (bal (q :: r) c).length = q.toNat := by simp [bal, tab]
      refine s_retP (evp_lc (n := q.toNat) (src_rng1 (ea_cons (ev_is (ev_var rfl) (by rw [Int.toNat_of_nonneg (by omega)])) ea_nil) (by omega)) (by omega) (fun _ => rfl) (fun i x H => ∃ p, x = .ref p ∧ TuI H p ((bal (q :: r) c).getD i [])) (tup_mono _) (fun i x H7 hi hx e7 => ?_)) fun v H7 e7 hv => ?_
      · subst hx
        have hrow : (bal (q :: r) c).getD i [] = (List.range c.length).map fun k => colB (q :: r) c k (i : Int) := by
          refine getD_of ?_
          unfold bal tab
          rw [List.getElem?_map, List.getD_cons_zero, List.getElem?_range hi]
          rfl
        rw [hrow]
        refine evp_tupleOf (isl_ints (evl_lc (n := (ads.map V.ref).length) (fun k => .int (colB (q :: r) c k (i : Int))) (src_listS (ev_var rfl) (.of (e7 _ _ G.lst))) (by rw [List.length_map]; omega) (fun _ => rfl) (fun k x H8 hk hx e8 => ?_)) (by rw [List.length_map, hl]))
        obtain ⟨d, hd, rfl⟩ := get_ref hx
        have hcol := e8 _ _ (e7 _ _ (G.each k d hd))
        exact ev_ixI (j := i) (ev_var rfl) (ev_var rfl) hcol rfl (range_at _ hi)
      · obtain ⟨p', rfl, hp'⟩ := hv.spl hbl
        exact k _ _ ((e4'.trans G.ex).trans e7) ⟨p', rfl, hp'⟩
end
end SC

/-! ## ScD1 -/
/-! players.py: the classes. -/
namespace SC
open PySem PySem.Spec PyProof.Rows L2 Evl
abbrev sSI : Stmt := inClass (top 54) 0
abbrev sSHas : Stmt := inClass (top 54) 1
abbrev sSFits : Stmt := inClass (top 54) 2
abbrev sSSplit : Stmt := inClass (top 54) 3
abbrev sCI : Stmt := inClass (top 55) 0
abbrev sCHas : Stmt := inClass (top 55) 1
abbrev sCFits : Stmt := inClass (top 55) 2
abbrev sCNext : Stmt := inClass (top 55) 3
/-! ### an instance with its one attribute -/
def InsH (C : Addr) (H : Hp) (p : Addr) (v : V) : Prop := ∃ dx, H p = some (.ins C dx [("strategy", v)])
theorem InsH.up {C : Addr} {H H' : Hp} {p : Addr} {v : V} (h : InsH C H p v) (e : Ex H H') : InsH C H' p v := let ⟨dx, h⟩ := h; ⟨dx, e _ _ h⟩
/-- what the top has made of a class -/
structure ClT (K : PySem.W.Frag) (mg : Str → Option Value) (x : Str) (C : Addr) : Prop where
  cl : Cls K C
  nS : NoAttr K C "strategy"
  ha : PySem.W.findIn K (.ref C) "__class__" = some (some (.builtin "object.__class__"))
  hn : PySem.W.specialIn K (.builtin "object.__class__") "__get__" = some (some (.builtin "getset_descriptor.__get__"))
  htk : PySem.W.takesIn K (.builtin "object.__class__") = some true
  hm : PySem.W.mroIn K C (.type "object") = some true
  mgC : mg x = some (.ref C)
theorem kit_own {K : PySem.W.Frag} {C : Addr} : PySem.W.kitOne K (.ref C) (.ref C) = some true := by
  unfold PySem.W.kitOne
  rw [if_pos (beq_self_eq_true _)]
theorem rc_isiO {K : PySem.W.Frag} {mg : Str → Option Value} {x : Str} {C p : Addr} {v : V} {H : Hp} (T : ClT K mg x C) (h : InsH C H p v) : RC (rIsi K) [.ref p, .ref C] H (.bl true) := fun H1 e Q q => by
  obtain ⟨dx, h⟩ := h.up e
  exact ⟨.ref p, .ref C, .ref C, .ref C, true, rfl, .own C, .base (.ins h T.cl T.ha T.hn T.htk T.hm), kit_own, q H1 (Ex.refl H1)⟩
structure MCal (P : Program) (w : World) (K : PySem.W.Frag) (mg : Str → Option Value) (base : Heap) (C : Addr) (m : Str) (ps : List Str) (k : Nat) (sp : Sp) : Prop where
  ex : ∃ (f : Addr) (fd : FuncData), FnOk P w K mg base CX0 k f fd ps sp ∧ Meth K C m f ∧ Binds K fd ps []
structure MkCal (P : Program) (w : World) (K : PySem.W.Frag) (mg : Str → Option Value) (base : Heap) (C : Addr) (ps : List Str) (k : Nat) (sp : Sp) : Prop where
  ex : ∃ (f : Addr) (fd : FuncData), FnOk P w K mg base CX0 k f fd ps sp ∧ Mk K C f ∧ Binds K fd ps []
section
variable {X : Cx} {x m : Str} {ps : List Str} {k : Nat} {sp : Sp} {e o : Expr} {es : List Expr} {t : TA} {ta : TE} {p pos apos : Pos} {C : Addr}
theorem pe_mcal {pl : Sem Bool} (c : MCal X.prog X.w X.K X.mg X.base C m ps k sp) (T : Cls X.K C) (hr : Room k X.A) (ho : PE X o ta) (ha : PA X (e :: es) t)
    (hst : starEach (e :: es) X.env = (false, eval e X.env) :: starEach es X.env := by rfl) (hpl : (backTo pos (starEach es X.env)).any (·.1) = false := by rfl)
    (ht : eval (.Call (.Attribute o m apos) (e :: es) [] pos) X.env = (do
      let ov ← eval o X.env
      standAt apos.atName
      let (f, first) ← holding [ov] (getMethod ov m pl)
      callWith pos f first (backTo pos (starEach (e :: es) X.env)) (backToKw pos (keywordEach [] X.env))) := by rfl) :
    PE X (.Call (.Attribute o m apos) (e :: es) [] pos) (tMeth C m sp [] E0 ta t) := by
  obtain ⟨f, fd, F, M, b⟩ := c.ex
  exact pe_meth ho T M F hr b .nil pass0 ha hst hpl ht
theorem pe_mcal0 {pl : Sem Bool} (c : MCal X.prog X.w X.K X.mg X.base C m ps k sp) (T : Cls X.K C) (hr : Room k X.A) (ho : PE X o ta)
    (ht : eval (.Call (.Attribute o m apos) [] [] pos) X.env = (do
      let ov ← eval o X.env
      standAt apos.atName
      let (f, first) ← holding [ov] (getMethod ov m pl)
      callWith pos f first (backTo pos (starEach [] X.env)) (backToKw pos (keywordEach [] X.env))) := by rfl) :
    PE X (.Call (.Attribute o m apos) [] [] pos) (tMeth C m sp [] E0 ta tNil) := by
  obtain ⟨f, fd, F, M, b⟩ := c.ex
  exact pe_meth0 ho T M F hr b .nil pass0 ht
theorem pe_mk (c : MkCal X.prog X.w X.K X.mg X.base C ps k sp) (hr : Room (k + 1) X.A) (hm : X.mg x = some (.ref C)) (ha : PA X (e :: es) t) (hg : Gl X x := by rfl)
    (hdb : (x == ("__debug__" : Str)) = false := by decide) (he : starEach (e :: es) X.env = (false, eval e X.env) :: starEach es X.env := by rfl) (hpl : (backTo pos (starEach es X.env)).any (·.1) = false := by rfl) :
    PE X (.Call (.Name x p) (e :: es) [] pos) (tMake C sp [] E0 t) := by
  obtain ⟨f, fd, F, M, b⟩ := c.ex
  exact pe_make M F hr hg hm b .nil pass0 ha hdb he hpl
theorem pe_clsn (h : X.mg x = some (.ref C)) (hg : Gl X x := by rfl) (hd : (x == ("__debug__" : Str)) = false := by decide) : PE X (.Name x pos) (tC (.ref C)) := pe_glob hg h rfl hd
theorem pg_tupK (K : PySem.W.Frag) {es : List Expr} {k : Nat} {t : TGs} {n : Nat} (hK : X.K = K) (hc : X.calm = true) (h : PGs X es t)
    (hn : (assignEach es X.env).length = n := by rfl) (hst : (assignEach es X.env).findIdx? (·.1) = none := by rfl) : PG X (.Tuple es k pos) (gTup K n t) := by
  subst hK
  exact pg_tup hc h hn hst
end
section
variable {K : PySem.W.Frag} {σ : L2.St} {H : Hp} {te ta tb : TE} {t : TA} {tt : TT} {tu tz : TS} {D : Ends} {a C : Addr} {v z : V} {P : V → Hp → Prop}
theorem ev_fld {mg : Str → Option Value} {x : Str} (T : ClT K mg x C) (h : Ev te σ H (.ref a)) (hi : InsH C H a v) : Ev (tFld K te "strategy") σ H v := fun H1 e Q q =>
  h H1 e _ fun H2 e2 => by
    obtain ⟨dx, hi⟩ := hi.up (e.trans e2)
    exact ⟨a, C, dx, _, v, rfl, hi, T.cl, T.nS, by simp [List.lookup], q H2 e2⟩
theorem s_fldP {mg : Str → Option Value} {x : Str} {dx : Addr} (T : ClT K mg x C) (h : EvP te σ H P) (ho : ∀ H1, Ex H H1 → Ev ta σ H1 (.ref a)) (ha : H a = some (.ins C dx [])) (k : ∀ v H1 H2, Ex H H1 → P v H1 → Ex H1 H2 → D.nx σ (upd H2 a (.ins C dx [("strategy", v)]))) : sFld K ta te "strategy" D σ H :=
  h H (Ex.refl _) _ fun v H1 e1 hv => ho H1 e1 H1 (Ex.refl _) _ fun H2 e2 => ⟨a, C, dx, [], rfl, (e1.trans e2) _ _ ha, T.cl, T.nS, (by show 0 < 1000; decide), k v H1 H2 e1 hv e2⟩
theorem evp_if {b : Bool} (h : EvT tt σ H b) (h1 : b = true → EvP ta σ H P) (h2 : b = false → EvP tb σ H P) : EvP (tIf tt ta tb) σ H P := fun H1 e Q q => h H1 e _ fun H2 e2 => by
  cases b with
  | true => exact h1 rfl H2 (e.trans e2) Q fun v H3 e3 hv => q v H3 (e2.trans e3) hv
  | false => exact h2 rfl H2 (e.trans e2) Q fun v H3 e3 hv => q v H3 (e2.trans e3) hv
theorem nomem {m : Str} (h : ¬ m = "strategy") : ([("strategy", v)] : List (Str × V)).lookup m = none := by
  rw [List.lookup_cons, beq_false_of_ne h]
  rfl
theorem ev_meth {m : Str} {sp : Sp} {E : XK} {vs : List V} (h : Ev te σ H (.ref a)) (hi : InsH C H a v) (hm : ¬ m = "strategy") (ha : EvA t σ H vs) (hs : SpV sp (.ref a :: (vs ++ [])) H z) : Ev (tMeth C m sp [] E te t) σ H z := fun H1 e Q q =>
  h H1 e _ fun H2 e2 => by
    obtain ⟨dx, hi⟩ := hi.up (e.trans e2)
    exact ⟨a, dx, _, rfl, hi, nomem hm, ha H2 (e.trans e2) _ fun H3 e3 => hs H3 ((e.trans e2).trans e3) Q (fun H4 e4 => q H4 ((e2.trans e3).trans e4)) E⟩
theorem evp_meth {m : Str} {sp : Sp} {E : XK} {vs : List V} (h : Ev te σ H (.ref a)) (hi : InsH C H a v) (hm : ¬ m = "strategy") (ha : EvA t σ H vs) (hs : SpP sp (.ref a :: (vs ++ [])) H P) : EvP (tMeth C m sp [] E te t) σ H P := fun H1 e Q q =>
  h H1 e _ fun H2 e2 => by
    obtain ⟨dx, hi⟩ := hi.up (e.trans e2)
    exact ⟨a, dx, _, rfl, hi, nomem hm, ha H2 (e.trans e2) _ fun H3 e3 => hs H3 ((e.trans e2).trans e3) Q (fun w H4 e4 hw => q w H4 ((e2.trans e3).trans e4) hw) E⟩
end
theorem ev_callU {σ : L2.St} {H : Hp} {ta tt : TE} {x z : V} {ws : List V} {sp : Sp} {E : XK} (hx : Ev ta σ H x) (ht : EvU tt σ H ws) (hs : ∀ p H1, Ex H H1 → H1 p = some (.tup ws) → SpV sp [x, .ref p] H1 z) : Ev (tCall sp [] E (tCons ta (tCons tt tNil))) σ H z := fun H1 e Q q =>
  hx H1 e _ fun H2 e2 => ht H2 (e.trans e2) _ fun p H3 _ e3 hp => hs p H3 ((e.trans e2).trans e3) hp H3 (Ex.refl _) Q (fun H4 e4 => q H4 ((e2.trans e3).trans e4)) E
/-- a strategy of the splitter, as its object keeps it -/
inductive SplS (C : Addr) (H : Hp) (p : Addr) (rs c : List Int) : Strat → Prop where
  | bal (h : InsH C H p (.str "balanced")) : SplS C H p rs c (stF bal rs c)
  | even (h : InsH C H p (.str "even")) : SplS C H p rs c (stF even rs c)
  | tog (h : InsH C H p (.str "together")) : SplS C H p rs c (stF joint rs c)
  | plan {l : Addr} {pl : List Row} (h : InsH C H p (.ref l)) (hl : PlH H l pl) (G : GoodPlan rs c pl) : SplS C H p rs c (stP rs c pl)
theorem SplS.up {C : Addr} {H H' : Hp} {p : Addr} {rs c : List Int} {st : Strat} (h : SplS C H p rs c st) (e : Ex H H') : SplS C H' p rs c st := by
  cases h with
  | bal h => exact .bal (h.up e)
  | even h => exact .even (h.up e)
  | tog h => exact .tog (h.up e)
  | plan h hl G => exact .plan (h.up e) (hl.up e) G
theorem SplS.valid {C : Addr} {H : Hp} {p : Addr} {rs c : List Int} {st : Strat} (h : SplS C H p rs c st) (hq : ∀ x ∈ rs, 2 ≤ x) (hc : ∀ x ∈ c, 0 ≤ x) : Valid rs c st := by
  cases h with
  | bal h => exact stF_valid bal_splits hq hc
  | even h => exact stF_valid even_splits hq hc
  | tog h => exact stF_valid joint_splits hq hc
  | plan h hl G => exact stP_valid hq hc G
section
variable {P : Program} {w : World} {K : PySem.W.Frag} {mg : Str → Option Value} {base : Heap} {f : Addr} {fd : FuncData} {C : Addr}
/-! ### Splitter -/
/-- the list that the object keeps: the same items -/
def StrV (x : V) (H : Hp) (v : V) (H2 : Hp) : Prop := (∃ z, x = .str z ∧ v = .str z) ∨ ∃ (a l : Addr) (xs : List V), x = .ref a ∧ H a = some (.lst xs) ∧ v = .ref l ∧ H2 l = some (.lst xs)
def spSI (C : Addr) : Sp := fun vs H Q _ => ∃ (p dx : Addr) (x : V), vs = [.ref p, x] ∧ H p = some (.ins C dx []) ∧ ((∃ z, x = .str z ∧ inV (.str z) [.str "balanced", .str "even", .str "together"] = true) ∨ ∃ (a : Addr) (xs : List V), x = .ref a ∧ H a = some (.lst xs)) ∧
  ∀ (v : V) (H' : Hp), InsH C H' p v → StrV x H v H' → (∀ b o, H b = some o → b ≠ p → H' b = some o) → Q .non H'
theorem scSI : FnScope ["self", "strategy"] ["self", "strategy"] (defScope sSI) := ⟨rfl, rfl, rfl, by decide +kernel, rfl, by decide +kernel, by decide +kernel⟩
theorem ok_SI (F : Fun K "__init__" "Splitter.__init__" sSI f fd) (B : Bt mg) (T : ClT K mg "Splitter" C) (c1 : Callee P w K mg base "is_word" ["value", "words"] 1 spIsWord) (c2 : Callee P w K mg base "is_sequence" ["value"] 1 spIsSeq) : FnOk P w K mg base CX0 2 f fd ["self", "strategy"] (spSI C) := by
  refine F.ok scSI (fun vs H Q E h => ?_) (fun cdv A outer s H vs Q E hr h => ?_)
  · obtain ⟨p, dx, x, rfl, _⟩ := h
    rfl
  · obtain ⟨p, dx, x, rfl, hp, hx, k⟩ := h
    refine ⟨_, pss_cons (ps_if (PW.pt (pw_and (pt_not (pt_val (pe_cal c1 hr (pa_cons (pv 1) (pa_cons (pe_tup (pa_cons (pe_mod B.bal) (pa_cons (pe_mod B.even) (pa_cons (pe_mod B.tog) pa_nil)))) pa_nil)))))
        (pw_and1 (pt_not (pt_val (pe_cal c2 hr (pa_cons (pv 1) pa_nil))))))) (pss_one ps_never) pss_nil)
      (pss_one (ps_fld (pv 0) (pe_ifExp (pt_val (pe_cal c2 hr (pa_cons (pv 1) pa_nil))) (pe_callTy call_list_of (by rfl) B.list (by decide +kernel) (pa_cons (pv 1) pa_nil)) (pv 1)) rfl)), ?_⟩
    have main : ∀ H1, Ex H H1 → ∀ v H2 H3, Ex H1 H2 → StrV x H v H2 → Ex H2 H3 → Q .non (upd H3 p (.ins C dx [("strategy", v)])) := fun H1 e1 v H2 H3 e2 hv e3 => by
      have eH := (e1.trans e2).trans e3
      refine k v _ ⟨dx, upd_same⟩ ?_ fun b o e hb => by rw [upd_ne hb]; exact eH _ _ e
      rcases hv with hv | ⟨a, l, xs, rfl, ha, rfl, hl⟩
      · exact .inl hv
      · refine .inr ⟨a, l, xs, rfl, ha, rfl, ?_⟩
        rw [upd_ne]
        · exact e3 _ _ hl
        · intro z
          have := (e1.trans e2) _ _ hp
          rw [z, this] at hl
          cases hl
    rcases hx with ⟨z, rfl, hz⟩ | ⟨a, xs, rfl, ha⟩
    · refine q_guard (et_and (a := false) (b := true) (et_not (a := true) (et_B (ev_callU (ev_var rfl) (eu_tup (ea_cons ev_c (ea_cons ev_c (ea_cons ev_c ea_nil))) (by decide)) fun t H1 _ ht => ?_))) fun z => nomatch z) fun H1 e1 => ?_
      · rw [← hz]
        exact sp_isWordS ht rfl
      · refine s_fldP T (evp_if (b := false) (et_B (ev_call (ea_cons (ev_var rfl) ea_nil) sp_isSeqS)) (fun z => nomatch z) fun _ => evp_v (P := StrV (.str z) H) (ev_var rfl) fun _ _ => .inl ⟨z, rfl, rfl⟩) (fun _ _ => ev_var rfl) (e1 _ _ hp) (main H1 e1)
    · refine q_guard (et_and (a := true) (b := false) (et_not (a := false) (et_B (ev_callU (ev_var rfl) (eu_tup (ea_cons ev_c (ea_cons ev_c (ea_cons ev_c ea_nil))) (by decide)) fun t H1 e1 ht => sp_isWordL ht rfl (e1 _ _ ha)))) fun _ => et_not (a := true) (et_B (ev_call (ea_cons (ev_var rfl) ea_nil) (sp_isSeqL ha)))) fun H1 e1 => ?_
      refine s_fldP T (evp_if (b := true) (et_B (ev_call (ea_cons (ev_var rfl) ea_nil) (sp_isSeqL (e1 _ _ ha)))) (fun _ => evp_l (P := StrV (.ref a) H) (el_list (ev_var rfl) (.of (e1 _ _ ha))) fun l H2 _ hl => .inr ⟨a, l, xs, rfl, ha, rfl, hl⟩) fun z => nomatch z) (fun _ _ => ev_var rfl) (e1 _ _ hp) (main H1 e1)
def spHas (C : Addr) : Sp := fun vs H Q _ => ∃ (p : Addr) (v : V), vs = [.ref p] ∧ InsH C H p v ∧ ((∃ z, v = .str z ∧ RetV (.bl false) H Q) ∨ ∃ (a : Addr) (xs : List V), v = .ref a ∧ H a = some (.lst xs) ∧ RetV (.bl true) H Q)
theorem sp_hasS {H : Hp} {p : Addr} {z : Str} (h : InsH C H p (.str z)) : SpV (spHas C) [.ref p] H (.bl false) := fun H1 e Q k E => ⟨p, _, rfl, h.up e, .inl ⟨z, rfl, k⟩⟩
theorem sp_hasL {H : Hp} {p a : Addr} {xs : List V} (h : InsH C H p (.ref a)) (ha : H a = some (.lst xs)) : SpV (spHas C) [.ref p] H (.bl true) := fun H1 e Q k E => ⟨p, _, rfl, h.up e, .inr ⟨a, xs, rfl, e _ _ ha, k⟩⟩
theorem scSHas : FnScope ["self"] ["self"] (defScope sSHas) := ⟨rfl, rfl, rfl, by decide +kernel, rfl, by decide +kernel, by decide +kernel⟩
theorem ok_SHas (F : Fun K "has_plan" "Splitter.has_plan" sSHas f fd) (B : Bt mg) (T : ClT K mg "Splitter" C) : FnOk P w K mg base CX0 1 f fd ["self"] (spHas C) := by
  refine F.ok scSHas (fun vs H Q E h => ?_) (fun cdv A outer s H vs Q E hr h => ?_)
  · obtain ⟨p, v, rfl, _⟩ := h
    rfl
  · obtain ⟨p, v, rfl, hp, k⟩ := h
    refine ⟨_, pss_one (ps_ret (pe_callB call_isi (by rfl) B.isi (by decide +kernel) (pa_cons (pe_fld (pv 0) rfl) (pa_cons (pe_bltn (v := .ty "list") (by rfl) B.list (by decide +kernel) rfl) pa_nil)))), ?_⟩
    rcases k with ⟨z, rfl, k⟩ | ⟨a, xs, rfl, ha, k⟩
    · exact s_ret (ev_cb (ea_cons (ev_fld T (ev_var rfl) hp) (ea_cons ev_c ea_nil)) (rc_isi (tx_str z) k_sl)) k
    · exact s_ret (ev_cb (ea_cons (ev_fld T (ev_var rfl) hp) (ea_cons ev_c ea_nil)) (rc_isi (tx_lst ha) k_ll)) k
theorem scCHas : FnScope ["self"] ["self"] (defScope sCHas) := ⟨rfl, rfl, rfl, by decide +kernel, rfl, by decide +kernel, by decide +kernel⟩
theorem ok_CHas (F : Fun K "has_list" "Chooser.has_list" sCHas f fd) (B : Bt mg) (T : ClT K mg "Chooser" C) : FnOk P w K mg base CX0 1 f fd ["self"] (spHas C) := by
  refine F.ok scCHas (fun vs H Q E h => ?_) (fun cdv A outer s H vs Q E hr h => ?_)
  · obtain ⟨p, v, rfl, _⟩ := h
    rfl
  · obtain ⟨p, v, rfl, hp, k⟩ := h
    refine ⟨_, pss_one (ps_ret (pe_callB call_isi (by rfl) B.isi (by decide +kernel) (pa_cons (pe_fld (pv 0) rfl) (pa_cons (pe_bltn (v := .ty "list") (by rfl) B.list (by decide +kernel) rfl) pa_nil)))), ?_⟩
    rcases k with ⟨z, rfl, k⟩ | ⟨a, xs, rfl, ha, k⟩
    · exact s_ret (ev_cb (ea_cons (ev_fld T (ev_var rfl) hp) (ea_cons ev_c ea_nil)) (rc_isi (tx_str z) k_sl)) k
    · exact s_ret (ev_cb (ea_cons (ev_fld T (ev_var rfl) hp) (ea_cons ev_c ea_nil)) (rc_isi (tx_lst ha) k_ll)) k
def spSFits (C : Addr) : Sp := fun vs H Q _ => ∃ (p a b : Addr) (rs c : List Int) (st : Strat), vs = [.ref p, .ref a, .ref b] ∧ SplS C H p rs c st ∧ LI H a rs ∧ Sched rs ∧ TuI H b c ∧ Cnt c ∧ RetV (.bl true) H Q
theorem sp_SFits {H : Hp} {p a b : Addr} {rs c : List Int} {st : Strat} (h : SplS C H p rs c st) (ha : LI H a rs) (S : Sched rs) (hb : TuI H b c) (Cc : Cnt c) : SpV (spSFits C) [.ref p, .ref a, .ref b] H (.bl true) := fun H1 e Q k E => ⟨p, a, b, rs, c, st, rfl, h.up e, e _ _ ha, S, e _ _ hb, Cc, k⟩
theorem scSFits : FnScope ["self", "schedule", "counts"] ["self", "schedule", "counts"] (defScope sSFits) := ⟨rfl, rfl, rfl, by decide +kernel, rfl, by decide +kernel, by decide +kernel⟩
theorem ok_SFits (F : Fun K "fits" "Splitter.fits" sSFits f fd) (B : Bt mg) (T : ClT K mg "Splitter" C) (c1 : MCal P w K mg base C "has_plan" ["self"] 1 (spHas C)) (c2 : Callee P w K mg base "check_plan" ["schedule", "counts", "plan"] 5 spCheckPlan) : FnOk P w K mg base CX0 6 f fd ["self", "schedule", "counts"] (spSFits C) := by
  refine F.ok scSFits (fun vs H Q E h => ?_) (fun cdv A outer s H vs Q E hr h => ?_)
  · obtain ⟨p, a, b, rs, c, st, rfl, _⟩ := h
    rfl
  · obtain ⟨p, a, b, rs, c, st, rfl, hp, ha, S, hb, Cc, k⟩ := h
    refine ⟨_, pss_cons (ps_if (pt_val (pe_mcal0 c1 T.cl (hr.mono (by decide)) (pv 0))) (pss_one (ps_try_thru0 (pss_one (ps_expr (pe_cal c2 hr (pa_cons (pv 1) (pa_cons (pv 2) (pa_cons (pe_fld (pv 0) rfl) pa_nil)))))))) pss_nil) (pss_one (ps_ret pe_bl)), ?_⟩
    have word : ∀ z : Str, InsH C H p (.str z) → (tSeq (tIfS (tB (tMeth C "has_plan" (spHas C) [] E0 (tVar 0) tNil)) (tDrop (tCall spCheckPlan [] E0 (tCons (tVar 1) (tCons (tVar 2) (tCons (tFld K (tVar 0) "strategy") tNil))))) tNext) (tRet (tC (.bl true)))) { nx := fun _ H' => Q V.non H', rt := Q } [some (.ref p), some (.ref a), some (.ref b)] H := fun z h =>
      q_guard (et_B (ev_meth (ev_var rfl) h (by decide +kernel) ea_nil (sp_hasS h))) fun H1 e1 => s_ret ev_c fun H2 e2 => k H2 (e1.trans e2)
    cases hp with
    | bal h => exact word _ h
    | even h => exact word _ h
    | tog h => exact word _ h
    | plan h hl G =>
      obtain ⟨ads, h1, h2, h3⟩ := id hl
      refine q_ifT (et_B (ev_meth (ev_var rfl) h (by decide +kernel) ea_nil (sp_hasL h h1))) fun H1 e1 => ?_
      refine s_drop (ev_call (ea_cons (ev_var rfl) (ea_cons (ev_var rfl) (ea_cons (ev_fld T (ev_var rfl) (h.up e1)) ea_nil))) (sp_checkPlan (e1 _ _ ha) S (e1 _ _ hb) Cc (hl.up e1) G)) fun H2 e2 => ?_
      show tRet (tC (.bl true)) { nx := fun _ H' => Q V.non H', rt := Q } [some (.ref p), some (.ref a), some (.ref b)] H2
      exact s_ret ev_c fun H3 e3 => k H3 ((e1.trans e2).trans e3)
/-- which split a word names -/
def wordSpl (z : Str) : List Int → List Int → List (List Int) := if z = "balanced" then bal else if z = "even" then even else joint
def spSSplit (C : Addr) : Sp := fun vs H Q _ => ∃ (p a b : Addr) (z : Str) (q : Int) (r c : List Int), vs = [.ref p, .ref a, .ref b] ∧ InsH C H p (.str z) ∧ LI H a (q :: r) ∧ Small (q :: r) ∧ TuI H b c ∧ Cnt c ∧ RetP (fun v H2 => ∃ d, v = .ref d ∧ SplH H2 d (wordSpl z (q :: r) c)) H Q
theorem sp_SSplit {H : Hp} {p a b : Addr} {z : Str} {q : Int} {r c : List Int} (h : InsH C H p (.str z)) (ha : LI H a (q :: r)) (S : Small (q :: r)) (hb : TuI H b c) (Cc : Cnt c) : SpP (spSSplit C) [.ref p, .ref a, .ref b] H (fun v H2 => ∃ d, v = .ref d ∧ SplH H2 d (wordSpl z (q :: r) c)) :=
  fun H1 e Q k E => ⟨p, a, b, z, q, r, c, rfl, h.up e, e _ _ ha, S, e _ _ hb, Cc, k⟩
theorem scSSplit : FnScope ["self", "schedule", "counts"] ["self", "schedule", "counts"] (defScope sSSplit) := ⟨rfl, rfl, rfl, by decide +kernel, rfl, by decide +kernel, by decide +kernel⟩
theorem ok_SSplit (F : Fun K "split_position" "Splitter.split_position" sSSplit f fd) (B : Bt mg) (T : ClT K mg "Splitter" C) (c1 : Callee P w K mg base "balanced_split" ["schedule", "counts"] 5 spBalanced) (c2 : Callee P w K mg base "even_split" ["schedule", "counts"] 1 spEven) (c3 : Callee P w K mg base "joint_split" ["schedule", "counts"] 1 spJoint) :
    FnOk P w K mg base CX0 6 f fd ["self", "schedule", "counts"] (spSSplit C) := by
  refine F.ok scSSplit (fun vs H Q E h => ?_) (fun cdv A outer s H vs Q E hr h => ?_)
  · obtain ⟨p, a, b, z, q, r, c, rfl, _⟩ := h
    rfl
  · obtain ⟨p, a, b, z, q, r, c, rfl, hp, ha, S, hb, Cc, k⟩ := h
    refine ⟨_, pss_cons (ps_if (pt_cmpR op_eq (pe_fld (pv 0) rfl) (pe_mod B.bal) (nomark _)) (pss_one (ps_ret (pe_cal c1 hr (pa_cons (pv 1) (pa_cons (pv 2) pa_nil))))) pss_nil)
      (pss_one (ps_ret (pe_ifExp (pt_cmpR op_eq (pe_fld (pv 0) rfl) (pe_mod B.even) (nomark _)) (pe_cal c2 (hr.mono (by decide)) (pa_cons (pv 1) (pa_cons (pv 2) pa_nil))) (pe_cal c3 (hr.mono (by decide)) (pa_cons (pv 1) (pa_cons (pv 2) pa_nil)))))), ?_⟩
    have dz : ∀ y : Str, decide (V.str z = V.str y) = decide (z = y) := fun y => by
      by_cases h : z = y
      · rw [h, decide_eq_true rfl, decide_eq_true rfl]
      · rw [decide_eq_false h, decide_eq_false (fun e => h (V.str.inj e))]
    refine q_if (b := decide (z = "balanced")) (et_test (ev_is (ev_op (ev_fld T (ev_var rfl) hp) ev_c (rv_eq rfl)) (by rw [dz]))) (fun hb1 H1 e1 => ?_) (fun hb1 H1 e1 => ?_)
    · have : wordSpl z = bal := if_pos (of_decide_eq_true hb1)
      rw [this] at k
      exact s_retP (evp_call (ea_cons (ev_var rfl) (ea_cons (ev_var rfl) ea_nil)) (sp_balanced (e1 _ _ ha) S (e1 _ _ hb) Cc)) fun v H2 e2 hv => k v H2 (e1.trans e2) hv
    · have h1 := of_decide_eq_false hb1
      refine s_retP (evp_if (b := decide (z = "even")) (et_test (ev_is (ev_op (ev_fld T (ev_var rfl) (hp.up e1)) ev_c (rv_eq rfl)) (by rw [dz]))) (P := fun v H2 => ∃ d, v = .ref d ∧ SplH H2 d (wordSpl z (q :: r) c)) (fun hb2 => ?_) (fun hb2 => ?_)) fun v H2 e2 hv => k v H2 (e1.trans e2) hv
      · have : wordSpl z = even := (if_neg h1).trans (if_pos (of_decide_eq_true hb2))
        rw [this]
        exact evp_call (ea_cons (ev_var rfl) (ea_cons (ev_var rfl) ea_nil)) (sp_even (e1 _ _ ha) S.toSched (e1 _ _ hb) Cc)
      · have : wordSpl z = joint := (if_neg h1).trans (if_neg (of_decide_eq_false hb2))
        rw [this]
        exact evp_call (ea_cons (ev_var rfl) (ea_cons (ev_var rfl) ea_nil)) (sp_joint (e1 _ _ ha) S.toSched (e1 _ _ hb) Cc)
end
end SC

/-! ## ScD2 -/
/-! The chooser, and the game. -/
namespace SC
open PySem PySem.Spec PyProof.Rows L2 Evl
section
variable {P : Program} {w : World} {K : PySem.W.Frag} {mg : Str → Option Value} {base : Heap} {f : Addr} {fd : FuncData} {C : Addr}
/-- a chooser with a list of choices -/
def ChoS (C : Addr) (H : Hp) (p : Addr) (ch : List Int) : Prop := ∃ l, InsH C H p (.ref l) ∧ LI H l ch
theorem ChoS.up {H H' : Hp} {p : Addr} {ch : List Int} (h : ChoS C H p ch) (e : Ex H H') : ChoS C H' p ch := let ⟨l, a, b⟩ := h; ⟨l, a.up e, e _ _ b⟩
def spCI (C : Addr) : Sp := fun vs H Q _ => ∃ (p dx a : Addr) (ch : List Int), vs = [.ref p, .ref a] ∧ H p = some (.ins C dx []) ∧ LI H a ch ∧ (∀ x ∈ ch, 0 ≤ x) ∧ ch.length ≤ 1000 ∧
  ∀ H' : Hp, ChoS C H' p ch → (∀ b o, H b = some o → b ≠ p → H' b = some o) → Q .non H'
theorem scCI : FnScope ["self", "strategy", "is_list", "entry"] ["self", "strategy"] (defScope sCI) := ⟨rfl, rfl, rfl, by decide +kernel, rfl, by decide +kernel, by decide +kernel⟩
theorem ok_CI (F : Fun K "__init__" "Chooser.__init__" sCI f fd) (B : Bt mg) (T : ClT K mg "Chooser" C) (c1 : Callee P w K mg base "is_word" ["value", "words"] 1 spIsWord) (c2 : Callee P w K mg base "is_sequence" ["value"] 1 spIsSeq)
    (c3 : Callee P w K mg base "is_at_least" ["value", "low"] 2 spAtLeast) : FnOk P w K mg base CX0 3 f fd ["self", "strategy"] (spCI C) := by
  refine F.ok scCI (fun vs H Q E h => ?_) (fun cdv A outer s H vs Q E hr h => ?_)
  · obtain ⟨p, dx, a, ch, rfl, _⟩ := h
    rfl
  · obtain ⟨p, dx, a, ch, rfl, hp, ha, h0, hl, k⟩ := h
    refine ⟨_, pss_cons (ps_set (i := 2) scCI.nd rfl (.inl rfl) (pe_and (pe_cal c2 (hr.mono (by decide)) (pa_cons (pv 1) pa_nil)) (pe_one (pe_callB (cr_all rfl) (by rfl) B.all (by decide +kernel)
        (pa_cons (pe_lc (own := [("entry", 3)]) (g := gName 3) (tt := tYes) rfl scCI.nd (pi_list (pv 1)) (blkOk_by (N := ["self", "strategy", "is_list", "entry"]) (sc := defScope sCI) (by decide +kernel))
          (fun _ _ _ _ _ => pg_name (i := 3) scCI.nd rfl (.inl rfl)) (fun _ _ _ _ _ => pts_nil) (fun _ _ _ _ _ => pe_cal c3 hr (pa_cons (pv 3) (pa_cons pe_int pa_nil)))) pa_nil)))))
      (pss_cons (ps_if (PW.pt (pw_and (pt_not (pt_val (pe_cal c1 (hr.mono (by decide)) (pa_cons (pv 1) (pa_cons (pe_tup (pa_cons (pe_mod B.lig) (pa_cons (pe_mod B.hea) pa_nil))) pa_nil)))))
        (pw_and1 (pt_not (pt_val (pv 2)))))) (pss_one ps_never) pss_nil)
      (pss_one (ps_fld (pv 0) (pe_ifExp (pt_val (pv 2)) (pe_callTy call_list_of (by rfl) B.list (by decide +kernel) (pa_cons (pv 1) pa_nil)) (pv 1)) rfl))), ?_⟩
    refine q_asg (ev_andV (a := true) (b := true) (ev_call (ea_cons (ev_var rfl) ea_nil) (sp_isSeqL ha)) fun _ => ev_cb1P (evl_lc (fun _ => .bl true) (src_list (ev_var rfl) ha) (by rw [List.length_map]; omega) (fun _ => rfl) (fun i x H1 hi hx e1 => ?_)) fun v H1 e1 hv => ?_) fun H1 e1 => ?_
    · obtain ⟨z, hz, rfl⟩ := get_int hx
      refine ev_is (ev_call (ea_cons (ev_var rfl) (ea_cons ev_c ea_nil)) (sp_atLeast z 0)) ?_
      rw [decide_eq_true (h0 z (List.mem_of_getElem? hz))]
    · obtain ⟨D, rfl, hD⟩ := hv
      exact rc_all hD
    · refine q_guard (et_and (a := true) (b := false) (et_not (a := false) (et_B (ev_callU (ev_var rfl) (eu_tup (ea_cons ev_c (ea_cons ev_c ea_nil)) (by decide)) fun t H2 e2 ht => sp_isWordL ht rfl (e2 _ _ (e1 _ _ ha))))) fun _ => et_not (a := true) (et_B (ev_var rfl))) fun H2 e2 => ?_
      have e2 := e1.trans e2
      refine s_fldP T (evp_if (b := true) (et_B (ev_var rfl)) (fun _ => evp_l (P := fun v H2 => ∃ l, v = .ref l ∧ LI H2 l ch) (el_list (ev_var rfl) (.of (e2 _ _ ha))) fun l H2 _ hl => ⟨l, rfl, hl⟩) fun z => nomatch z) (fun _ _ => ev_var rfl) (e2 _ _ hp) fun v H3 H4 e3 hv e4 => ?_
      obtain ⟨l, rfl, hl⟩ := hv
      have eH := (e2.trans e3).trans e4
      refine k _ ⟨l, ⟨dx, upd_same⟩, ?_⟩ fun b o e hb => by rw [upd_ne hb]; exact eH _ _ e
      rw [LI, upd_ne]
      · exact e4 _ _ hl
      · intro z
        have := (e2.trans e3) _ _ hp
        rw [← z, hl] at this
        cases this
def spCFits (C : Addr) : Sp := fun vs H Q _ => ∃ (p a : Addr) (rs ch : List Int), vs = [.ref p, .ref a] ∧ ChoS C H p ch ∧ LI H a rs ∧ Sched rs ∧ Ok rs ch ∧ ch.length = rs.length ∧ RetV (.bl true) H Q
theorem sp_CFits {H : Hp} {p a : Addr} {rs ch : List Int} (h : ChoS C H p ch) (ha : LI H a rs) (S : Sched rs) (o : Ok rs ch) (hl : ch.length = rs.length) : SpV (spCFits C) [.ref p, .ref a] H (.bl true) := fun H1 e Q k E => ⟨p, a, rs, ch, rfl, h.up e, e _ _ ha, S, o, hl, k⟩
theorem scCFits : FnScope ["self", "schedule", "group", "entry"] ["self", "schedule"] (defScope sCFits) := ⟨rfl, rfl, rfl, by decide +kernel, rfl, by decide +kernel, by decide +kernel⟩
theorem ok_CFits (F : Fun K "fits" "Chooser.fits" sCFits f fd) (B : Bt mg) (T : ClT K mg "Chooser" C) (c1 : MCal P w K mg base C "has_list" ["self"] 1 (spHas C)) : FnOk P w K mg base CX0 2 f fd ["self", "schedule"] (spCFits C) := by
  refine F.ok scCFits (fun vs H Q E h => ?_) (fun cdv A outer s H vs Q E hr h => ?_)
  · obtain ⟨p, a, rs, ch, rfl, _⟩ := h
    rfl
  · obtain ⟨p, a, rs, ch, rfl, hp, ha, S, o, hl, k⟩ := h
    refine ⟨_, pss_cons (ps_if (pt_not (pt_val (pe_mcal0 c1 T.cl hr (pv 0)))) (pss_one ps_never) pss_nil)
      (pss_cons (ps_if (pt_cmpR op_ne (pe_callB call_len_seq (by rfl) B.len PySem.boot_len (pa_cons (pe_fld (pv 0) rfl) pa_nil)) (pe_callB call_len_seq (by rfl) B.len PySem.boot_len (pa_cons (pv 1) pa_nil)) (nomark _)) (pss_one ps_never) pss_nil)
      (pss_one (ps_ret (pe_callB (cr_all rfl) (by rfl) B.all (by decide +kernel) (pa_cons (pe_lc (own := [("group", 2), ("entry", 3)]) (g := gTup K 2 (gCons (gName 2) (gCons (gName 3) gNil))) (tt := tYes) rfl scCFits.nd
          (SCZ.pi_zipKw (bs := true) (by rfl) B.zip (pa_cons (pe_fld (pv 0) rfl) (pa_cons (pv 1) pa_nil))) (blkOk_by (N := ["self", "schedule", "group", "entry"]) (sc := defScope sCFits) (by decide +kernel))
          (fun _ _ _ _ _ => pg_tupK K rfl rfl (pgs_cons (pg_name (i := 2) scCFits.nd rfl (.inl rfl)) (pgs_cons (pg_name (i := 3) scCFits.nd rfl (.inl rfl)) pgs_nil))) (fun _ _ _ _ _ => pts_nil) (fun _ _ _ _ _ => pe_cmpR op_lt (pv 2) (pv 3) (nomark _))) pa_nil))))), ?_⟩
    obtain ⟨l, hi, hL⟩ := id hp
    have hsl := S.len
    refine q_guard (et_not (a := true) (et_B (ev_meth (ev_var rfl) hi (by decide +kernel) ea_nil (sp_hasL hi hL)))) fun H1 e1 => ?_
    refine q_guard (et_test (ev_is (ev_op (ev_lenI (ev_fld T (ev_var rfl) (hi.up e1)) (e1 _ _ hL)) (ev_lenI (ev_var rfl) (e1 _ _ ha)) (rv_ne rfl)) (by rw [hl, decide_eq_true rfl]; rfl))) fun H2 e2 => ?_
    have e2 := e1.trans e2
    refine s_ret (ev_cb1P (evl_lc2 (fun _ => .bl true) (src_zips (ea_cons (ev_fld T (ev_var rfl) (hi.up e2)) (ea_cons (ev_var rfl) ea_nil)) (e2 _ _ hL) (e2 _ _ ha) (by rw [List.length_map, List.length_map, hl])) (by rw [List.length_map]; omega) (fun _ _ => rfl) (fun i x y H3 hi' hx hy e3 => ?_)) fun v H3 e3 hv => ?_) fun H4 e4 => k H4 (e2.trans e4)
    · obtain ⟨g, hg, rfl⟩ := get_int hx
      obtain ⟨e, he, rfl⟩ := get_int hy
      exact ev_op (ev_var rfl) (ev_var rfl) (rv_bl (decide_eq_true (o.2 i g e hg he).2))
    · obtain ⟨D, rfl, hD⟩ := hv
      exact rc_all hD
def spCNext (C : Addr) : Sp := fun vs H Q _ => ∃ (p a b d : Addr) (i : Nat) (q g : Int) (r c ch : List Int) (gs : List (List Int)), vs = [.ref p, .ref a, .ref b, .ref d, .int (i : Int)] ∧ ChoS C H p ch ∧ LI H a (q :: r) ∧ Sched (q :: r) ∧ TuI H b c ∧ Cnt c ∧ SplH H d gs ∧ IsSplit q c gs ∧ ch[i]? = some g ∧ g < q ∧ RetV (.int g) H Q
theorem sp_CNext {H : Hp} {p a b d : Addr} {i : Nat} {q g : Int} {r c ch : List Int} {gs : List (List Int)} (h : ChoS C H p ch) (ha : LI H a (q :: r)) (S : Sched (q :: r)) (hb : TuI H b c) (Cc : Cnt c) (hd : SplH H d gs) (sp : IsSplit q c gs) (hg : ch[i]? = some g) (hlt : g < q) :
    SpV (spCNext C) [.ref p, .ref a, .ref b, .ref d, .int (i : Int)] H (.int g) := fun H1 e Q k E => ⟨p, a, b, d, i, q, g, r, c, ch, gs, rfl, h.up e, e _ _ ha, S, e _ _ hb, Cc, hd.up e, sp, hg, hlt, k⟩
theorem scCNext : FnScope ["self", "schedule", "counts", "split", "index"] ["self", "schedule", "counts", "split", "index"] (defScope sCNext) := ⟨rfl, rfl, rfl, by decide +kernel, rfl, by decide +kernel, by decide +kernel⟩
theorem ok_CNext (F : Fun K "next_choice" "Chooser.next_choice" sCNext f fd) (B : Bt mg) (T : ClT K mg "Chooser" C) (c1 : MCal P w K mg base C "has_list" ["self"] 1 (spHas C)) (c2 : Callee P w K mg base "require_split" ["schedule", "counts", "split"] 5 spReqSplit) (c3 : Callee P w K mg base "is_at_least" ["value", "low"] 2 spAtLeast) :
    FnOk P w K mg base CX0 6 f fd ["self", "schedule", "counts", "split", "index"] (spCNext C) := by
  refine F.ok scCNext (fun vs H Q E h => ?_) (fun cdv A outer s H vs Q E hr h => ?_)
  · obtain ⟨p, a, b, d, i, q, g, r, c, ch, gs, rfl, _⟩ := h
    rfl
  · obtain ⟨p, a, b, d, i, q, g, r, c, ch, gs, rfl, hp, ha, S, hb, Cc, hd, sp, hg, hlt, k⟩ := h
    refine ⟨_, pss_cons (ps_expr (pe_cal c2 hr (pa_cons (pv 1) (pa_cons (pv 2) (pa_cons (pv 3) pa_nil)))))
      (pss_cons (ps_if (PW.pt (pw_or (pt_not (pt_val (pe_cal c3 (hr.mono (by decide)) (pa_cons (pv 4) (pa_cons pe_int pa_nil))))) (pw_or1 (PW.pt (pw_and (pt_val (pe_mcal0 c1 T.cl (hr.mono (by decide)) (pv 0)))
          (pw_and1 (pt_cmpR op_ge (pv 4) (pe_callB call_len_seq (by rfl) B.len PySem.boot_len (pa_cons (pe_fld (pv 0) rfl) pa_nil)) (nomark _)))))))) (pss_one ps_never) pss_nil)
      (pss_cons (ps_if (pt_val (pe_mcal0 c1 T.cl (hr.mono (by decide)) (pv 0)))
        (pss_cons (ps_if (pt_cmpR op_ge (pe_ix ix_list (pe_fld (pv 0) rfl) (pv 4) (fun _ _ => rfl)) (pe_ix ix_list (pv 1) pe_int (fun _ _ => rfl)) (nomark _)) (pss_one ps_never) pss_nil)
        (pss_one (ps_ret (pe_ix ix_list (pe_fld (pv 0) rfl) (pv 4) (fun _ _ => rfl))))) pss_nil)
      (pss_cons ps_never (pss_one ps_never)))), ?_⟩
    obtain ⟨l, hi, hL⟩ := id hp
    have hil := (List.getElem?_eq_some_iff.mp hg).1
    refine q_drop (ev_call (ea_cons (ev_var rfl) (ea_cons (ev_var rfl) (ea_cons (ev_var rfl) ea_nil))) (sp_reqSplit ha S hb Cc hd sp)) fun H1 e1 => ?_
    refine q_guard (et_or (a := false) (b := false) (et_not (a := true) (et_B (ev_is (ev_call (ea_cons (ev_var rfl) (ea_cons ev_c ea_nil)) (sp_atLeast (i : Int) 0)) (by rw [decide_eq_true (by omega)])))) fun _ =>
      et_and (a := true) (b := false) (et_B (ev_meth (ev_var rfl) (hi.up e1) (by decide +kernel) ea_nil (sp_hasL (hi.up e1) (e1 _ _ hL)))) fun _ => et_test (ev_op (ev_var rfl) (ev_lenI (ev_fld T (ev_var rfl) (hi.up e1)) (e1 _ _ hL)) (rv_bl (decide_eq_false (by omega))))) fun H2 e2 => ?_
    have e2 := e1.trans e2
    refine q_ifT (et_B (ev_meth (ev_var rfl) (hi.up e2) (by decide +kernel) ea_nil (sp_hasL (hi.up e2) (e2 _ _ hL)))) fun H3 e3 => ?_
    have e3 := e2.trans e3
    refine q_guard (et_test (ev_op (ev_ixI (j := i) (ev_fld T (ev_var rfl) (hi.up e3)) (ev_var rfl) (e3 _ _ hL) rfl hg) (ev_ixI (j := 0) (ev_var rfl) ev_c (e3 _ _ ha) rfl rfl) (rv_bl (decide_eq_false (by omega))))) fun H4 e4 => ?_
    have e4 := e3.trans e4
    exact s_ret (ev_ixI (j := i) (ev_fld T (ev_var rfl) (hi.up e4)) (ev_var rfl) (e4 _ _ hL) rfl hg) fun H5 e5 => k H5 (e4.trans e5)
end
end SC

/-! ## ScD3 -/
/-! play. -/
namespace SC
open PySem PySem.Spec PyProof.Rows L2 Evl
abbrev sPlay : Stmt := top 56
theorem wordSpl_even : wordSpl "even" = even := (if_neg (by decide +kernel)).trans (if_pos rfl)
theorem wordSpl_tog : wordSpl "together" = joint := (if_neg (by decide +kernel)).trans (if_neg (by decide +kernel))
theorem SplS.two {C : Addr} {H : Hp} {p : Addr} {rs c : List Int} {st : Strat} (h : SplS C H p rs c st) : (∃ z, InsH C H p (.str z) ∧ st = stF (wordSpl z) rs c) ∨ ∃ l pl, InsH C H p (.ref l) ∧ PlH H l pl ∧ GoodPlan rs c pl ∧ st = stP rs c pl := by
  cases h with
  | bal h => exact .inl ⟨_, h, rfl⟩
  | even h => exact .inl ⟨_, h, by rw [wordSpl_even]⟩
  | tog h => exact .inl ⟨_, h, by rw [wordSpl_tog]⟩
  | plan h hl G => exact .inr ⟨_, _, h, hl, G, rfl⟩
theorem Ok.take {rs ch : List Int} (o : Ok rs ch) (i : Nat) : Ok rs (ch.take i) := by
  refine ⟨by rw [List.length_take]; have := o.1; omega, fun j g e hg he => o.2 j g e ?_ he⟩
  rw [List.getElem?_take] at hg
  split at hg
  · exact hg
  · cases hg
section
variable {K : PySem.W.Frag} {σ : L2.St} {H : Hp} {te tl : TE} {tr : TA} {C a : Addr} {v z : V} {P : V → Hp → Prop} {xs : List V}
theorem evp_methL {m : Str} {sp : Sp} {E : XK} {vs : List V} (h : Ev te σ H (.ref a)) (hi : InsH C H a v) (hm : ¬ m = "strategy") (hl : EvL tl σ H xs) (ha : ∀ H1, Ex H H1 → EvA tr σ H1 vs) (hs : ∀ p H1, Ex H H1 → H1 p = some (.lst xs) → SpP sp (.ref a :: .ref p :: (vs ++ [])) H1 P) : EvP (tMeth C m sp [] E te (tCons tl tr)) σ H P := fun H1 e Q q =>
  h H1 e _ fun H2 e2 => by
    obtain ⟨dx, hi⟩ := hi.up (e.trans e2)
    exact ⟨a, dx, _, rfl, hi, nomem hm, hl H2 (e.trans e2) _ fun p H3 _ e3 hp => ha H3 ((e.trans e2).trans e3) H3 (Ex.refl _) _ fun H4 e4 => hs p H4 (((e.trans e2).trans e3).trans e4) (e4 _ _ hp) H4 (Ex.refl _) Q (fun w H5 e5 hw => q w H5 (((e2.trans e3).trans e4).trans e5) hw) E⟩
theorem ev_methL {m : Str} {sp : Sp} {E : XK} {vs : List V} (h : Ev te σ H (.ref a)) (hi : InsH C H a v) (hm : ¬ m = "strategy") (hl : EvL tl σ H xs) (ha : ∀ H1, Ex H H1 → EvA tr σ H1 vs) (hs : ∀ p H1, Ex H H1 → H1 p = some (.lst xs) → SpV sp (.ref a :: .ref p :: (vs ++ [])) H1 z) : Ev (tMeth C m sp [] E te (tCons tl tr)) σ H z := fun H1 e Q q =>
  h H1 e _ fun H2 e2 => by
    obtain ⟨dx, hi⟩ := hi.up (e.trans e2)
    exact ⟨a, dx, _, rfl, hi, nomem hm, hl H2 (e.trans e2) _ fun p H3 _ e3 hp => ha H3 ((e.trans e2).trans e3) H3 (Ex.refl _) _ fun H4 e4 => hs p H4 (((e.trans e2).trans e3).trans e4) (e4 _ _ hp) H4 (Ex.refl _) Q (fun H5 e5 => q H5 (((e2.trans e3).trans e4).trans e5)) E⟩
end
section
variable {P : Program} {w : World} {K : PySem.W.Frag} {mg : Str → Option Value} {base : Heap} {f : Addr} {fd : FuncData} {C C2 : Addr}
def PlayP (n : Int) (v : V) (H : Hp) : Prop := ∃ (t : Addr) (x y : V), v = .ref t ∧ H t = some (.tup [x, y, .int n])
def spPlay (C C2 : Addr) : Sp := fun vs H Q _ => ∃ (a b s d : Addr) (rs c ch : List Int) (st : Strat), vs = [.ref a, .ref b, .ref s, .ref d] ∧ LI H a rs ∧ Small rs ∧ TuI H b c ∧ Cnt c ∧ SplS C H s rs c st ∧ ChoS C2 H d ch ∧ Ok rs ch ∧ ch.length = rs.length ∧ RetP (PlayP (arr st ch)) H Q
theorem sp_play {H : Hp} {a b s d : Addr} {rs c ch : List Int} {st : Strat} (ha : LI H a rs) (S : Small rs) (hb : TuI H b c) (Cc : Cnt c) (hs : SplS C H s rs c st) (hd : ChoS C2 H d ch) (o : Ok rs ch) (hl : ch.length = rs.length) : SpP (spPlay C C2) [.ref a, .ref b, .ref s, .ref d] H (PlayP (arr st ch)) :=
  fun H1 e Q k E => ⟨a, b, s, d, rs, c, ch, st, rfl, e _ _ ha, S, e _ _ hb, Cc, hs.up e, hd.up e, o, hl, k⟩
theorem scPlay : FnScope ["schedule", "counts", "splitter", "chooser", "moves", "positions", "choices", "arrivals", "index", "split", "group", "arrived", "position"] ["schedule", "counts", "splitter", "chooser"] (defScope sPlay) := ⟨rfl, rfl, rfl, by decide +kernel, rfl, by decide +kernel, by decide +kernel⟩
theorem ok_play (F : Fun K "play" "play" sPlay f fd) (B : Bt mg) (T : ClT K mg "Splitter" C) (T2 : ClT K mg "Chooser" C2) (c1 : Callee P w K mg base "require_schedule" ["schedule"] 3 spReqSched) (c2 : Callee P w K mg base "require_counts" ["counts"] 4 spReqCounts)
    (c3 : Callee P w K mg base "require_small_rounds" ["schedule"] 1 spSmallRounds) (c4 : Callee P w K mg base "split_of" ["schedule", "counts", "plan", "choices"] 6 spSplitOf) (c5 : Callee P w K mg base "climbed" ["group"] 1 spClimbed)
    (m1 : MCal P w K mg base C "has_plan" ["self"] 1 (spHas C)) (m2 : MCal P w K mg base C "fits" ["self", "schedule", "counts"] 6 (spSFits C)) (m3 : MCal P w K mg base C "split_position" ["self", "schedule", "counts"] 6 (spSSplit C))
    (m4 : MCal P w K mg base C2 "fits" ["self", "schedule"] 2 (spCFits C2)) (m5 : MCal P w K mg base C2 "next_choice" ["self", "schedule", "counts", "split", "index"] 6 (spCNext C2)) : FnOk P w K mg base CX0 7 f fd ["schedule", "counts", "splitter", "chooser"] (spPlay C C2) := by
  refine F.ok scPlay (fun vs H Q E h => ?_) (fun cdv A outer s H vs Q E hr h => ?_)
  · obtain ⟨a, b, s, d, rs, c, ch, st, rfl, _⟩ := h
    rfl
  · obtain ⟨a, b, s, d, rs, c, ch, st, rfl, ha, S, hb, Cc, hs, hd, o, hl, k⟩ := h
    refine ⟨_, pss_cons (ps_expr (pe_cal c1 (hr.mono (by decide)) (pa_cons (pv 0) pa_nil))) (pss_cons (ps_expr (pe_cal c2 (hr.mono (by decide)) (pa_cons (pv 1) pa_nil)))
      (pss_cons (ps_if (PW.pt (pw_or (pt_not (pt_val (pe_callB call_isi (by rfl) B.isi (by decide +kernel) (pa_cons (pv 2) (pa_cons (pe_clsn T.mgC) pa_nil))))) (pw_or1 (pt_not (pt_val (pe_mcal m2 T.cl hr (pv 2) (pa_cons (pv 0) (pa_cons (pv 1) pa_nil)))))))) (pss_one ps_never) pss_nil)
      (pss_cons (ps_if (PW.pt (pw_or (pt_not (pt_val (pe_callB call_isi (by rfl) B.isi (by decide +kernel) (pa_cons (pv 3) (pa_cons (pe_clsn T2.mgC) pa_nil))))) (pw_or1 (pt_not (pt_val (pe_mcal m4 T2.cl (hr.mono (by decide)) (pv 3) (pa_cons (pv 0) pa_nil))))))) (pss_one ps_never) pss_nil)
      (pss_cons (ps_expr (pe_cal c3 (hr.mono (by decide)) (pa_cons (pv 0) pa_nil)))
      (pss_cons (ps_asg (pe_tup (pa_cons (pe_lst pa_nil) (pa_cons (pe_lst (pa_cons (pv 1) pa_nil)) (pa_cons (pe_lst pa_nil) (pa_cons pe_int pa_nil))))) (pg_tup rfl (pgs_cons (pg_name (i := 4) scPlay.nd rfl (.inl rfl)) (pgs_cons (pg_name (i := 5) scPlay.nd rfl (.inl rfl)) (pgs_cons (pg_name (i := 6) scPlay.nd rfl (.inl rfl)) (pgs_cons (pg_name (i := 7) scPlay.nd rfl (.inl rfl)) pgs_nil))))))
      (pss_cons (ps_for PassesOwn.never rfl (pi_range1 (by rfl) B.range (pa_cons (pe_callB call_len_seq (by rfl) B.len PySem.boot_len (pa_cons (pv 0) pa_nil)) pa_nil)) (pg_name (i := 8) scPlay.nd rfl (.inl rfl))
        (pss_cut (ps_if (pt_val (pe_mcal0 m1 T.cl (hr.mono (by decide)) (pv 2)))
          (pss_one (ps_set (i := 9) scPlay.nd rfl (.inl rfl) (pe_cal c4 hr (pa_cons (pv 0) (pa_cons (pv 1) (pa_cons (pe_fld (pv 2) rfl) (pa_cons (pv 6) pa_nil)))))))
          (pss_one (ps_set (i := 9) scPlay.nd rfl (.inl rfl) (pe_mcal m3 T.cl hr (pv 2) (pa_cons (pe_slice sl_list (pv 0) (po_some (pv 8)) po_none) (pa_cons (pe_ix ix_list (pv 5) (pe_un un_neg pe_int) (fun _ _ => rfl)) pa_nil))))))
        (pss_cons (ps_set (i := 10) scPlay.nd rfl (.inl rfl) (pe_mcal m5 T2.cl hr (pv 3) (pa_cons (pe_slice sl_list (pv 0) (po_some (pv 8)) po_none) (pa_cons (pe_ix ix_list (pv 5) (pe_un un_neg pe_int) (fun _ _ => rfl)) (pa_cons (pv 9) (pa_cons (pv 8) pa_nil))))))
        (pss_cons (ps_asg (pe_cal c5 (hr.mono (by decide)) (pa_cons (pe_ix ix_list (pv 9) (pv 10) (fun _ _ => rfl)) pa_nil)) (pg_tup rfl (pgs_cons (pg_name (i := 11) scPlay.nd rfl (.inl rfl)) (pgs_cons (pg_name (i := 12) scPlay.nd rfl (.inl rfl)) pgs_nil))))
        (pss_cons (ps_expr (pe_bm PySem.F.plainAttrs_list PySem.F.slot_list_append PySem.F.type_list_append mt_append (pv 6) (pa_cons (pv 10) pa_nil)))
        (pss_cons (ps_expr (pe_bm PySem.F.plainAttrs_list PySem.F.slot_list_append PySem.F.type_list_append mt_append (pv 4) (pa_cons (pe_tup (pa_cons (pv 9) (pa_cons (pv 10) pa_nil))) pa_nil)))
        (pss_cons (ps_expr (pe_bm PySem.F.plainAttrs_list PySem.F.slot_list_append PySem.F.type_list_append mt_append (pv 5) (pa_cons (pv 12) pa_nil)))
        (pss_one (ps_aug (i := 7) scPlay.nd rfl (.inl rfl) (pv 11) ip_add)))))))))
      (pss_one (ps_ret (pe_tup (pa_cons (pv 4) (pa_cons (pv 5) (pa_cons (pv 7) pa_nil)))))))))))), ?_⟩
    have hsl := S.len
    have hcl := Cc.len
    have hv := hs.valid S.two Cc.pos
    refine q_drop (ev_call (ea_cons (ev_var rfl) ea_nil) (sp_reqSched ha S.toSched)) fun H1 e1 => ?_
    refine q_drop (ev_call (ea_cons (ev_var rfl) ea_nil) (sp_reqCounts (e1 _ _ hb) Cc)) fun H2 e2 => ?_
    have e2 := e1.trans e2
    obtain ⟨vs, hsi⟩ : ∃ v, InsH C H s v := by
      rcases hs.two with ⟨z, h, _⟩ | ⟨l, pl, h, _⟩
      · exact ⟨_, h⟩
      · exact ⟨_, h⟩
    obtain ⟨ld, hdi, hdl⟩ := id hd
    refine q_guard (et_or (a := false) (b := false) (et_not (a := true) (et_B (ev_cb (ea_cons (ev_var rfl) (ea_cons ev_c ea_nil)) (rc_isiO T (hsi.up e2))))) fun _ => et_not (a := true) (et_B (ev_meth (ev_var rfl) (hsi.up e2) (by decide +kernel) (ea_cons (ev_var rfl) (ea_cons (ev_var rfl) ea_nil)) (sp_SFits (hs.up e2) (e2 _ _ ha) S.toSched (e2 _ _ hb) Cc)))) fun H3 e3 => ?_
    have e3 := e2.trans e3
    refine q_guard (et_or (a := false) (b := false) (et_not (a := true) (et_B (ev_cb (ea_cons (ev_var rfl) (ea_cons ev_c ea_nil)) (rc_isiO T2 (hdi.up e3))))) fun _ => et_not (a := true) (et_B (ev_meth (ev_var rfl) (hdi.up e3) (by decide +kernel) (ea_cons (ev_var rfl) ea_nil) (sp_CFits (hd.up e3) (e3 _ _ ha) S.toSched o hl)))) fun H4 e4 => ?_
    have e4 := e3.trans e4
    refine q_drop (ev_call (ea_cons (ev_var rfl) ea_nil) (sp_smallRounds (e4 _ _ ha) S.toSched)) fun H5 e5 => ?_
    have e5 := e4.trans e5
    refine ⟨Nat.zero_le _, fun m hm => ⟨.ref b, rfl, show 1 ≤ sizeLine by decide, fun p hp => ⟨Nat.zero_le _, fun q hq => ⟨show 4 ≤ sizeLine by decide, fun t ht => ?_⟩⟩⟩⟩
    refine ⟨t, [.ref m, .ref p, .ref q, .int 0], rfl, .of upd_same, rfl, _, _, rfl, _, _, rfl, _, _, rfl, _, _, rfl, rfl, ?_⟩
    have x1 : Ex H5 (upd H5 m (.lst [])) := Ex.new hm
    have x2 := x1.trans (Ex.new (o := HO.lst [.ref b]) hp)
    have x3 := x2.trans (Ex.new (o := HO.lst []) hq)
    have x4 := x3.trans (Ex.new (o := HO.tup [.ref m, .ref p, .ref q, .int 0]) ht)
    have hp5 := fresh_back x1 hp
    have hq5 := fresh_back x2 hq
    have ht5 := fresh_back x3 ht
    have npm : p ≠ m := fun z => by rw [z, upd_same] at hp; cases hp
    have nqp : q ≠ p := fun z => by rw [z, upd_same] at hq; cases hq
    have nqm : q ≠ m := fun z => by rw [z, upd_ne npm.symm, upd_same] at hq; cases hq
    have ntq : t ≠ q := fun z => by rw [z, upd_same] at ht; cases ht
    have ntp : t ≠ p := fun z => by rw [z, upd_ne nqp.symm, upd_same] at ht; cases ht
    have ntm : t ≠ m := fun z => by rw [z, upd_ne nqm.symm, upd_ne npm.symm, upd_same] at ht; cases ht
    have gm : (upd (upd (upd (upd H5 m (.lst [])) p (.lst [.ref b])) q (.lst [])) t (.tup [.ref m, .ref p, .ref q, .int 0])) m = some (.lst []) := by rw [upd_ne ntm.symm, upd_ne nqm.symm, upd_ne npm.symm, upd_same]
    have gp : (upd (upd (upd (upd H5 m (.lst [])) p (.lst [.ref b])) q (.lst [])) t (.tup [.ref m, .ref p, .ref q, .int 0])) p = some (.lst [.ref b]) := by rw [upd_ne ntp.symm, upd_ne nqp.symm, upd_same]
    have gq : (upd (upd (upd (upd H5 m (.lst [])) p (.lst [.ref b])) q (.lst [])) t (.tup [.ref m, .ref p, .ref q, .int 0])) q = some (.lst []) := by rw [upd_ne ntq.symm, upd_same]
    generalize upd (upd (upd (upd H5 m (.lst [])) p (.lst [.ref b])) q (.lst [])) t (.tup [.ref m, .ref p, .ref q, .int 0]) = H6 at *
    have ha5 := e5 _ _ ha
    have hb5 := e5 _ _ hb
    have hs5 := hs.up e5
    have hd5 := hd.up e5
    clear ht hq hp x1 x2 x3
    refine q_forR1 (n := (rs.length : Int)) (ea_cons (ev_lenI (ev_var rfl) (x4 _ _ ha5)) ea_nil) ⟨by omega, by omega⟩
      (fun i σ' H' => (∃ x8 x9 x10 x11 x12 : Option V, σ' = [some (.ref a), some (.ref b), some (.ref s), some (.ref d), some (.ref m), some (.ref p), some (.ref q), some (.int (arr st (ch.take i))), x8, x9, x10, x11, x12]) ∧ Ex H5 H' ∧
        (∃ xs, H' m = some (.lst xs) ∧ xs.length = i) ∧ (∃ xs t, H' p = some (.lst (xs ++ [.ref t])) ∧ xs.length = i ∧ TuI H' t (pos st c (ch.take i))) ∧ LI H' q (ch.take i))
      (fun H7 e7 => ⟨⟨none, none, none, none, none, rfl⟩, x4.trans e7, ⟨[], e7 _ _ gm, rfl⟩, ⟨[], b, e7 _ _ gp, rfl, e7 _ _ (x4 _ _ hb5)⟩, e7 _ _ gq⟩) (fun i σ' H' hi h => ?_) (fun σ' H' h => ?_)
    · obtain ⟨⟨x8, x9, x10, x11, x12, rfl⟩, eH, ⟨ms, hm', hml⟩, ⟨pl, pt, hp', hpl, hpt⟩, hq'⟩ := h
      have hi : i < rs.length := by omega
      have hti : (ch.take i).length = i := by rw [List.length_take]; omega
      have oi := Ok.take o i
      have hri : rs[i]? = some rs[i] := List.getElem?_eq_getElem hi
      have hci : ch[i]? = some ch[i] := List.getElem?_eq_getElem (by omega)
      have hdrop : rs.drop i = rs[i] :: rs.drop (i + 1) := List.drop_eq_getElem_cons hi
      generalize rs[i] = e at *
      generalize hge : ch[i]'(by omega) = g at *
      obtain ⟨hg0, hg1⟩ := o.2 i g e hci hri
      have Srest : Small (e :: rs.drop (i + 1)) := by rw [← hdrop]; exact S.rest i
      have sp := hv (ch.take i) e oi (by rw [hti]; exact hri)
      obtain ⟨hpo1, hpo2⟩ := pos_ok Cc.pos hv i (ch.take i) hti oi
      have Cp : Cnt (pos st c (ch.take i)) := ⟨hpo2, by rw [hpo1]; exact hcl⟩
      have hsl : ∀ {σ : L2.St} {H : Hp}, Ex H5 H → σ[0]? = some (some (.ref a)) → σ[8]? = some (some (.int (i : Int))) → EvL (tSl (rSlL K) (tVar 0) (tPart (tVar 8)) tNoPart) σ H ((e :: rs.drop (i + 1)).map V.int) := fun e h0 h8 => by
        rw [← hdrop]
        exact el_slI (n := i) (ev_var h0) (e _ _ ha5) (ev_var h8)
      have hlast : ∀ {σ : L2.St} {H : Hp}, Ex H' H → σ[5]? = some (some (.ref p)) → Ev (tOp (rIxL K) (tVar 5) (tUn (rU fun i => .int (-i)) (tC (.int 1)))) σ H (.ref pt) := fun e h => ev_op (ev_var h) (ev_un ev_c ru_neg) (rv_ixL (.of (e _ _ hp')) (atI_last _ _))
      refine q_cut (M := fun σ2 H2 => (∃ d9 : Addr, σ2 = [some (.ref a), some (.ref b), some (.ref s), some (.ref d), some (.ref m), some (.ref p), some (.ref q), some (.int (arr st (ch.take i))), some (.int (i : Int)), some (.ref d9), x10, x11, x12] ∧ SplH H2 d9 (st (ch.take i))) ∧ Ex H' H2) ?_ ?_
      · rcases (hs5.up eH).two with ⟨z, h, rfl⟩ | ⟨l, pln, h, hPl, G, rfl⟩
        · refine s_ifF (et_B (ev_meth (ev_var rfl) h (by decide +kernel) ea_nil (sp_hasS h))) fun H7 e7 => ?_
          refine s_asgP (evp_methL (ev_var rfl) (h.up e7) (by decide +kernel) (hsl (eH.trans e7) rfl rfl) (fun H8 e8 => ea_cons (hlast (e7.trans e8) rfl) ea_nil) fun w' H8 e8 hw => sp_SSplit (h.up (e7.trans e8)) hw Srest ((e7.trans e8) _ _ hpt) Cp) fun v H8 e8 hv' => ?_
          obtain ⟨d9, rfl, hd9⟩ := hv'
          refine ⟨⟨d9, rfl, ?_⟩, e7.trans e8⟩
          rw [pos_stF, ← hdrop] at hd9
          unfold stF
          rw [hti]
          exact hd9
        · obtain ⟨ads, h1, h2, h3⟩ := id hPl
          refine s_ifT (et_B (ev_meth (ev_var rfl) h (by decide +kernel) ea_nil (sp_hasL h h1))) fun H7 e7 => ?_
          refine s_asgP (evp_call (ea_cons (ev_var rfl) (ea_cons (ev_var rfl) (ea_cons (ev_fld T (ev_var rfl) (h.up e7)) (ea_cons (ev_var rfl) ea_nil)))) (sp_splitOf ((eH.trans e7) _ _ ha5) S ((eH.trans e7) _ _ hb5) Cc (hPl.up e7) G (e7 _ _ hq') oi (by omega))) fun v H8 e8 hv' => ?_
          obtain ⟨d9, rfl, hd9⟩ := hv'
          exact ⟨⟨d9, rfl, hd9⟩, e7.trans e8⟩
      · rintro σ2 H7 ⟨⟨d9, rfl, hd9⟩, e7⟩
        have eH7 := eH.trans e7
        refine q_asg (ev_methL (ev_var rfl) (hdi.up (e5.trans eH7)) (by decide +kernel) (hsl eH7 rfl rfl) (fun H8 e8 => ea_cons (hlast (e7.trans e8) rfl) (ea_cons (ev_var rfl) (ea_cons (ev_var rfl) ea_nil))) fun w' H8 e8 hw => sp_CNext (hd5.up (eH7.trans e8)) hw Srest.toSched ((e7.trans e8) _ _ hpt) Cp (hd9.up e8) sp hci hg1) fun H8 e8 => ?_
        obtain ⟨ads, h1, h2, h3⟩ := hd9.up e8
        have hlen := sp.len
        have hgi : g.toNat < ads.length := by omega
        have ha0 : ads[g.toNat]? = some ads[g.toNat] := List.getElem?_eq_getElem hgi
        generalize ads[g.toNat] = r' at *
        have hgr : (st (ch.take i))[g.toNat]? = some (grp st (ch.take i) g) := by
          unfold grp
          rw [List.getD_eq_getElem?_getD, List.getElem?_eq_getElem (by omega)]
          rfl
        have hT := h3 _ _ _ ha0 hgr
        obtain ⟨hg3, hg4⟩ := sp.row _ (List.mem_of_getElem? hgr)
        refine q_unp2P (evp_call (ea_cons (ev_op (ev_var rfl) (ev_var rfl) (rv_ixL (.of h1) (at_of (j := g.toNat) (by omega) (by rw [List.getElem?_map, ha0]; rfl)))) ea_nil) (sp_climbed hT ⟨hg4, by rw [hg3, hpo1]; exact hcl⟩)) fun v H9 e9 hv9 => ?_
        obtain ⟨pp', t', rfl, hpp, ht'⟩ := hv9
        refine ⟨pp', _, _, rfl, hpp, ?_⟩
        have e9' := (e7.trans e8).trans e9
        have eH9 := eH.trans e9'
        have htk : ch.take (i + 1) = ch.take i ++ [g] := by rw [List.take_add_one, hci]; rfl
        have npt' : ∀ {H : Hp} {x : Addr} {xs : List V}, TuI H t' (shift (grp st (ch.take i) g)) → H x = some (.lst xs) → t' ≠ x := fun h1 h2 z => by
          subst z
          have h3 := Eq.trans (Eq.symm h1) h2
          cases h3
        refine q_app (v := .int g) (e9' _ _ hq') (ev_var rfl) (ev_var rfl) (by rw [List.length_map]; omega) fun H10 e10 => ?_
        have am : (upd H10 q (.lst ((ch.take i).map V.int ++ [.int g]))) m = some (.lst ms) := by rw [upd_ne nqm.symm]; exact e10 _ _ (e9' _ _ hm')
        have ap : (upd H10 q (.lst ((ch.take i).map V.int ++ [.int g]))) p = some (.lst (pl ++ [.ref pt])) := by rw [upd_ne nqp.symm]; exact e10 _ _ (e9' _ _ hp')
        have at' : TuI (upd H10 q (.lst ((ch.take i).map V.int ++ [.int g]))) t' (shift (grp st (ch.take i) g)) := by
          rw [TuI, upd_ne (npt' (e10 _ _ ht') (e10 _ _ (e9' _ _ hq')))]
          exact e10 _ _ ht'
        have aq : LI (upd H10 q (.lst ((ch.take i).map V.int ++ [.int g]))) q (ch.take (i + 1)) := by rw [LI, upd_same, htk, List.map_append]; rfl
        have aE : Ex H5 (upd H10 q (.lst ((ch.take i).map V.int ++ [.int g]))) := Ex.mut (eH9.trans e10) hq5
        generalize upd H10 q (.lst ((ch.take i).map V.int ++ [.int g])) = Ha at *
        refine q_appU am (ev_var rfl) (eu_tup (ea_cons (ev_var rfl) (ea_cons (ev_var rfl) ea_nil)) (by simp)) (by omega) fun u H11 _ e11 _ => ?_
        have bm : (upd H11 m (.lst (ms ++ [.ref u]))) m = some (.lst (ms ++ [.ref u])) := upd_same
        have bp : (upd H11 m (.lst (ms ++ [.ref u]))) p = some (.lst (pl ++ [.ref pt])) := by rw [upd_ne npm]; exact e11 _ _ ap
        have bt : TuI (upd H11 m (.lst (ms ++ [.ref u]))) t' (shift (grp st (ch.take i) g)) := by
          rw [TuI, upd_ne (npt' (e11 _ _ at') (e11 _ _ am))]
          exact e11 _ _ at'
        have bq : LI (upd H11 m (.lst (ms ++ [.ref u]))) q (ch.take (i + 1)) := by rw [LI, upd_ne nqm]; exact e11 _ _ aq
        have bE : Ex H5 (upd H11 m (.lst (ms ++ [.ref u]))) := Ex.mut (aE.trans e11) hm
        generalize upd H11 m (.lst (ms ++ [.ref u])) = Hb at *
        refine q_app (v := .ref t') bp (ev_var rfl) (ev_var rfl) (by simp; omega) fun H12 e12 => ?_
        refine s_aug (a := arr st (ch.take i)) (b := hd0 (grp st (ch.take i) g)) rfl (ev_var rfl) fun H13 e13 => ⟨⟨some (.int (i : Int)), some (.ref d9), some (.int g), some (.int (hd0 (grp st (ch.take i) g))), some (.ref t'), ?_⟩, (Ex.mut (bE.trans e12) hp5).trans e13, ⟨ms ++ [.ref u], ?_, by simp [hml]⟩, ⟨pl ++ [.ref pt], t', ?_, by simp [hpl], ?_⟩, ?_⟩
        · rw [htk, arr_snoc]
          rfl
        · refine e13 _ _ ?_
          rw [upd_ne npm.symm]
          exact e12 _ _ bm
        · exact e13 _ _ upd_same
        · refine e13 _ _ ?_
          rw [upd_ne (npt' (e12 _ _ bt) (e12 _ _ bp)), htk, pos_snoc]
          exact e12 _ _ bt
        · refine e13 _ _ ?_
          rw [upd_ne nqp]
          exact e12 _ _ bq
    · obtain ⟨⟨x8, x9, x10, x11, x12, rfl⟩, eH, _⟩ := h
      refine s_retU (eu_tup (ea_cons (ev_var rfl) (ea_cons (ev_var rfl) (ea_cons (ev_var rfl) ea_nil))) (by simp)) fun t H7 _ e7 ht7 => k _ _ ((e5.trans eH).trans e7) ⟨t, .ref m, .ref p, rfl, ?_⟩
      rw [ht7]
      simp only [Int.toNat_natCast]
      rw [← hl, List.take_length]
end
end SC

/-! ## ScE1 -/
/-! The law's defs that draw. -/
namespace SC
open PySem PySem.Spec PyProof.Rows L2 Evl
abbrev lCellAt : Stmt := top 58
abbrev lSource : Stmt := top 59
abbrev lTake : Stmt := top 60
abbrev lPick : Stmt := top 61
abbrev lShuffled : Stmt := top 62
/-! ### what stands beside the source -/
def ExS (a : Addr) (H H' : Hp) : Prop := ∀ b o, b ≠ a → H b = some o → H' b = some o
theorem ExS.refl {a : Addr} (H : Hp) : ExS a H H := fun _ _ _ h => h
theorem ExS.trans {a : Addr} {H H' H2 : Hp} (e : ExS a H H') (e' : ExS a H' H2) : ExS a H H2 := fun b o n h => e' b o n (e b o n h)
theorem exS {a : Addr} {H H' : Hp} (e : Ex H H') : ExS a H H' := fun b o _ h => e b o h
theorem ExS.mut {a p : Addr} {o : HO} {H H' : Hp} (e : ExS a H H') (hp : H p = none) : ExS a H (upd H' p o) := fun b o n h => by
  rw [upd_ne (ne_of_none h hp)]
  exact e b o n h
theorem ExS.set {a : Addr} {o : HO} {H H' : Hp} (e : ExS a H H') : ExS a H (upd H' a o) := fun b o n h => by
  rw [upd_ne n]
  exact e b o n h
/-- three whole numbers to draw from -/
def SrcH (a : Addr) (H : Hp) : Prop := ∃ x y z : Int, LI H a [x, y, z]
theorem SrcH.up {a : Addr} {H H' : Hp} (s : SrcH a H) (e : Ex H H') : SrcH a H' := let ⟨x, y, z, h⟩ := s; ⟨x, y, z, e _ _ h⟩
theorem SrcH.other {a p : Addr} {o : HO} {H : Hp} (s : SrcH a H) (n : p ≠ a) : SrcH a (upd H p o) := let ⟨x, y, z, h⟩ := s; ⟨x, y, z, by rw [LI, upd_ne n.symm]; exact h⟩
def EvM (a : Addr) (te : TE) (σ : L2.St) (H : Hp) (P : V → Hp → Prop) : Prop := ∀ H1, ExS a H H1 → SrcH a H1 → ∀ Q : VK, (∀ v H2, ExS a H1 H2 → SrcH a H2 → P v H2 → Q v H2) → te σ H1 Q
def SpM (a : Addr) (sp : Sp) (vs : List V) (H : Hp) (P : V → Hp → Prop) : Prop := ∀ H1, ExS a H H1 → SrcH a H1 → ∀ Q : VK, (∀ v H2, ExS a H1 H2 → SrcH a H2 → P v H2 → Q v H2) → ∀ E : XK, sp vs H1 Q E
def RetM (a : Addr) (P : V → Hp → Prop) (H : Hp) (Q : VK) : Prop := ∀ v H2, ExS a H H2 → SrcH a H2 → P v H2 → Q v H2
/-- a list just made, apart from the source -/
def NewL (a : Addr) (H : Hp) (Pr : List V → Hp → Prop) (v : V) (H2 : Hp) : Prop := ∃ (p : Addr) (xs : List V), v = .ref p ∧ H p = none ∧ p ≠ a ∧ H2 p = some (.lst xs) ∧ Pr xs H2
theorem fresh_backS {a p : Addr} {H H' : Hp} (e : ExS a H H') (hp : H' p = none) (n : p ≠ a) : H p = none := by
  cases h : H p with
  | none => rfl
  | some o => rw [e p o n h] at hp; cases hp
section
variable {K : PySem.W.Frag} {σ : L2.St} {H : Hp} {te ta tb : TE} {D : Ends} {tz : TS} {a b : Addr} {x : V} {P P1 P2 : V → Hp → Prop} {xs : List V}
theorem evm_p (h : ∀ H1, ExS a H H1 → SrcH a H1 → EvP te σ H1 P) : EvM a te σ H P := fun H1 e s Q q => h H1 e s H1 (Ex.refl _) Q fun v H2 e2 hv => q v H2 (exS e2) (s.up e2) hv
theorem evm_call {sp : Sp} {E : XK} {t : TA} {vs : List V} (h : ∀ H1, ExS a H H1 → SrcH a H1 → EvA t σ H1 vs) (hs : SpM a sp (vs ++ []) H P) : EvM a (tCall sp [] E t) σ H P := fun H1 e s Q q =>
  h H1 e s H1 (Ex.refl _) _ fun H2 e2 => hs H2 (e.trans (exS e2)) (s.up e2) Q (fun v H3 e3 s3 hv => q v H3 ((exS e2).trans e3) s3 hv) E
theorem evm_w (h : EvM a te σ H P1) (hp : ∀ v H2, ExS a H H2 → P1 v H2 → P v H2) : EvM a te σ H P := fun H1 e s Q q => h H1 e s Q fun v H2 e2 s2 hv => q v H2 e2 s2 (hp v H2 (e.trans e2) hv)
theorem evm_up {H' : Hp} (h : EvM a te σ H P) (e : ExS a H H') : EvM a te σ H' P := fun H1 e1 s Q q => h H1 (e.trans e1) s Q q
/-- an operation: the first operand stands, the second draws -/
theorem evm_op2 {r : R2} (h : ∀ H1, ExS a H H1 → SrcH a H1 → Ev ta σ H1 x) (hb : EvM a tb σ H P2) (hr : ∀ w H1, ExS a H H1 → SrcH a H1 → P2 w H1 → ∀ Q : VK, (∀ v H2, ExS a H1 H2 → SrcH a H2 → P v H2 → Q v H2) → r x w H1 Q) : EvM a (tOp r ta tb) σ H P := fun H1 e s Q q =>
  h H1 e s H1 (Ex.refl _) _ fun H2 e2 => hb H2 (e.trans (exS e2)) (s.up e2) _ fun w H3 e3 s3 hw => hr w H3 ((e.trans (exS e2)).trans e3) s3 hw Q fun v H4 e4 s4 hv => q v H4 (((exS e2).trans e3).trans e4) s4 hv
theorem s_asgM {i : Nat} (h : EvM a te σ H P) (s : SrcH a H) (k : ∀ v H1, ExS a H H1 → SrcH a H1 → P v H1 → D.nx (σ.set i (some v)) H1) : tAsg te (gName i) D σ H := h H (.refl _) s _ k
theorem q_asgM {i : Nat} (h : EvM a te σ H P) (s : SrcH a H) (k : ∀ v H1, ExS a H H1 → SrcH a H1 → P v H1 → tz D (σ.set i (some v)) H1) : tSeq (tAsg te (gName i)) tz D σ H := h H (.refl _) s _ k
theorem s_retM (h : EvM a te σ H P) (s : SrcH a H) (k : ∀ v H1, ExS a H H1 → SrcH a H1 → P v H1 → D.rt v H1) : tRet te D σ H := h H (.refl _) s _ k
end
section
variable {P : Program} {w : World} {K : PySem.W.Frag} {mg : Str → Option Value} {base : Heap} {f : Addr} {fd : FuncData}
/-! ### _law_cell_at, _law_source -/
def spCellAt (K : PySem.W.Frag) : Sp := fun vs H Q _ => ∃ (a : Addr) (ns : List Int) (k : Nat), vs = [.ref a, .int (k : Int)] ∧ SqL K H a (ns.map V.int) ∧ RetV (.int (ns.getD k 0)) H Q
theorem sp_cellAt {H : Hp} {a : Addr} {ns : List Int} (k : Nat) (h : SqL K H a (ns.map V.int)) : SpV (spCellAt K) [.ref a, .int (k : Int)] H (.int (ns.getD k 0)) := fun H1 e Q q E => ⟨a, ns, k, rfl, ex_l e h, q⟩
theorem slCellAt : FnScope ["_law_script", "_law_k"] ["_law_script", "_law_k"] (defScope lCellAt) := ⟨rfl, rfl, rfl, by decide +kernel, rfl, by decide +kernel, by decide +kernel⟩
theorem ok_cellAt (F : Fun K "_law_cell_at" "_law_cell_at" lCellAt f fd) (B : Bt mg) : FnOk P w K mg base CX0 1 f fd ["_law_script", "_law_k"] (spCellAt K) := by
  refine F.ok slCellAt (fun vs H Q E h => ?_) (fun cdv A outer s H vs Q E hr h => ?_)
  · obtain ⟨a, ns, k, rfl, _⟩ := h
    rfl
  · obtain ⟨a, ns, j, rfl, ha, k⟩ := h
    refine ⟨_, pss_cons (ps_if (pt_cmpR op_lt (pv 1) (pe_callB call_len_seq (by rfl) B.len PySem.boot_len (pa_cons (pv 0) pa_nil)) (nomark _)) (pss_one (ps_ret (pe_ix ix_list (pv 0) (pv 1) (fun _ _ => rfl)))) pss_nil) (pss_one (ps_ret pe_int)), ?_⟩
    refine q_when (b := decide ((j : Int) < ((ns.map V.int).length : Int))) (et_test (ev_op (ev_var rfl) (ev_len (ev_var rfl) ha) rv_I0)) (fun hb H1 e1 => ?_) (fun hb H1 e1 => ?_)
    · have hj : j < ns.length := by have := of_decide_eq_true hb; rw [List.length_map] at this; omega
      exact s_ret (ev_op (ev_var rfl) (ev_var rfl) (rv_ixL (ex_l e1 ha) (at_of (j := j) rfl (int_at hj)))) fun H2 e2 => k H2 (e1.trans e2)
    · have hj : ns.length ≤ j := by have := of_decide_eq_false hb; rw [List.length_map] at this; omega
      rw [List.getD_eq_getElem?_getD, List.getElem?_eq_none hj] at k
      exact s_ret ev_c fun H2 e2 => k H2 (e1.trans e2)
def spSource : Sp := fun vs H Q _ => ∃ c : Int, vs = [.int c] ∧ ∀ (p : Addr) (H2 : Hp), H p = none → Ex H H2 → SrcH p H2 → Q (.ref p) H2
theorem slSource : FnScope ["_law_cell"] ["_law_cell"] (defScope lSource) := ⟨rfl, rfl, rfl, by decide +kernel, rfl, by decide +kernel, by decide +kernel⟩
theorem ok_source (F : Fun K "_law_source" "_law_source" lSource f fd) (B : Bt mg) : FnOk P w K mg base CX0 1 f fd ["_law_cell"] spSource := by
  refine F.ok slSource (fun vs H Q E h => ?_) (fun cdv A outer s H vs Q E hr h => ?_)
  · obtain ⟨c, rfl, _⟩ := h
    rfl
  · obtain ⟨c, rfl, k⟩ := h
    refine ⟨_, pss_one (ps_ret (pe_lst (pa_cons (pe_op op_mul (pv 0) (pe_callTy call_int1 (by rfl) B.int (by decide +kernel) (pa_cons (pe_cmpR op_ge (pv 0) (pe_op op_pow pe_int pe_int) (nomark _)) pa_nil))) (pa_cons (pe_op op_mod (pv 0) pe_int) (pa_cons pe_int pa_nil))))), ?_⟩
    refine s_retL (xs := [.int (c * (if decide ((10 : Int) ^ (18 : Int).toNat ≤ c) then 1 else 0)), .int (c % 2147483543), .int 0]) (el_lst (ea_cons (ev_op (ev_var rfl) (ev_cb (ea_cons (ev_op (ev_var rfl) (ev_op ev_c ev_c (rv_I ⟨by decide, by decide, by decide⟩)) (rv_bl rfl)) ea_nil) rc_int) (rv_I (.inr ?_))) (ea_cons (ev_mod (ev_var rfl) ev_c (by decide)) (ea_cons ev_c ea_nil))) (by simp)) fun p H1 hp e1 h1 => k p H1 hp e1 ⟨_, _, _, h1⟩
    split <;> decide
/-! ### _law_take -/
def TakeP (n : Int) (v : V) (_ : Hp) : Prop := ∃ r : Int, v = .int r ∧ 0 ≤ r ∧ r < n
def spTake : Sp := fun vs H Q _ => ∃ (a : Addr) (n : Int), vs = [.ref a, .int n] ∧ SrcH a H ∧ 0 < n ∧ n < 1000000 ∧ RetM a (TakeP n) H Q
theorem sp_take {a : Addr} {H : Hp} {n : Int} (h0 : 0 < n) (h1 : n < 1000000) : SpM a spTake [.ref a, .int n] H (TakeP n) := fun H1 e s Q q E => ⟨a, n, rfl, s, h0, h1, q⟩
theorem slTake : FnScope ["_law_source_here", "_law_bound", "_law_digit", "_law_mixed"] ["_law_source_here", "_law_bound"] (defScope lTake) := ⟨rfl, rfl, rfl, by decide +kernel, rfl, by decide +kernel, by decide +kernel⟩
theorem ok_lTake (F : Fun K "_law_take" "_law_take" lTake f fd) : FnOk P w K mg base CX0 1 f fd ["_law_source_here", "_law_bound"] spTake := by
  refine F.ok slTake (fun vs H Q E h => ?_) (fun cdv A outer s H vs Q E hr h => ?_)
  · obtain ⟨a, n, rfl, _⟩ := h
    rfl
  · obtain ⟨a, n, rfl, ⟨x, y, z, ha⟩, h0, h1, k⟩ := h
    refine ⟨_, pss_cons (ps_if (pt_cmpR op_gt (pe_ix ix_list (pv 0) pe_int (fun _ _ => rfl)) pe_int (nomark _))
        (pss_cons (ps_set (i := 2) slTake.nd rfl (.inl rfl) (pe_op op_mod (pe_ix ix_list (pv 0) pe_int (fun _ _ => rfl)) (pv 1)))
        (pss_cons (ps_asg (pe_op op_fdiv (pe_ix ix_list (pv 0) pe_int (fun _ _ => rfl)) (pv 1)) (pg_sub (pv 0) pe_int set_list))
        (pss_one (ps_ret (pv 2))))) pss_nil)
      (pss_cons (ps_asg (pe_op op_add (pe_ix ix_list (pv 0) pe_int (fun _ _ => rfl)) pe_int) (pg_sub (pv 0) pe_int set_list))
      (pss_cons (ps_set (i := 3) slTake.nd rfl (.inl rfl) (pe_op op_mod (pe_op op_mul (pe_op op_add (pe_op op_add (pe_ix ix_list (pv 0) pe_int (fun _ _ => rfl)) (pe_op op_mul pe_int (pe_ix ix_list (pv 0) pe_int (fun _ _ => rfl)))) pe_int) pe_int) pe_int))
      (pss_cons (ps_set (i := 3) slTake.nd rfl (.inl rfl) (pe_op op_mod (pe_op op_mul (pv 3) (pe_op op_add (pe_op op_fdiv (pv 3) pe_int) pe_int)) pe_int))
      (pss_one (ps_ret (pe_op op_mod (pe_op op_fdiv (pe_op op_mod (pe_op op_mul (pv 3) (pe_op op_add (pe_op op_fdiv (pv 3) pe_int) pe_int)) pe_int) pe_int) (pv 1))))))), ?_⟩
    refine q_when (b := decide (0 < x)) (et_test (ev_op (ev_ixI (j := 0) (ev_var rfl) ev_c ha rfl rfl) ev_c rv_I0)) (fun hb H1 e1 => ?_) (fun hb H1 e1 => ?_)
    · refine q_asg (ev_mod (ev_ixI (j := 0) (ev_var rfl) ev_c (e1 _ _ ha) rfl rfl) (ev_var rfl) h0) fun H2 e2 => ?_
      have e2 := e1.trans e2
      refine q_setL (v := .int (x / n)) (j := 0) (e2 _ _ ha) (ev_div (ev_ixI (j := 0) (ev_var rfl) ev_c (e2 _ _ ha) rfl rfl) (ev_var rfl) h0 (by omega)) (ev_var rfl) ev_c (by simp) fun H3 e3 => ?_
      exact s_ret (ev_var rfl) fun H4 e4 => k _ _ (((exS (e2.trans e3)).set).trans (exS e4)) (SrcH.up ⟨x / n, y, z, upd_same⟩ e4) ⟨_, rfl, Int.emod_nonneg _ (by omega), Int.emod_lt_of_pos _ h0⟩
    · refine q_setL (v := .int (z + 1)) (j := 2) (e1 _ _ ha) (ev_add (ev_ixI (j := 2) (ev_var rfl) ev_c (e1 _ _ ha) rfl rfl) ev_c) (ev_var rfl) ev_c (by simp) fun H2 e2 => ?_
      have hS : LI (upd H2 a (.lst ([V.int x, .int y, .int z].set 2 (.int (z + 1))))) a [x, y, z + 1] := upd_same
      have eS : ExS a H (upd H2 a (.lst ([V.int x, .int y, .int z].set 2 (.int (z + 1))))) := (exS (e1.trans e2)).set
      show tSeq _ _ _ _ (upd H2 a (.lst ([V.int x, .int y, .int z].set 2 (.int (z + 1)))))
      generalize upd H2 a (.lst ([V.int x, .int y, .int z].set 2 (.int (z + 1)))) = H3 at *
      refine q_asg (v := .int ((y + 32452843 * (z + 1) + 1) * 48271 % 2147483647)) (ev_mod (ev_mulR (ev_add (ev_add (ev_ixI (j := 1) (ev_var rfl) ev_c hS rfl rfl) (ev_op ev_c (ev_ixI (j := 2) (ev_var rfl) ev_c hS rfl rfl) (rv_I (.inl ⟨by decide, by decide⟩)))) ev_c) ev_c (by decide) (by decide)) ev_c (by decide)) fun H4 e4 => ?_
      have m0 : 0 ≤ (y + 32452843 * (z + 1) + 1) * 48271 % 2147483647 := Int.emod_nonneg _ (by decide)
      have m1 : (y + 32452843 * (z + 1) + 1) * 48271 % 2147483647 < 2147483647 := Int.emod_lt_of_pos _ (by decide)
      generalize (y + 32452843 * (z + 1) + 1) * 48271 % 2147483647 = m at *
      refine q_asg (v := .int (m * (m / 1021 + 69621) % 2147483629)) (ev_mod (ev_op (ev_var rfl) (ev_add (ev_div (ev_var rfl) ev_c (by decide) (by decide)) ev_c) (rv_I (.inr ⟨by omega, by omega⟩))) ev_c (by decide)) fun H5 e5 => ?_
      have m2 : 0 ≤ m * (m / 1021 + 69621) % 2147483629 := Int.emod_nonneg _ (by decide)
      have m3 : m * (m / 1021 + 69621) % 2147483629 < 2147483629 := Int.emod_lt_of_pos _ (by decide)
      generalize m * (m / 1021 + 69621) % 2147483629 = m' at *
      refine s_ret (v := .int (m' * (m' / 2053 + 40692) % 2147483399 / 3 % n)) (ev_mod (ev_div (ev_mod (ev_op (ev_var rfl) (ev_add (ev_div (ev_var rfl) ev_c (by decide) (by decide)) ev_c) (rv_I (.inr ⟨by omega, by omega⟩))) ev_c (by decide)) ev_c (by decide) (by decide)) (ev_var rfl) h0) fun H6 e6 =>
        k _ _ (eS.trans (exS ((e4.trans e5).trans e6))) (SrcH.up ⟨_, _, _, hS⟩ ((e4.trans e5).trans e6)) ⟨_, rfl, Int.emod_nonneg _ (by omega), Int.emod_lt_of_pos _ h0⟩
/-! ### _law_pick -/
def spPick : Sp := fun vs H Q _ => ∃ (a b : Addr) (xs : List V), vs = [.ref a, .ref b] ∧ SrcH a H ∧ b ≠ a ∧ H b = some (.lst xs) ∧ 0 < xs.length ∧ xs.length < 1000 ∧ RetM a (fun v _ => v ∈ xs) H Q
theorem slPick : FnScope ["_law_source_here", "_law_items"] ["_law_source_here", "_law_items"] (defScope lPick) := ⟨rfl, rfl, rfl, by decide +kernel, rfl, by decide +kernel, by decide +kernel⟩
theorem ok_pick (F : Fun K "_law_pick" "_law_pick" lPick f fd) (B : Bt mg) (c1 : Callee P w K mg base "_law_take" ["_law_source_here", "_law_bound"] 1 spTake) : FnOk P w K mg base CX0 2 f fd ["_law_source_here", "_law_items"] spPick := by
  refine F.ok slPick (fun vs H Q E h => ?_) (fun cdv A outer s H vs Q E hr h => ?_)
  · obtain ⟨a, b, xs, rfl, _⟩ := h
    rfl
  · obtain ⟨a, b, xs, rfl, S, n, hb, h0, h1, k⟩ := h
    refine ⟨_, pss_one (ps_ret (pe_ix ix_list (pv 1) (pe_cal c1 hr (pa_cons (pv 0) (pa_cons (pe_callB call_len_seq (by rfl) B.len PySem.boot_len (pa_cons (pv 1) pa_nil)) pa_nil))) (fun _ _ => rfl))), ?_⟩
    refine s_retM (evm_op2 (P := fun v _ => v ∈ xs) (fun _ _ _ => ev_var rfl) (evm_call (fun H1 e1 s1 => ea_cons (ev_var rfl) (ea_cons (ev_len (ev_var rfl) (.of (e1 _ _ n hb))) ea_nil)) (sp_take (n := (xs.length : Int)) (by omega) (by omega))) fun v H1 e1 s1 hv Q' q' => ?_) S k
    obtain ⟨r, rfl, r0, r1⟩ := hv
    have hlt : r.toNat < xs.length := by omega
    exact ⟨b, xs, r, xs[r.toNat], rfl, rfl, .of (e1 _ _ n hb), at_of (j := r.toNat) (by omega) (List.getElem?_eq_getElem hlt), q' _ _ (.refl _) s1 (List.getElem_mem hlt)⟩
end
end SC

/-! ## ScE2 -/
/-! The law's defs that draw, the rest but one. -/
namespace SC
open PySem PySem.Spec PyProof.Rows L2 Evl
abbrev lCrowd : Stmt := top 63
abbrev lShares : Stmt := top 64
abbrev lScaled : Stmt := top 65
abbrev lSmall : Stmt := top 67
/-! ### plain: permutations, sums -/
theorem erase_perm' {α : Type} : ∀ (l : List α) (i : Nat) (y : α), l[i]? = some y → (y :: l.eraseIdx i).Perm l
  | [], i, y, h => by simp at h
  | a :: l, 0, y, h => by cases h; exact .refl _
  | a :: l, i + 1, y, h => by
    have := erase_perm' l i y (by simpa using h)
    rw [List.eraseIdx_cons_succ]
    exact (List.Perm.swap _ _ _).trans (this.cons a)
theorem perm_map_inv {α β : Type} {f : α → β} {l m : List β} (h : l.Perm m) : ∀ z : List α, m = z.map f → ∃ z' : List α, z'.Perm z ∧ l = z'.map f := by
  induction h with
  | nil =>
    intro z hz
    exact ⟨z, .refl _, hz⟩
  | cons x _ ih =>
    intro z hz
    cases z with
    | nil => cases hz
    | cons w z =>
      rw [List.map_cons, List.cons.injEq] at hz
      obtain ⟨rfl, hz⟩ := hz
      obtain ⟨z', hp, rfl⟩ := ih z hz
      exact ⟨w :: z', hp.cons w, rfl⟩
  | swap x y l =>
    intro z hz
    match z, hz with
    | w1 :: w2 :: z, hz =>
      rw [List.map_cons, List.map_cons, List.cons.injEq, List.cons.injEq] at hz
      obtain ⟨rfl, rfl, rfl⟩ := hz
      exact ⟨w2 :: w1 :: z, .swap _ _ _, rfl⟩
  | trans _ _ ih1 ih2 =>
    intro z hz
    obtain ⟨z2, hp2, e2⟩ := ih2 z hz
    obtain ⟨z1, hp1, e1⟩ := ih1 z2 e2
    exact ⟨z1, hp1.trans hp2, e1⟩
theorem sw_sum : ∀ rs c : List Int, sw rs c = ((List.range (min c.length rs.length)).map fun i => c.getD i 0 * prod (rs.drop (i + 1))).sum
  | [], c => by simp [sw]
  | q :: r, [] => by simp [sw]
  | q :: r, x :: cs => by
    show x * prod r + sw r cs = _
    rw [sw_sum r cs, List.length_cons, List.length_cons, Nat.succ_min_succ, List.range_succ_eq_map, List.map_cons, List.sum_cons, List.map_map]
    rfl
/-- what list is made of shuffled rows -/
theorem PlH.perm {H : Hp} {a b : Addr} {pl : List Row} {ys : List V} (h : PlH H a pl) (hb : H b = some (.lst ys)) (hp : ∀ xs, H a = some (.lst xs) → ys.Perm xs) : ∃ pl', pl'.Perm pl ∧ PlH H b pl' := by
  obtain ⟨ads, h1, h2, h3⟩ := h
  have e1 : (List.zip ads pl).map Prod.fst = ads := by rw [List.map_fst_zip (Nat.le_of_eq h2)]
  have e2 : (List.zip ads pl).map Prod.snd = pl := by rw [List.map_snd_zip (Nat.le_of_eq h2.symm)]
  obtain ⟨z, hz, hy⟩ := perm_map_inv (f := fun w : Addr × Row => V.ref w.1) (hp _ h1) (List.zip ads pl) (by
    conv => lhs; rw [← e1]
    rw [List.map_map]
    rfl)
  refine ⟨z.map Prod.snd, by rw [← e2]; exact hz.map _, z.map Prod.fst, by rw [hb, hy, List.map_map]; rfl, by simp, fun i r row hr hrow => ?_⟩
  rw [List.getElem?_map] at hr hrow
  obtain ⟨w, hw, rfl⟩ := Option.map_eq_some_iff.mp hr
  rw [hw] at hrow
  cases hrow
  have hm := hz.mem_iff.mp (List.mem_of_getElem? hw)
  obtain ⟨j, hj⟩ := List.getElem?_of_mem hm
  rw [List.getElem?_zip_eq_some] at hj
  exact h3 j _ _ hj.1 hj.2
/-! ### rows as data -/
def RowsV (H : Hp) (xs : List V) : Prop := ∀ x ∈ xs, ∃ r row, x = .ref r ∧ RowH H r row
theorem dp_rows {K : PySem.W.Frag} {H : Hp} : ∀ {xs : List V}, RowsV H xs → ∃ ds, DpAll K H xs ds ∧ PyData.canLayAll0 ds = true ∧ PyData.depthAll ds ≤ 1 ∧ ds.length = xs.length
  | [], _ => ⟨[], .nil, rfl, Nat.zero_le _, rfl⟩
  | x :: xs, h => by
    obtain ⟨r, row, rfl, hr⟩ := h x List.mem_cons_self
    obtain ⟨ds, h1, h2, h3, h4⟩ := dp_rows fun y hy => h y (List.mem_cons_of_mem _ hy)
    refine ⟨.tuple [.int row.d, .int row.f, .int row.n] :: ds, .cons (.tup (.of hr) (.cons (.int _) (.cons (.int _) (.cons (.int _) .nil)))) h1, ?_, ?_, by simp [h4]⟩
    · simp only [PyData.canLayAll0, PyData.canLay0, h2, Bool.and_true]
    · simp only [PyData.depthAll, PyData.depth]
      omega
theorem rv_neNil {K : PySem.W.Frag} {H : Hp} {a b : Addr} {xs : List V} (ha : H a = some (.lst xs)) (hr : RowsV H xs) (hb : H b = some (.lst [])) : RV (rNeD K) (.ref a) (.ref b) H (.bl (!xs.isEmpty)) := fun H1 e Q q => by
  obtain ⟨ds, h1, h2, h3, h4⟩ := dp_rows (K := K) (H := H1) (xs := xs) fun x hx => let ⟨r, row, er, hr⟩ := hr x hx; ⟨r, row, er, e _ _ hr⟩
  refine ⟨.list ds, .list [], .lst (.of (e a _ ha)) h1, .lst (.of (e b _ hb)) .nil, ?_, by decide, ?_⟩
  · unfold SeqAt.shaped
    rw [Bool.and_eq_true]
    refine ⟨h2, decide_eq_true ?_⟩
    show PyData.depthAll ds + 1 ≤ 64
    omega
  · have : PyData.eqv (.list ds) (.list []) = xs.isEmpty := by
      cases xs with
      | nil =>
        have : ds = [] := List.length_eq_zero_iff.mp h4
        rw [this]
        rfl
      | cons x xs =>
        cases ds with
        | nil => cases h4
        | cons d ds => simp [PyData.eqv, PyData.eqvAll]
    rw [this]
    exact q H1 (Ex.refl _)
theorem seqIdx {n k : Nat} (h : k < n) : seqIndex? (k : Int) n = some k := by
  simp only [seqIndex?]
  rw [if_neg (show ¬ (k : Int) < 0 by omega), if_pos (by simp [h])]
  simp
theorem q_parL {σ : L2.St} {H : Hp} {ta tb : TE} {tz : TS} {D : Ends} {i j : Nat} {xs ys : List V} (h : EvL ta σ H xs) (h2 : EvL tb σ H ys) (k : ∀ p q H2, H p = none → H q = none → p ≠ q → Ex H H2 → H2 p = some (.lst xs) → H2 q = some (.lst ys) → tz D ((σ.set i (some (.ref p))).set j (some (.ref q))) H2) : tSeq (tPar i j (tCons ta (tCons tb tNil))) tz D σ H :=
  h H (Ex.refl H) _ fun p H1 hp e1 h1 => h2 H1 e1 _ fun q H2 hq e2 h2 => ⟨.ref p, .ref q, rfl, k p q H2 hp (fresh_back e1 hq) (fun z => by rw [← z, h1] at hq; cases hq) (e1.trans e2) (e2 _ _ h1) h2⟩
theorem ExS.rows {a : Addr} {H H' : Hp} {xs : List V} (e : ExS a H H') (s : SrcH a H) (h : RowsV H xs) : RowsV H' xs := fun x hx => by
  obtain ⟨r, row, er, hr⟩ := h x hx
  refine ⟨r, row, er, e _ _ (fun z => ?_) hr⟩
  obtain ⟨x1, x2, x3, hs⟩ := s
  subst z
  have h3 := Eq.trans (Eq.symm hr) hs
  cases h3
section
variable {P : Program} {w : World} {K : PySem.W.Frag} {mg : Str → Option Value} {base : Heap} {f : Addr} {fd : FuncData}
/-! ### _law_shuffled -/
def ShufP (a : Addr) (xs : List V) (v : V) (H2 : Hp) : Prop := ∃ (p : Addr) (ys : List V), v = .ref p ∧ p ≠ a ∧ H2 p = some (.lst ys) ∧ ys.Perm xs
def spShuffled : Sp := fun vs H Q _ => ∃ (a b : Addr) (xs : List V), vs = [.ref a, .ref b] ∧ SrcH a H ∧ b ≠ a ∧ H b = some (.lst xs) ∧ RowsV H xs ∧ xs.length < 10000 ∧ RetM a (ShufP a xs) H Q
theorem slShuffled : FnScope ["_law_source_here", "_law_items", "_law_pool", "_law_result"] ["_law_source_here", "_law_items"] (defScope lShuffled) := ⟨rfl, rfl, rfl, by decide +kernel, rfl, by decide +kernel, by decide +kernel⟩
theorem ok_shuffled (F : Fun K "_law_shuffled" "_law_shuffled" lShuffled f fd) (B : Bt mg) (c1 : Callee P w K mg base "_law_take" ["_law_source_here", "_law_bound"] 1 spTake) : FnOk P w K mg base CX0 2 f fd ["_law_source_here", "_law_items"] spShuffled := by
  refine F.ok slShuffled (fun vs H Q E h => ?_) (fun cdv A outer s H vs Q E hr h => ?_)
  · obtain ⟨a, b, xs, rfl, _⟩ := h
    rfl
  · obtain ⟨a, b, xs, rfl, S, n, hb, hR, hl, k⟩ := h
    refine ⟨_, pss_cons (ps_par (i := 2) (j := 3) (by rfl) slShuffled.nd rfl rfl (by decide) rfl rfl (pa_cons (pe_callTy call_list_of (by rfl) B.list (by decide +kernel) (pa_cons (pv 1) pa_nil)) (pa_cons (pe_lst pa_nil) pa_nil)) (by rfl))
      (pss_cons (ps_while PassesOwn.never (pt_cmpR (op_neD hr.units) (pv 2) (pe_lst pa_nil) (nomark _))
        (pss_one (ps_expr (pe_bm PySem.F.plainAttrs_list PySem.F.slot_list_append PySem.F.type_list_append mt_append (pv 3) (pa_cons (pe_bm PySem.F.plainAttrs_list PySem.F.slot_list_pop PySem.F.type_list_pop mt_popAt (pv 2)
          (pa_cons (pe_cal c1 hr (pa_cons (pv 0) (pa_cons (pe_callB call_len_seq (by rfl) B.len PySem.boot_len (pa_cons (pv 2) pa_nil)) pa_nil))) pa_nil)) pa_nil)))))
      (pss_one (ps_ret (pv 3)))), ?_⟩
    refine q_parL (el_list (ev_var rfl) (.of hb)) (el_lst ea_nil (by decide)) fun p q H1 hp hq npq e1 h1 h2 => ?_
    have npa : p ≠ a := by obtain ⟨x, y, z, hs⟩ := S; intro e; rw [e, hs] at hp; cases hp
    have nqa : q ≠ a := by obtain ⟨x, y, z, hs⟩ := S; intro e; rw [e, hs] at hq; cases hq
    refine q_while (fun m σ' H' => ∃ zs ys : List V, zs.length = m ∧ (ys ++ zs).Perm xs ∧ H' p = some (.lst zs) ∧ H' q = some (.lst ys) ∧ ExS a H H' ∧ SrcH a H' ∧ σ' = [some (.ref a), some (.ref b), some (.ref p), some (.ref q)]) xs.length
      ⟨xs, [], rfl, .refl _, h1, h2, exS e1, S.up e1, rfl⟩ (fun m σ' H' h => ?_)
    obtain ⟨zs, ys, rfl, hpm, hzs, hys, eH, S', rfl⟩ := h
    have hlen := hpm.length_eq
    rw [List.length_append] at hlen
    have hRz : RowsV H' zs := fun x hx => eH.rows S hR x (hpm.mem_iff.mp (List.mem_append_right _ hx))
    refine ⟨!zs.isEmpty, et_test (ev_opL (ev_var rfl) (el_lst ea_nil (by decide)) fun u H2 hu e2 => rv_neNil (e2 _ _ hzs) (fun x hx => let ⟨r, row, er, hr⟩ := hRz x hx; ⟨r, row, er, e2 _ _ hr⟩) hu), fun hb2 H2 e2 => ?_, fun hb2 H2 e2 => ?_⟩
    · have hz0 : 0 < zs.length := by
        cases zs with
        | nil => cases hb2
        | cons _ _ => simp
      refine ⟨fun σ2 H3 => ∃ zs' ys' : List V, zs'.length < zs.length ∧ (ys' ++ zs').Perm xs ∧ H3 p = some (.lst zs') ∧ H3 q = some (.lst ys') ∧ ExS a H H3 ∧ SrcH a H3 ∧ σ2 = [some (.ref a), some (.ref b), some (.ref p), some (.ref q)], fun σ2 H3 h => let ⟨zs', ys', h1, h2⟩ := h; ⟨_, h1, zs', ys', rfl, h2⟩, ?_⟩
      refine ⟨.ref q, rfl, .inl ⟨rfl, ys, .of (e2 _ _ hys)⟩, .ref p, rfl, .inl ⟨rfl, zs, .of (e2 _ _ hzs)⟩, ?_⟩
      refine evm_call (a := a) (H := H2) (fun H3 e3 s3 => ea_cons (ev_var rfl) (ea_cons (ev_len (ev_var rfl) (.of (e3 _ _ npa (e2 _ _ hzs)))) ea_nil)) (sp_take (n := (zs.length : Int)) (by omega) (by omega)) H2 (.refl _) (S'.up e2) _ fun v H3 e3 s3 hv => ?_
      obtain ⟨r, rfl, r0, r1⟩ := hv
      have hlt : r.toNat < zs.length := by omega
      have hz3 := e3 _ _ npa (e2 _ _ hzs)
      have hy3 := e3 _ _ nqa (e2 _ _ hys)
      have hg : zs[r.toNat]? = some zs[r.toNat] := List.getElem?_eq_getElem hlt
      refine ⟨p, zs, r, r.toNat, zs[r.toNat], rfl, rfl, hz3, by omega, by omega, by rw [show r = (r.toNat : Int) by omega]; exact seqIdx hlt, hg, q, ys, zs[r.toNat], rfl, rfl, by rw [upd_ne npq.symm]; exact hy3, sz_lt (by omega), ?_⟩
      refine ⟨zs.eraseIdx r.toNat, ys ++ [zs[r.toNat]], ?_, ?_, ?_, upd_same, ((eH.trans ((exS e2).trans e3)).mut hp).mut hq, (s3.other npa).other nqa, rfl⟩
      · rw [List.length_eraseIdx, if_pos hlt]
        omega
      · rw [List.append_assoc]
        exact ((erase_perm' zs _ _ hg).append_left ys).trans hpm
      · rw [upd_ne npq, upd_same]
    · have hz0 : zs = [] := by
        cases zs with
        | nil => rfl
        | cons _ _ => cases hb2
      subst hz0
      rw [List.append_nil] at hpm
      exact s_ret (ev_var rfl) fun H3 e3 => k _ _ (eH.trans (exS (e2.trans e3))) (S'.up (e2.trans e3)) ⟨q, ys, rfl, nqa, e3 _ _ (e2 _ _ hys), hpm⟩
end
end SC

/-! ## ScE3 -/
/-! _law_crowd, _law_shares, _law_scaled, _law_small_rounds. -/
namespace SC
open PySem PySem.Spec PyProof.Rows L2 Evl
/-- several values, some of them drawn -/
def EvML (a : Addr) (t : TA) (σ : L2.St) (H : Hp) (Pl : List V → Prop) : Prop := ∀ H1, ExS a H H1 → SrcH a H1 → ∀ Q : List V → Hp → Prop, (∀ vs H2, ExS a H1 H2 → SrcH a H2 → Pl vs → Q vs H2) → t σ H1 Q
section
variable {K : PySem.W.Frag} {σ : L2.St} {H : Hp} {te ta tb tS tn : TE} {t tl : TA} {D : Ends} {tu tz : TS} {a b : Addr} {x : V} {P : V → Hp → Prop} {Pv : V → Prop} {Pl : List V → Prop} {xs : List V}
theorem emal_nil : EvML a tNil σ H (fun vs => vs = []) := fun H1 e s Q q => q [] H1 (.refl _) s rfl
theorem emal_cons (h : EvM a te σ H (fun v _ => Pv v)) (hr : EvML a t σ H Pl) : EvML a (tCons te t) σ H (fun vs => ∃ v ws, vs = v :: ws ∧ Pv v ∧ Pl ws) := fun H1 e s Q q =>
  h H1 e s _ fun v H2 e2 s2 hv => hr H2 (e.trans e2) s2 _ fun ws H3 e3 s3 hw => q _ H3 (e2.trans e3) s3 ⟨v, ws, rfl, hv, hw⟩
theorem evm_v (h : ∀ H1, ExS a H H1 → SrcH a H1 → Ev te σ H1 x) : EvM a te σ H (fun v _ => v = x) := evm_p fun H1 e s => evp_v (h H1 e s) fun _ _ => rfl
theorem evm_take {n : Int} {E : XK} (hS : ∀ H1, ExS a H H1 → SrcH a H1 → Ev tS σ H1 (.ref a)) (hn : ∀ H1, ExS a H H1 → SrcH a H1 → Ev tn σ H1 (.int n)) (h0 : 0 < n) (h1 : n < 1000000) : EvM a (tCall spTake [] E (tCons tS (tCons tn tNil))) σ H (fun v _ => ∃ r, v = .int r ∧ 0 ≤ r ∧ r < n) :=
  evm_w (evm_call (fun H1 e s => ea_cons (hS H1 e s) (ea_cons (hn H1 e s) ea_nil)) (sp_take h0 h1)) fun v H2 _ hv => hv
theorem evm_cb1 {r : List V → Hp → VK → Prop} {P1 : V → Hp → Prop} (h : EvM a te σ H P1) (hr : ∀ v H1, ExS a H H1 → SrcH a H1 → P1 v H1 → ∀ Q : VK, (∀ w H2, ExS a H1 H2 → SrcH a H2 → P w H2 → Q w H2) → r [v] H1 Q) : EvM a (tCB r (tCons te tNil)) σ H P := fun H1 e s Q q =>
  h H1 e s _ fun v H2 e2 s2 hv => hr v H2 (e.trans e2) s2 hv Q fun w H3 e3 s3 hw => q w H3 (e2.trans e3) s3 hw
/-- _law_pick of a list just written -/
theorem evm_pick {E : XK} (hS : ∀ H1, ExS a H H1 → SrcH a H1 → Ev tS σ H1 (.ref a)) (hl : EvML a tl σ H Pl) (hz : ∀ vs, Pl vs → 0 < vs.length ∧ vs.length < 1000) : EvM a (tCall spPick [] E (tCons tS (tCons (tLst tl) tNil))) σ H (fun v _ => ∃ vs, Pl vs ∧ v ∈ vs) := fun H1 e s Q q =>
  hS H1 e s H1 (Ex.refl _) _ fun H2 e2 => hl H2 (e.trans (exS e2)) (s.up e2) _ fun vs H3 e3 s3 hvs => ⟨sz_of (by have := (hz vs hvs).2; omega), fun p hp => by
    have npa : p ≠ a := fun z => by obtain ⟨x1, x2, x3, hs⟩ := s3; rw [z, hs] at hp; cases hp
    refine ⟨a, p, vs, rfl, s3.other npa, npa, upd_same, (hz vs hvs).1, (hz vs hvs).2, fun v H4 e4 s4 hv => q v H4 (((exS e2).trans e3).trans ((exS (Ex.new hp)).trans e4)) s4 ⟨vs, hvs, hv⟩⟩⟩
/-- for i in range(n), n drawn, the body draws -/
theorem s_forRM {j N : Nat} (h : EvM a tn σ H (fun v _ => ∃ n : Nat, v = .int (n : Int) ∧ n ≤ N)) (hN : N ≤ 50000) (s : SrcH a H) (Pv : Nat → L2.St → Hp → Prop) (h0 : ∀ H1, ExS a H H1 → SrcH a H1 → Pv 0 σ H1)
    (hs : ∀ (i : Nat) σ' H', i < N → Pv i σ' H' → tu { D with nx := Pv (i + 1), ct := Pv (i + 1), bk := D.nx } (σ'.set j (some (.int (i : Int)))) H') (hd : ∀ i σ' H', i ≤ N → Pv i σ' H' → D.nx σ' H') : tFor (iRng1 (tCons tn tNil)) (gName j) tu D σ H :=
  h H (.refl _) s _ fun v H1 e1 s1 hv => by
    obtain ⟨n, rfl, hn⟩ := hv
    refine ⟨(n : Int), rfl, by omega, by omega, for_range (lo := 0) (n := (n : Int).toNat) Pv (h0 H1 e1 s1) (fun i σ' H' hi p => ?_) fun σ' H' p => hd _ σ' H' (by omega) p⟩
    have e0 : (0 : Int) + (i : Int) = (i : Int) := Int.zero_add _
    show tu { D with nx := Pv (i + 1), ct := Pv (i + 1), bk := D.nx } (σ'.set j (some (.int ((0 : Int) + (i : Int))))) H'
    rw [e0]
    exact hs i σ' H' (by omega) p
theorem q_forRM {j N : Nat} (h : EvM a tn σ H (fun v _ => ∃ n : Nat, v = .int (n : Int) ∧ n ≤ N)) (hN : N ≤ 50000) (s : SrcH a H) (Pv : Nat → L2.St → Hp → Prop) (h0 : ∀ H1, ExS a H H1 → SrcH a H1 → Pv 0 σ H1)
    (hs : ∀ (i : Nat) σ' H', i < N → Pv i σ' H' → tu { D with nx := Pv (i + 1), ct := Pv (i + 1), bk := tz D } (σ'.set j (some (.int (i : Int)))) H') (hd : ∀ i σ' H', i ≤ N → Pv i σ' H' → tz D σ' H') : tSeq (tFor (iRng1 (tCons tn tNil)) (gName j) tu) tz D σ H :=
  s_forRM (D := { D with nx := tz D }) h hN s Pv h0 hs hd
/-- [e for i in range(n)], n drawn, e draws -/
theorem evm_lcR1 {j N : Nat} {vs : List Nat} (h : EvM a tn σ H (fun v _ => ∃ n : Nat, v = .int (n : Int) ∧ n ≤ N)) (hN : N ≤ 50000) (hw : ∀ x, wipe ((wipe σ vs).set j (some x)) vs = wipe σ vs)
    (he : ∀ (i : Nat) H1, ExS a H H1 → SrcH a H1 → EvM a te ((wipe σ vs).set j (some (.int (i : Int)))) H1 (fun v _ => Pv v)) : EvM a (tLc (iRng1 (tCons tn tNil)) (gName j) tYes te vs) σ H (fun v H2 => ∃ p xs, v = .ref p ∧ H2 p = some (.lst xs) ∧ xs.length ≤ N ∧ ∀ x ∈ xs, Pv x) := fun H1 e s Q q =>
  h H1 e s _ fun v H2 e2 s2 hv => by
    obtain ⟨n, rfl, hn⟩ := hv
    refine ⟨(n : Int), rfl, by omega, by omega, fun D hD => ?_⟩
    have nDa : D ≠ a := fun z => by obtain ⟨x1, x2, x3, hs⟩ := s2; rw [z, hs] at hD; cases hD
    have w := walk_range (lo := 0) (n := (n : Int).toNat)
    rw [Int.toNat_natCast] at w ⊢
    refine lc_it w (fun i H' => ExS a H2 H' ∧ SrcH a H' ∧ ∃ xs, H' D = some (.lst xs) ∧ xs.length = i ∧ ∀ x ∈ xs, Pv x) ⟨exS (Ex.new hD), s2.other nDa, [], upd_same, rfl, fun x hx => by simp at hx⟩ (fun _ _ _ _ => trivial) (fun i x H' H'' hi p y => ?_) (fun H' p => ?_)
    · obtain ⟨p1, p2, xs, p3, p4, p5⟩ := p
      obtain ⟨rfl, rfl⟩ := y
      refine ⟨hw _, ?_⟩
      dsimp only [tYes]
      rw [if_pos rfl]
      have e0 : (0 : Int) + (i : Int) = (i : Int) := Int.zero_add _
      show te ((wipe σ vs).set j (some (.int ((0 : Int) + (i : Int))))) H'' _
      rw [e0]
      refine he i H'' ((e.trans e2).trans p1) p2 H'' (.refl _) p2 _ fun v H4 e4 s4 hv => ⟨xs, e4 D _ nDa p3, sz_lt (by omega), fun b o nb hb => ?_, s4.other nDa, xs ++ [v], upd_same, by simp [p4], fun x hx => ?_⟩
      · rw [upd_ne (ne_of_none hb hD)]
        exact e4 b o nb (p1 b o nb hb)
      · rcases List.mem_append.mp hx with hx | hx
        · exact p5 x hx
        · rw [List.mem_singleton.mp hx]
          exact hv
    · obtain ⟨p1, p2, xs, p3, p4, p5⟩ := p
      exact q (.ref D) H' (e2.trans p1) p2 ⟨D, xs, rfl, p3, by omega, p5⟩
end
section
variable {P : Program} {w : World} {K : PySem.W.Frag} {mg : Str → Option Value} {base : Heap} {f : Addr} {fd : FuncData}
/-! ### _law_crowd -/
def CrowdP (N : Nat) (M : Int) (v : V) (H2 : Hp) : Prop := ∃ (p : Addr) (c : List Int), v = .ref p ∧ TuI H2 p c ∧ c.length ≤ N ∧ ∀ x ∈ c, 0 ≤ x ∧ x < M
def spCrowd : Sp := fun vs H Q _ => ∃ (a : Addr) (N : Nat) (M : Int), vs = [.ref a, .int (N : Int), .int M] ∧ SrcH a H ∧ N ≤ 100 ∧ 2 ≤ M ∧ M ≤ 1000 ∧ RetM a (CrowdP N M) H Q
theorem slCrowd : FnScope ["_law_source_here", "_law_length", "_law_wide", "_law_k"] ["_law_source_here", "_law_length", "_law_wide"] (defScope lCrowd) := ⟨rfl, rfl, rfl, by decide +kernel, rfl, by decide +kernel, by decide +kernel⟩
theorem ints_of : ∀ {xs : List V} {Pr : Int → Prop}, (∀ x ∈ xs, ∃ z, x = .int z ∧ Pr z) → ∃ c : List Int, xs = c.map V.int ∧ ∀ z ∈ c, Pr z
  | [], _, _ => ⟨[], rfl, fun z hz => by simp at hz⟩
  | x :: xs, Pr, h => by
    obtain ⟨z, rfl, hz⟩ := h x List.mem_cons_self
    obtain ⟨c, rfl, hc⟩ := ints_of fun y hy => h y (List.mem_cons_of_mem _ hy)
    refine ⟨z :: c, rfl, fun y hy => ?_⟩
    rcases List.mem_cons.mp hy with rfl | hy
    · exact hz
    · exact hc y hy
theorem ok_crowd (F : Fun K "_law_crowd" "_law_crowd" lCrowd f fd) (B : Bt mg) (c1 : Callee P w K mg base "_law_take" ["_law_source_here", "_law_bound"] 1 spTake) (c2 : Callee P w K mg base "_law_pick" ["_law_source_here", "_law_items"] 2 spPick) : FnOk P w K mg base CX0 3 f fd ["_law_source_here", "_law_length", "_law_wide"] spCrowd := by
  refine F.ok slCrowd (fun vs H Q E h => ?_) (fun cdv A outer s H vs Q E hr h => ?_)
  · obtain ⟨a, N, M, rfl, _⟩ := h
    rfl
  · obtain ⟨a, N, M, rfl, S, hN, hM, hM2, k⟩ := h
    refine ⟨_, pss_one (ps_ret (pe_callTy (call_tupleK K) (by rfl) B.tuple (by decide +kernel) (pa_cons (pe_lc (own := [("_law_k", 3)]) (g := gName 3) (tt := tYes) rfl slCrowd.nd
      (pi_range1 (by rfl) B.range (pa_cons (pe_cal c1 (hr.mono (by decide)) (pa_cons (pv 0) (pa_cons (pe_op op_add (pv 1) pe_int) pa_nil))) pa_nil)) (blkOk_by (N := ["_law_source_here", "_law_length", "_law_wide", "_law_k"]) (sc := defScope lCrowd) (by decide +kernel))
      (fun _ _ _ _ _ => pg_name (i := 3) slCrowd.nd rfl (.inl rfl)) (fun _ _ _ _ _ => pts_nil)
      (fun _ _ _ _ _ => pe_cal c2 hr (pa_cons (pv 0) (pa_cons (pe_lst (pa_cons pe_int (pa_cons pe_int (pa_cons (pe_cal c1 (hr.mono (by decide)) (pa_cons (pv 0) (pa_cons (pv 2) pa_nil))) pa_nil)))) pa_nil)))) pa_nil))), ?_⟩
    refine s_retM (P := CrowdP N M) (evm_cb1 (evm_lcR1 (N := N) (Pv := fun v => ∃ z, v = .int z ∧ 0 ≤ z ∧ z < M) (evm_w (evm_take (n := (N : Int) + 1) (fun _ _ _ => ev_var rfl) (fun _ _ _ => ev_add (ev_var rfl) ev_c) (by omega) (by omega)) fun v _ _ hv => ?_) (by omega) (fun _ => rfl) (fun i H1 e1 s1 => ?_)) fun v H1 e1 s1 hv Q' q' => ?_) S k
    · obtain ⟨r, rfl, r0, r1⟩ := hv
      exact ⟨r.toNat, by rw [Int.toNat_of_nonneg r0], by omega⟩
    · refine evm_w (evm_pick (fun _ _ _ => ev_var rfl) (emal_cons (evm_v fun _ _ _ => ev_c) (emal_cons (evm_v fun _ _ _ => ev_c) (emal_cons (evm_take (fun _ _ _ => ev_var rfl) (fun _ _ _ => ev_var rfl) (show 0 < M by omega) (by omega)) emal_nil))) ?_) fun v _ _ hv => ?_
      · rintro vs ⟨_, _, rfl, _, _, _, rfl, _, _, _, rfl, _, rfl⟩
        exact ⟨by simp, by simp⟩
      · obtain ⟨vs, ⟨_, _, rfl, rfl, _, _, rfl, rfl, _, _, rfl, ⟨r, rfl, r0, r1⟩, rfl⟩, hm⟩ := hv
        rcases List.mem_cons.mp hm with rfl | hm
        · exact ⟨0, rfl, by omega, by omega⟩
        · rcases List.mem_cons.mp hm with rfl | hm
          · exact ⟨1, rfl, by omega, by omega⟩
          · exact ⟨r, List.mem_singleton.mp hm, r0, r1⟩
    · obtain ⟨p, xs, rfl, hp, hl, hx⟩ := hv
      obtain ⟨c, rfl, hc⟩ := ints_of hx
      exact ⟨p, _, rfl, .inl ⟨.of hp, fun l hl' => q' _ _ (exS (Ex.new hl')) (s1.up (Ex.new hl')) ⟨l, c, rfl, upd_same, by rw [List.length_map] at hl; exact hl, hc⟩⟩⟩
/-! ### _law_shares, _law_scaled -/
def shares (rs : List Int) : List Int := (List.range rs.length).map fun i => pp rs (i + 1)
def spShares : Sp := fun vs H Q _ => ∃ (a : Addr) (rs : List Int), vs = [.ref a] ∧ LI H a rs ∧ Sched rs ∧ RetL ((shares rs).map V.int) H Q
theorem sp_shares {H : Hp} {a : Addr} {rs : List Int} (h : LI H a rs) (s : Sched rs) : SpL spShares [.ref a] H ((shares rs).map V.int) := fun H1 e Q q E => ⟨a, rs, rfl, e a _ h, s, fun p H2 hp e2 h2 => q p H2 hp e2 h2⟩
theorem slShares : FnScope ["_law_rounds", "_law_result", "_law_total", "_law_entry"] ["_law_rounds"] (defScope lShares) := ⟨rfl, rfl, rfl, by decide +kernel, rfl, by decide +kernel, by decide +kernel⟩
theorem ok_shares (F : Fun K "_law_shares" "_law_shares" lShares f fd) : FnOk P w K mg base CX0 1 f fd ["_law_rounds"] spShares := by
  refine F.ok slShares (fun vs H Q E h => ?_) (fun cdv A outer s H vs Q E hr h => ?_)
  · obtain ⟨a, rs, rfl, _⟩ := h
    rfl
  · obtain ⟨a, rs, rfl, ha, S, k⟩ := h
    refine ⟨_, pss_cons (ps_par (i := 1) (j := 2) (by rfl) slShares.nd rfl rfl (by decide) rfl rfl (pa_cons (pe_lst pa_nil) (pa_cons pe_int pa_nil)) (by rfl))
      (pss_cons (ps_for PassesOwn.never rfl (pi_list (pv 0)) (pg_name (i := 3) slShares.nd rfl (.inl rfl))
        (pss_cons (ps_set (i := 2) slShares.nd rfl (.inl rfl) (pe_op op_mul (pv 2) (pv 3)))
        (pss_one (ps_expr (pe_bm PySem.F.plainAttrs_list PySem.F.slot_list_append PySem.F.type_list_append mt_append (pv 1) (pa_cons (pv 2) pa_nil))))))
      (pss_one (ps_ret (pv 1)))), ?_⟩
    refine ⟨Nat.zero_le _, fun p hp => ⟨.ref p, .int 1, rfl, ?_⟩⟩
    refine q_forLn (ev_var rfl) (.of (Ex.new hp a _ ha)) (fun i σ' H' => (∃ z, σ' = [some (.ref a), some (.ref p), some (.int (pp rs i)), z]) ∧ Ex H H' ∧ LI H' p ((List.range i).map fun j => pp rs (j + 1)))
      (fun H2 e2 => ⟨⟨none, by rw [pp_zero]; rfl⟩, (Ex.new hp).trans e2, e2 _ _ upd_same⟩) (fun i σ' H' _ h => .of (h.2.1 a _ ha)) (fun i x σ' H' hx h => ?_) (fun σ' H' h => ?_)
    · obtain ⟨⟨z, rfl⟩, e', hP⟩ := h
      obtain ⟨y, hy, rfl⟩ := get_int hx
      have h2 := S.two y (List.mem_of_getElem? hy)
      have h5 := S.five y (List.mem_of_getElem? hy)
      have hlt := (List.getElem?_eq_some_iff.mp hy).1
      have hl := S.len
      refine q_asg (v := .int (pp rs (i + 1))) (ev_is (ev_mulR (ev_var rfl) (ev_var rfl) (by omega) (by omega)) (by rw [pp_succ hy])) fun H2 e2 => ?_
      refine s_app (v := .int (pp rs (i + 1))) (e2 _ _ hP) (ev_var rfl) (ev_var rfl) (by simp; omega) fun H3 e3 => ⟨⟨_, rfl⟩, Ex.mut ((e'.trans e2).trans e3) hp, ?_⟩
      rw [LI, upd_same, List.range_succ, List.map_append, List.map_append]
      rfl
    · obtain ⟨⟨z, rfl⟩, e', hP⟩ := h
      refine s_ret (ev_var rfl) fun H2 e2 => k p H2 hp (e'.trans e2) ?_
      rw [e2 p _ hP, List.length_map]
      rfl
def ScaledP (rs c : List Int) (v : V) (H2 : Hp) : Prop := ∃ p : Addr, v = .ref p ∧ H2 p = some (.tup [.int (sw rs c), .int (prod rs)])
def spScaled : Sp := fun vs H Q _ => ∃ (a b : Addr) (rs c : List Int), vs = [.ref a, .ref b] ∧ LI H a rs ∧ Small rs ∧ TuI H b c ∧ Cnt c ∧ RetP (ScaledP rs c) H Q
theorem sp_scaled {H : Hp} {a b : Addr} {rs c : List Int} (ha : LI H a rs) (S : Small rs) (hb : TuI H b c) (C : Cnt c) : SpP spScaled [.ref a, .ref b] H (ScaledP rs c) := fun H1 e Q k E => ⟨a, b, rs, c, rfl, e _ _ ha, S, e _ _ hb, C, k⟩
theorem slScaled : FnScope ["_law_rounds", "_law_crowd_here", "_law_parts", "_law_whole", "_law_count_here", "_law_part"] ["_law_rounds", "_law_crowd_here"] (defScope lScaled) := ⟨rfl, rfl, rfl, by decide +kernel, rfl, by decide +kernel, by decide +kernel⟩
theorem ok_scaled (F : Fun K "_law_scaled" "_law_scaled" lScaled f fd) (B : Bt mg) (c1 : Callee P w K mg base "_law_shares" ["_law_rounds"] 1 spShares) : FnOk P w K mg base CX0 2 f fd ["_law_rounds", "_law_crowd_here"] spScaled := by
  refine F.ok slScaled (fun vs H Q E h => ?_) (fun cdv A outer s H vs Q E hr h => ?_)
  · obtain ⟨a, b, rs, c, rfl, _⟩ := h
    rfl
  · obtain ⟨a, b, rs, c, rfl, ha, S, hb, C, k⟩ := h
    refine ⟨_, pss_cons (ps_set (i := 2) slScaled.nd rfl (.inl rfl) (pe_cal c1 hr (pa_cons (pv 0) pa_nil)))
      (pss_cons (ps_set (i := 3) slScaled.nd rfl (.inr rfl) (pe_ix ix_list (pe_op op_cat (pe_lst (pa_cons pe_int pa_nil)) (pv 2)) (pe_un un_neg pe_int) (fun _ _ => rfl)))
      (pss_one (ps_ret (pe_tup (pa_cons (pe_callB (cr_sumK K rfl) (by rfl) B.sum (by decide +kernel) (pa_cons (pe_lc (own := [("_law_count_here", 4), ("_law_part", 5)]) (g := gTup K 2 (gCons (gName 4) (gCons (gName 5) gNil))) (tt := tYes) rfl slScaled.nd
        (SCR.pi_zipTL (by rfl) B.zip (pa_cons (pv 1) (pa_cons (pv 2) pa_nil))) (blkOk_by (N := ["_law_rounds", "_law_crowd_here", "_law_parts", "_law_whole", "_law_count_here", "_law_part"]) (sc := defScope lScaled) (by decide +kernel))
        (fun _ _ _ _ _ => pg_tupK K rfl rfl (pgs_cons (pg_name (i := 4) slScaled.nd rfl (.inl rfl)) (pgs_cons (pg_name (i := 5) slScaled.nd rfl (.inl rfl)) pgs_nil))) (fun _ _ _ _ _ => pts_nil)
        (fun _ _ _ _ _ => pe_op op_mul (pv 4) (pe_op op_fdiv (pv 3) (pv 5)))) pa_nil)) (pa_cons (pv 3) pa_nil)))))), ?_⟩
    have hsl := S.len
    have hcl := C.len
    refine q_asgL (el_call (ea_cons (ev_var rfl) ea_nil) (sp_shares ha S.toSched)) fun ps H1 _ e1 hps => ?_
    have hcat : ([V.int 1] ++ (shares rs).map V.int) = (prods rs).map V.int := by
      unfold prods shares
      rw [List.range_succ_eq_map, List.map_cons, List.map_cons, List.map_map, List.map_map, List.map_map, pp_zero]
      rfl
    refine q_asg (v := .int (prod rs)) (ev_opP1 (isl_l (el_cat (isl_l (el_lst (ea_cons ev_c ea_nil) (by decide))) (isl_v (ev_var rfl) hps) (by simp [shares]; omega))) (fun H2 _ => ev_un ev_c ru_neg) (fun v H2 e2 hv => ?_) (fun v H2 H3 e h => h.up e)) fun H2 e2 => ?_
    · obtain ⟨q, rfl, hq⟩ := hv
      rw [hcat] at hq
      refine rv_ixL (.of hq) ?_
      unfold prods
      rw [List.range_succ, List.map_append, List.map_append, List.map_singleton, List.map_singleton, pp_all]
      exact atI_last _ _
    · have e2' := e1.trans e2
      have hpp : ∀ i, i < rs.length → prod rs / pp rs (i + 1) = prod (rs.drop (i + 1)) := fun i hi => by
        rw [← pp_rest rs (i + 1), Int.mul_ediv_cancel_left _ (by have := pp_pos S.two (i + 1); omega)]
      refine s_retP (P := ScaledP rs c) (evp_u (eu_tup (ea_cons (ev_cb1P (evl_lc2 (n := min c.length rs.length) (fun i => .int (c.getD i 0 * prod (rs.drop (i + 1)))) (src_zipTL (ea_cons (ev_var rfl) (ea_cons (ev_var rfl) ea_nil)) (.of (e2' _ _ hb)) (e2 _ _ hps) (by simp [shares])) (by omega) (fun _ _ => rfl) (fun i x y H3 hi hx hy e3 => ?_)) (z := .int (sw rs c)) fun v H3 e3 hv => ?_) (ea_cons (ev_var rfl) ea_nil)) (by simp)) fun p H3 _ hp => ⟨p, rfl, hp⟩) fun v H3 e3 hv => k v H3 (e2'.trans e3) hv
      · obtain ⟨z, hz, rfl⟩ := get_int hx
        obtain ⟨y', hy', rfl⟩ := get_int hy
        have hpe : y' = pp rs (i + 1) := by
          unfold shares at hy'
          rw [List.getElem?_map, List.getElem?_range (by omega)] at hy'
          exact (Option.some.inj hy').symm
        subst hpe
        have p0 := pp_pos S.two (i + 1)
        have p1 := S.pp_lt (i + 1)
        have d1 := (S.rest (i + 1)).most
        have d0 : 0 < prod (rs.drop (i + 1)) := prod_pos fun x hx => S.two x (List.mem_of_mem_drop hx)
        rw [getD_of hz, ← hpp i (by omega)]
        exact ev_mulR (ev_var rfl) (ev_div (ev_var rfl) (ev_var rfl) p0 (by omega)) (by rw [hpp i (by omega)]; omega) (by rw [hpp i (by omega)]; omega)
      · obtain ⟨L, rfl, hL⟩ := hv
        refine fun H4 e4 Q' q' => ⟨L, (List.range (min c.length rs.length)).map fun i => c.getD i 0 * prod (rs.drop (i + 1)), rfl, .of (by rw [e4 _ _ hL, map_int]), ?_⟩
        rw [← sw_sum]
        exact q' H4 (Ex.refl _)
end
end SC

/-! ## ScE4 -/
/-! _law_small_rounds, _law_drawn_plan. -/
namespace SC
open PySem PySem.Spec PyProof.Rows L2 Evl
abbrev lPlan : Stmt := top 66
theorem prod_snoc (rs : List Int) (e : Int) : prod (rs ++ [e]) = prod rs * e := by
  rw [prod_append]
  show prod rs * (e * 1) = _
  rw [Int.mul_one]
section
variable {P : Program} {w : World} {K : PySem.W.Frag} {mg : Str → Option Value} {base : Heap} {f : Addr} {fd : FuncData}
/-! ### _law_small_rounds -/
def RoundsP (a : Addr) (v : V) (H2 : Hp) : Prop := ∃ (p : Addr) (rs : List Int), v = .ref p ∧ p ≠ a ∧ LI H2 p rs ∧ Small rs ∧ rs.length ≤ 6 ∧ prod rs ≤ 64
def spSmall : Sp := fun vs H Q _ => ∃ a : Addr, vs = [.ref a, .int 64] ∧ SrcH a H ∧ RetM a (RoundsP a) H Q
theorem sp_small {a : Addr} {H : Hp} : SpM a spSmall [.ref a, .int 64] H (RoundsP a) := fun H1 e s Q q E => ⟨a, rfl, s, q⟩
theorem slSmall : FnScope ["_law_source_here", "_law_most", "_law_result", "_law_total", "_law_k", "_law_entry"] ["_law_source_here", "_law_most"] (defScope lSmall) := ⟨rfl, rfl, rfl, by decide +kernel, rfl, by decide +kernel, by decide +kernel⟩
theorem ok_small (F : Fun K "_law_small_rounds" "_law_small_rounds" lSmall f fd) (B : Bt mg) (c1 : Callee P w K mg base "_law_take" ["_law_source_here", "_law_bound"] 1 spTake) (c2 : Callee P w K mg base "_law_pick" ["_law_source_here", "_law_items"] 2 spPick) : FnOk P w K mg base CX0 3 f fd ["_law_source_here", "_law_most"] spSmall := by
  refine F.ok slSmall (fun vs H Q E h => ?_) (fun cdv A outer s H vs Q E hr h => ?_)
  · obtain ⟨a, rfl, _⟩ := h
    rfl
  · obtain ⟨a, rfl, S, k⟩ := h
    refine ⟨_, pss_cons (ps_par (i := 2) (j := 3) (by rfl) slSmall.nd rfl rfl (by decide) rfl rfl (pa_cons (pe_lst pa_nil) (pa_cons pe_int pa_nil)) (by rfl))
      (pss_cons (ps_for PassesOwn.never rfl (pi_range1 (by rfl) B.range (pa_cons (pe_op op_add pe_int (pe_cal c1 (hr.mono (by decide)) (pa_cons (pv 0) (pa_cons pe_int pa_nil)))) pa_nil)) (pg_name (i := 4) slSmall.nd rfl (.inl rfl))
        (pss_cons (ps_set (i := 5) slSmall.nd rfl (.inl rfl) (pe_cal c2 hr (pa_cons (pv 0) (pa_cons (pe_lst (pa_cons pe_int (pa_cons pe_int (pa_cons pe_int (pa_cons pe_int (pa_cons pe_int pa_nil)))))) pa_nil))))
        (pss_one (ps_if (pt_cmpR op_le (pe_op op_mul (pv 3) (pv 5)) (pv 1) (nomark _))
          (pss_cons (ps_expr (pe_bm PySem.F.plainAttrs_list PySem.F.slot_list_append PySem.F.type_list_append mt_append (pv 2) (pa_cons (pv 5) pa_nil)))
          (pss_one (ps_set (i := 3) slSmall.nd rfl (.inl rfl) (pe_op op_mul (pv 3) (pv 5))))) pss_nil))))
      (pss_one (ps_ret (pv 2)))), ?_⟩
    refine ⟨Nat.zero_le _, fun p hp => ⟨.ref p, .int 1, rfl, ?_⟩⟩
    have npa : p ≠ a := fun z => by obtain ⟨x1, x2, x3, hs⟩ := S; rw [z, hs] at hp; cases hp
    refine q_forRM (a := a) (N := 6) (evm_op2 (x := .int 1) (fun _ _ _ => ev_c) (evm_take (fun _ _ _ => ev_var rfl) (fun _ _ _ => ev_c) (by decide) (by decide)) fun v H1 e1 s1 hv Q' q' => ?_) (by decide) (S.other npa)
      (fun i σ' H' => ∃ (rs : List Int) (x4 x5 : Option V), σ' = [some (.ref a), some (.int 64), some (.ref p), some (.int (prod rs)), x4, x5] ∧ ExS a H H' ∧ SrcH a H' ∧ LI H' p rs ∧ rs.length ≤ i ∧ (∀ x ∈ rs, 2 ≤ x ∧ x ≤ 5) ∧ prod rs ≤ 64)
      (fun H1 e1 s1 => ⟨[], none, none, rfl, (exS (Ex.new hp)).trans e1, s1, e1 _ _ npa upd_same, Nat.le_refl _, fun x hx => by simp at hx, by decide⟩) (fun i σ' H' hi h => ?_) (fun i σ' H' hi h => ?_)
    · obtain ⟨r, rfl, r0, r1⟩ := hv
      exact ⟨1, r, rfl, rfl, q' _ _ (.refl _) s1 ⟨(1 + r).toNat, by rw [Int.toNat_of_nonneg (by omega)], by omega⟩⟩
    · obtain ⟨rs, x4, x5, rfl, eH, s', hP, hl, hb, hm⟩ := h
      refine q_asgM (a := a) (P := fun v _ => ∃ z, v = .int z ∧ 2 ≤ z ∧ z ≤ 5) (evm_w (evm_pick (Pl := fun vs => vs = [.int 2, .int 2, .int 3, .int 4, .int 5]) (fun _ _ _ => ev_var rfl) (fun H1 e1 s1 Q' q' => q' _ H1 (.refl _) s1 rfl) (fun vs h => by rw [h]; exact ⟨by simp, by simp⟩)) fun v _ _ hv => ?_) s' fun v H1 e1 s1 hv => ?_
      · obtain ⟨vs, rfl, hm⟩ := hv
        simp only [List.mem_cons, List.not_mem_nil, or_false] at hm
        rcases hm with rfl | rfl | rfl | rfl | rfl
        · exact ⟨2, rfl, by decide, by decide⟩
        · exact ⟨2, rfl, by decide, by decide⟩
        · exact ⟨3, rfl, by decide, by decide⟩
        · exact ⟨4, rfl, by decide, by decide⟩
        · exact ⟨5, rfl, by decide, by decide⟩
      · obtain ⟨z, rfl, z2, z5⟩ := hv
        have hP1 := e1 _ _ npa hP
        refine s_if (b := decide (prod rs * z ≤ 64)) (et_test (ev_op (ev_mulR (ev_var rfl) (ev_var rfl) (by omega) (by omega)) (ev_var rfl) rv_I0)) (fun hb' H2 e2 => ?_) (fun hb' H2 e2 => ?_)
        · have hle := of_decide_eq_true hb'
          refine q_app (v := .int z) (e2 _ _ hP1) (ev_var rfl) (ev_var rfl) (by rw [List.length_map]; omega) fun H3 e3 => ?_
          refine s_asg (v := .int (prod (rs ++ [z]))) (ev_is (ev_mulR (ev_var rfl) (ev_var rfl) (by omega) (by omega)) (by rw [prod_snoc])) fun H4 e4 => ⟨rs ++ [z], _, _, rfl, ((eH.trans (e1.trans (exS (e2.trans e3)))).mut hp).trans (exS e4), ((s1.up (e2.trans e3)).other npa).up e4, e4 _ _ ?_, ?_, fun x hx => ?_, ?_⟩
          · rw [upd_same, List.map_append]
            rfl
          · rw [List.length_append, List.length_singleton]
            omega
          · rcases List.mem_append.mp hx with hx | hx
            · exact hb x hx
            · rw [List.mem_singleton.mp hx]
              exact ⟨z2, z5⟩
          · rw [prod_snoc]
            exact hle
        · exact ⟨rs, _, _, rfl, eH.trans (e1.trans (exS e2)), s1.up e2, e2 _ _ hP1, by omega, hb, hm⟩
    · obtain ⟨rs, x4, x5, rfl, eH, s', hP, hl, hb, hm⟩ := h
      exact s_ret (ev_var rfl) fun H2 e2 => k _ _ (eH.trans (exS e2)) (s'.up e2) ⟨p, rs, rfl, npa, e2 _ _ hP, ⟨⟨fun x hx => (hb x hx).1, fun x hx => (hb x hx).2, by omega⟩, by omega⟩, by omega, hm⟩
end
end SC

/-! ## ScE5 -/
/-! _law_drawn_plan. -/
namespace SC
open PySem PySem.Spec PyProof.Rows L2 Evl
section
variable {K : PySem.W.Frag} {σ : L2.St} {H : Hp} {te th ta tb : TE} {D : Ends} {tu tz : TS} {a b : Addr}
/-- l[:n], a list just made -/
theorem el_slN {xs : List V} {n : Nat} (h : EvL te σ H xs) (hn : ∀ H1, Ex H H1 → Ev th σ H1 (.int (n : Int))) : EvL (tSl (rSlL K) te tNoPart (tPart th)) σ H (xs.take n) := fun H1 e Q q =>
  h H1 e _ fun l H2 hl e2 h2 => hn H2 (e.trans e2) H2 (Ex.refl _) _ fun H3 e3 => ⟨(n : Int), rfl, l, xs, rfl, .of (e3 _ _ h2), fun p hp => q p _ (fresh_back (e2.trans e3) hp) ((e2.trans e3).trans (Ex.new hp)) (by
    rw [upd_same]
    unfold cutV
    rw [HT.sIx_none, HT.sIx_nat, List.drop_zero, Nat.sub_zero]
    congr 2
    rcases Nat.le_total n xs.length with hh | hh
    · rw [Nat.min_eq_left hh]
    · rw [Nat.min_eq_right hh, List.take_length, List.take_of_length_le hh])⟩
/-- for i, x in enumerate(a list just made) -/
theorem q_forENL {xs : List V} {j l : Nat} (h : EvL te σ H xs) (Pv : Addr → Nat → L2.St → Hp → Prop) (h0 : ∀ p H1, H p = none → Ex H H1 → H1 p = some (.lst xs) → Pv p 0 σ H1) (hl : ∀ p i σ' H', i ≤ xs.length → Pv p i σ' H' → H' p = some (.lst xs))
    (hs : ∀ p i x σ' H', xs[i]? = some x → Pv p i σ' H' → ∀ H2, Ex H' H2 → tu { D with nx := Pv p (i + 1), ct := Pv p (i + 1), bk := tz D } ((σ'.set j (some (.int (i : Nat)))).set l (some x)) H2) (hd : ∀ p σ' H', Pv p xs.length σ' H' → tz D σ' H') :
    tSeq (tFor (iEnum K (tCons te tNil)) (gTup K 2 (gCons (gName j) (gCons (gName l) gNil))) tu) tz D σ H :=
  h H (Ex.refl H) _ fun p H1 hpn e1 hp => ⟨p, xs, rfl, .of hp, for_it (D := { D with nx := tz D }) walk_enum (Pv p) (h0 p H1 hpn e1 hp) (fun i σ' H' hi q => .of (hl p i σ' H' hi q)) (fun i v σ' H' H'' hi q y => by
      obtain ⟨T, x, y, rfl, hT, rfl, hx, hy⟩ := y
      cases hx
      exact ⟨T, [.int (i : Nat), y], rfl, .of upd_same, rfl, _, [y], rfl, y, [], rfl, rfl, hs p i y σ' H' hy q _ (Ex.new hT)⟩) (hd p)⟩
end
theorem arg_tup {σ : L2.St} {H : Hp} {tl : TA} {Q : List V → Hp → Prop} (h : tl σ H (fun xs H1 => xs.length ≤ sizeLine ∧ ∀ p, H1 p = none → Q [.ref p] (upd H1 p (.tup xs)))) : tCons (tTup tl) tNil σ H Q := h
theorem PlH.upS {a q : Addr} {H H' : Hp} {pl : List Row} (h : PlH H q pl) (e : ExS a H H') (s : SrcH a H) (n : q ≠ a) : PlH H' q pl := by
  obtain ⟨ads, h1, h2, h3⟩ := h
  refine ⟨ads, e _ _ n h1, h2, fun i r row hr hrow => e _ _ (fun z => ?_) (h3 i r row hr hrow)⟩
  obtain ⟨x1, x2, x3, hs⟩ := s
  have h4 := h3 i r row hr hrow
  subst z
  have h5 := Eq.trans (Eq.symm h4) hs
  cases h5
theorem PlH.add {q t : Addr} {H : Hp} {pl : List Row} {ads : List Addr} (h1 : H q = some (.lst (ads.map V.ref))) (h2 : ads.length = pl.length) (h3 : ∀ (i : Nat) (r : Addr) (row : Row), ads[i]? = some r → pl[i]? = some row → RowH H r row) (ht : H t = none) (row : Row) :
    PlH (upd (upd H t (.tup [.int row.d, .int row.f, .int row.n])) q (.lst (ads.map V.ref ++ [.ref t]))) q (pl ++ [row]) := by
  have ntq : t ≠ q := fun z => by rw [z, h1] at ht; cases ht
  refine ⟨ads ++ [t], by rw [upd_same, List.map_append]; rfl, by simp [h2], fun i r row' hr hrow => ?_⟩
  by_cases hi : i < ads.length
  · rw [List.getElem?_append_left hi] at hr
    rw [List.getElem?_append_left (by omega)] at hrow
    have h4 := h3 i r row' hr hrow
    have n1 : r ≠ q := fun z => by
      subst z
      have h5 := Eq.trans (Eq.symm h4) h1
      cases h5
    rw [RowH, upd_ne n1, upd_ne (ne_of_none h4 ht)]
    exact h4
  · have hl := (List.getElem?_eq_some_iff.mp hr).1
    rw [List.length_append, List.length_singleton] at hl
    have ei : i = ads.length := by omega
    subst ei
    rw [List.getElem?_concat_length] at hr
    rw [h2, List.getElem?_concat_length] at hrow
    cases hr
    cases hrow
    rw [RowH, upd_ne ntq, upd_same]
def totF (pl : List Row) (k : Nat) : Int := (pl.map fun r => if r.d = (k : Int) + 1 then r.n else 0).sum
theorem totF_snoc (pl : List Row) (r : Row) (k : Nat) : totF (pl ++ [r]) k = totF pl k + if r.d = (k : Int) + 1 then r.n else 0 := by
  unfold totF
  rw [List.map_append, List.sum_append]
  simp
section
variable {P : Program} {w : World} {K : PySem.W.Frag} {mg : Str → Option Value} {base : Heap} {f : Addr} {fd : FuncData}
def PlanP (rs c : List Int) (v : V) (H2 : Hp) : Prop := ∃ (p : Addr) (pl : List Row), v = .ref p ∧ PlH H2 p pl ∧ GoodPlan rs c pl
def spPlan : Sp := fun vs H Q _ => ∃ (a b d : Addr) (rs c : List Int), vs = [.ref a, .ref b, .ref d] ∧ SrcH a H ∧ b ≠ a ∧ LI H b rs ∧ Small rs ∧ rs.length ≤ 6 ∧ TuI H d c ∧ Cnt c ∧ (∀ x ∈ c, x < 1000) ∧ RetM a (PlanP rs c) H Q
theorem slPlan : FnScope ["_law_source_here", "_law_rounds", "_law_crowd_here", "_law_result", "_law_k", "_law_part", "_law_left", "_law_size"] ["_law_source_here", "_law_rounds", "_law_crowd_here"] (defScope lPlan) := ⟨rfl, rfl, rfl, by decide +kernel, rfl, by decide +kernel, by decide +kernel⟩
theorem ok_plan (F : Fun K "_law_drawn_plan" "_law_drawn_plan" lPlan f fd) (B : Bt mg) (c1 : Callee P w K mg base "_law_take" ["_law_source_here", "_law_bound"] 1 spTake) (c2 : Callee P w K mg base "_law_pick" ["_law_source_here", "_law_items"] 2 spPick)
    (c3 : Callee P w K mg base "_law_shuffled" ["_law_source_here", "_law_items"] 2 spShuffled) (c4 : Callee P w K mg base "_law_shares" ["_law_rounds"] 1 spShares) : FnOk P w K mg base CX0 3 f fd ["_law_source_here", "_law_rounds", "_law_crowd_here"] spPlan := by
  refine F.ok slPlan (fun vs H Q E h => ?_) (fun cdv A outer s H vs Q E hr h => ?_)
  · obtain ⟨a, b, d, rs, c, rfl, _⟩ := h
    rfl
  · obtain ⟨a, b, d, rs, c, rfl, S, nba, hb, Sm, hl6, hd, C, hC, k⟩ := h
    refine ⟨_, pss_cons (ps_set (i := 3) slPlan.nd rfl (.inl rfl) (pe_lst pa_nil))
      (pss_cons (ps_for PassesOwn.never rfl (pi_enum (by rfl) B.enum (pa_cons (pe_slice sl_list (pe_cal c4 (hr.mono (by decide)) (pa_cons (pv 1) pa_nil)) po_none (po_some (pe_callB call_len_seq (by rfl) B.len PySem.boot_len (pa_cons (pv 2) pa_nil)))) pa_nil))
          (pg_tup rfl (pgs_cons (pg_name (i := 4) slPlan.nd rfl (.inl rfl)) (pgs_cons (pg_name (i := 5) slPlan.nd rfl (.inl rfl)) pgs_nil)))
        (pss_cons (ps_set (i := 6) slPlan.nd rfl (.inl rfl) (pe_ix ix_tup (pv 2) (pv 4) (fun _ _ => rfl)))
        (pss_one (ps_while PassesOwn.never (pt_cmpR op_gt (pv 6) pe_int (nomark _))
          (pss_cons (ps_set (i := 7) slPlan.nd rfl (.inl rfl) (pe_cal c2 hr (pa_cons (pv 0) (pa_cons (pe_lst (pa_cons (pv 6) (pa_cons pe_int (pa_cons (pe_op op_add pe_int (pe_cal c1 (hr.mono (by decide)) (pa_cons (pv 0) (pa_cons (pv 6) pa_nil)))) pa_nil)))) pa_nil))))
          (pss_cons (ps_expr (pe_bm PySem.F.plainAttrs_list PySem.F.slot_list_append PySem.F.type_list_append mt_append (pv 3) (pa_cons (pe_tup (pa_cons (pe_op op_add (pv 4) pe_int) (pa_cons (pe_cal c1 (hr.mono (by decide)) (pa_cons (pv 0) (pa_cons (pv 5) pa_nil))) (pa_cons (pv 7) pa_nil)))) pa_nil)))
          (pss_one (ps_set (i := 6) slPlan.nd rfl (.inl rfl) (pe_op op_sub (pv 6) (pv 7))))))))))
      (pss_one (ps_ret (pe_cal c3 hr (pa_cons (pv 0) (pa_cons (pv 3) pa_nil)))))), ?_⟩
    have hcl := C.len
    refine q_asgL (el_lst ea_nil (by decide)) fun q H1 hq e1 h1 => ?_
    have nqa : q ≠ a := fun z => by obtain ⟨x1, x2, x3, hs⟩ := S; rw [z, hs] at hq; cases hq
    have nda : d ≠ a := fun z => by obtain ⟨x1, x2, x3, hs⟩ := S; subst z; have h5 := Eq.trans (Eq.symm hd) hs; cases h5
    refine q_forENL (el_slN (n := c.length) (el_call (ea_cons (ev_var rfl) ea_nil) (sp_shares (e1 _ _ hb) Sm.toSched)) (fun H2 e2 => ev_lenTI (ev_var rfl) (e2 _ _ (e1 _ _ hd))))
      (fun p i σ' H' => ∃ (pl : List Row) (x4 x5 x6 x7 : Option V), σ' = [some (.ref a), some (.ref b), some (.ref d), some (.ref q), x4, x5, x6, x7] ∧ p ≠ a ∧ p ≠ q ∧ ExS a H H' ∧ SrcH a H' ∧ H' p = some (.lst (((shares rs).map V.int).take c.length)) ∧ PlH H' q pl ∧
        (∀ r ∈ pl, RowOk rs r) ∧ (∀ k, totF pl k = if k < i then c.getD k 0 else 0) ∧ pl.length ≤ 1000 * i)
      (fun p H2 hp e2 h2 => ⟨[], none, none, none, none, rfl, fun z => ?_, fun z => ?_, exS (e1.trans e2), S.up (e1.trans e2), h2, ⟨[], e2 _ _ h1, rfl, fun i r row h => by simp at h⟩, fun r hr => by simp at hr, fun k => by simp [totF], Nat.zero_le _⟩)
      (fun p i σ' H' _ h => by obtain ⟨_, _, _, _, _, _, _, _, _, _, h, _⟩ := h; exact h) (fun p i x σ' H' hx h H2 e2 => ?_) (fun p σ' H' h => ?_)
    · obtain ⟨x1, x2, x3, hs⟩ := S
      rw [z, e1 _ _ hs] at hp
      cases hp
    · rw [z, h1] at hp
      cases hp
    · obtain ⟨pl, x4, x5, x6, x7, rfl, npa, npq, eH, s', hp, hP, hR, hT, hL⟩ := h
      have eH2 := eH.trans (exS e2)
      have s2 := s'.up e2
      have hp2 := e2 _ _ hp
      have hP2 := hP.up e2
      -- the share's value
      obtain ⟨hi, y, rfl, hy⟩ : i < c.length ∧ ∃ y, x = .int y ∧ (shares rs)[i]? = some y := by
        rw [List.getElem?_take] at hx
        split at hx
        · rename_i hi
          obtain ⟨y, hy, rfl⟩ := get_int hx
          exact ⟨hi, y, rfl, hy⟩
        · cases hx
      have hir : i < rs.length := by
        have := (List.getElem?_eq_some_iff.mp hy).1
        unfold shares at this
        rw [List.length_map, List.length_range] at this
        exact this
      have hye : y = pp rs (i + 1) := by
        unfold shares at hy
        rw [List.getElem?_map, List.getElem?_range hir] at hy
        exact (Option.some.inj hy).symm
      subst hye
      have p0 := pp_pos Sm.two (i + 1)
      have p1 := Sm.pp_lt (i + 1)
      have hci : c[i]? = some c[i] := List.getElem?_eq_getElem hi
      have hcd : c.getD i 0 = c[i] := getD_of hci
      have hc0 := C.pos _ (List.getElem_mem hi)
      have hc1 := hC _ (List.getElem_mem hi)
      generalize c[i] = z at *
      refine q_asg (v := .int z) (ev_op (ev_var rfl) (ev_var rfl) (rv_ixT (.of (eH2 _ _ nda hd)) (at_of (j := i) rfl (by rw [List.getElem?_map, hci]; rfl)))) fun H3 e3 => ?_
      refine s_while (fun m σ' H' => ∃ (pl : List Row) (left : Int) (x7 : Option V), left.toNat = m ∧ 0 ≤ left ∧ left ≤ z ∧ σ' = [some (.ref a), some (.ref b), some (.ref d), some (.ref q), some (.int (i : Nat)), some (.int (pp rs (i + 1))), some (.int left), x7] ∧ ExS a H H' ∧ SrcH a H' ∧
          H' p = some (.lst (((shares rs).map V.int).take c.length)) ∧ PlH H' q pl ∧ (∀ r ∈ pl, RowOk rs r) ∧ (∀ k, totF pl k = if k < i then c.getD k 0 else if k = i then z - left else 0) ∧ (pl.length : Int) + left ≤ 1000 * (i + 1)) z.toNat
        ⟨pl, z, x7, rfl, hc0, Int.le_refl _, rfl, eH2.trans (exS e3), s2.up e3, e3 _ _ hp2, hP2.up e3, hR, fun k => ?_, by omega⟩ (fun m σ' H' h => ?_)
      · rw [hT]
        split
        · rfl
        · split <;> omega
      · obtain ⟨pl, left, x7, rfl, hl0, hlz, rfl, eH, s', hp, hP, hR, hT, hL⟩ := h
        refine ⟨decide (0 < left), et_test (ev_op (ev_var rfl) ev_c rv_I0), fun hb' H4 e4 => ?_, fun hb' H4 e4 => ?_⟩
        · have hleft := of_decide_eq_true hb'
          refine ⟨fun σ2 H5 => ∃ (pl : List Row) (left' : Int) (x7 : Option V), left'.toNat < left.toNat ∧ 0 ≤ left' ∧ left' ≤ z ∧ σ2 = [some (.ref a), some (.ref b), some (.ref d), some (.ref q), some (.int (i : Nat)), some (.int (pp rs (i + 1))), some (.int left'), x7] ∧ ExS a H H5 ∧ SrcH a H5 ∧
            H5 p = some (.lst (((shares rs).map V.int).take c.length)) ∧ PlH H5 q pl ∧ (∀ r ∈ pl, RowOk rs r) ∧ (∀ k, totF pl k = if k < i then c.getD k 0 else if k = i then z - left' else 0) ∧ (pl.length : Int) + left' ≤ 1000 * (i + 1),
            fun σ2 H5 h => let ⟨pl, l', x7, h1, h2⟩ := h; ⟨_, h1, pl, l', x7, rfl, h2⟩, ?_⟩
          refine q_asgM (a := a) (P := fun v _ => ∃ y, v = .int y ∧ 1 ≤ y ∧ y ≤ left) (evm_w (evm_pick (fun _ _ _ => ev_var rfl) (emal_cons (evm_v fun _ _ _ => ev_var rfl) (emal_cons (evm_v fun _ _ _ => ev_c) (emal_cons (Pv := fun v => ∃ y, v = .int y ∧ 1 ≤ y ∧ y ≤ left)
            (evm_op2 (x := .int 1) (fun _ _ _ => ev_c) (evm_take (n := left) (fun _ _ _ => ev_var rfl) (fun _ _ _ => ev_var rfl) hleft (by omega)) fun v H5 e5 s5 hv Q' q' => ?_) emal_nil))) ?_) fun v _ _ hv => ?_) (s'.up e4) fun v H5 e5 s5 hv => ?_
          · obtain ⟨r, rfl, r0, r1⟩ := hv
            exact ⟨1, r, rfl, rfl, q' _ _ (.refl _) s5 ⟨1 + r, rfl, by omega, by omega⟩⟩
          · rintro vs ⟨_, _, rfl, _, _, _, rfl, _, _, _, rfl, _, rfl⟩
            exact ⟨by simp, by simp⟩
          · obtain ⟨vs, ⟨_, _, rfl, rfl, _, _, rfl, rfl, _, _, rfl, ⟨y, rfl, y0, y1⟩, rfl⟩, hm⟩ := hv
            rcases List.mem_cons.mp hm with rfl | hm
            · exact ⟨left, rfl, by omega, by omega⟩
            · rcases List.mem_cons.mp hm with rfl | hm
              · exact ⟨1, rfl, by omega, by omega⟩
              · exact ⟨y, List.mem_singleton.mp hm, y0, y1⟩
          · obtain ⟨size, rfl, y0, y1⟩ := hv
            have eH5 := (eH.trans (exS e4)).trans e5
            have hq5 := (hP.up e4).upS e5 (s'.up e4) nqa
            obtain ⟨ads, g1, g2, g3⟩ := id hq5
            refine ⟨.ref q, rfl, .inl ⟨rfl, _, .of g1⟩, ?_⟩
            have hm : EvML a (tCons (tOp (rI0 fun i j => .int (i + j)) (tVar 4) (tC (.int 1))) (tCons (tCall spTake [] E0 (tCons (tVar 0) (tCons (tVar 5) tNil))) (tCons (tVar 7) tNil))) [some (.ref a), some (.ref b), some (.ref d), some (.ref q), some (.int (i : Nat)), some (.int (pp rs (i + 1))), some (.int left), some (.int size)] H5 _ :=
              emal_cons (evm_v fun _ _ _ => ev_add (ev_var rfl) ev_c) (emal_cons (evm_take (n := pp rs (i + 1)) (fun _ _ _ => ev_var rfl) (fun _ _ _ => ev_var rfl) p0 (by omega)) (emal_cons (evm_v fun _ _ _ => ev_var rfl) emal_nil))
            refine arg_tup (hm H5 (.refl _) s5 _ fun vs H6 e6 s6 hvs => ?_)
            obtain ⟨_, _, rfl, rfl, _, _, rfl, ⟨fr, rfl, f0, f1⟩, _, _, rfl, rfl, rfl⟩ := hvs
            refine ⟨show 3 ≤ sizeLine by decide, fun t ht => ?_⟩
            have hP6 := hq5.upS e6 s5 nqa
            have g1' := e6 _ _ nqa g1
            have ntq : t ≠ q := fun z => by rw [z, g1'] at ht; cases ht
            have nta : t ≠ a := fun z => by obtain ⟨x1, x2, x3, hs⟩ := s6; rw [z, hs] at ht; cases ht
            have g3' : ∀ (i : Nat) (r : Addr) (row : Row), ads[i]? = some r → pl[i]? = some row → RowH H6 r row := fun i r row hr hrow => by
              refine e6 _ _ (fun z => ?_) (g3 i r row hr hrow)
              obtain ⟨x1, x2, x3, hs⟩ := s5
              have h4 := g3 i r row hr hrow
              subst z
              have h5 := Eq.trans (Eq.symm h4) hs
              cases h5
            have hnew := PlH.add g1' g2 g3' ht ⟨(i : Int) + 1, fr, size⟩
            refine ⟨q, ads.map V.ref, .ref t, rfl, rfl, by rw [upd_ne ntq.symm]; exact g1', sz_lt (by rw [List.length_map]; omega), ?_⟩
            have htp : H p = none ∨ True := .inr trivial
            have hp5 := e6 _ _ npa (e5 _ _ npa (e4 _ _ hp))
            have ntp : t ≠ p := fun z => by rw [z, hp5] at ht; cases ht
            refine s_asg (v := .int (left - size)) (ev_sub (ev_var rfl) (ev_var rfl)) fun H7 e7 => ⟨pl ++ [⟨(i : Int) + 1, fr, size⟩], left - size, some (.int size), by omega, by omega, by omega, rfl, ?_, ((s6.other nta).other nqa).up e7, e7 _ _ ?_, hnew.up e7, fun r hr' => ?_, fun k => ?_, ?_⟩
            · exact (((eH5.trans e6).trans (exS (Ex.new ht))).mut hq).trans (exS e7)
            · rw [upd_ne npq, upd_ne ntp.symm]
              exact hp5
            · rcases List.mem_append.mp hr' with hr' | hr'
              · exact hR r hr'
              · rw [List.mem_singleton.mp hr']
                have ei : ((i : Int) + 1).toNat = i + 1 := by omega
                exact ⟨by show 1 ≤ (i : Int) + 1; omega, by show (i : Int) + 1 ≤ rs.length; omega, f0, by show fr < pp rs ((i : Int) + 1).toNat; rw [ei]; exact f1, y0⟩
            · rw [totF_snoc, hT]
              show (_ + if (i : Int) + 1 = (k : Int) + 1 then size else 0) = _
              by_cases hk : k < i
              · rw [if_pos hk, if_pos hk, if_neg (by omega)]
                omega
              · by_cases hk2 : k = i
                · rw [if_neg hk, if_neg hk, if_pos hk2, if_pos hk2, if_pos (by omega)]
                  omega
                · rw [if_neg hk, if_neg hk, if_neg hk2, if_neg hk2, if_neg (by omega)]
                  rfl
            · rw [List.length_append, List.length_singleton]
              omega
        · have hleft := of_decide_eq_false hb'
          have hl0' : left = 0 := by omega
          subst hl0'
          refine ⟨pl, _, _, _, _, rfl, npa, npq, eH.trans (exS e4), s'.up e4, e4 _ _ hp, hP.up e4, hR, fun k => ?_, by omega⟩
          rw [hT]
          by_cases hk : k < i
          · rw [if_pos hk, if_pos (by omega)]
          · by_cases hk2 : k = i
            · rw [if_neg hk, if_pos hk2, if_pos (by omega), hk2, hcd]
              omega
            · rw [if_neg hk, if_neg hk2, if_neg (by omega)]
    · obtain ⟨pl, x4, x5, x6, x7, rfl, npa, npq, eH, s', hp, hP, hR, hT, hL⟩ := h
      have hlen : (((shares rs).map V.int).take c.length).length = min c.length rs.length := by simp [shares]
      rw [hlen] at hT hL
      obtain ⟨ads, g1, g2, g3⟩ := id hP
      have G : GoodPlan rs c pl := ⟨fun r hr' => let R := hR r hr'; ⟨R.d1, R.d2, R.f1, R.f2, R.n1⟩, fun k hk => by
        have := hT k
        unfold totF at this
        rw [this]
        by_cases hkc : k < c.length
        · rw [if_pos (by omega)]
        · rw [if_neg (by omega), List.getD_eq_getElem?_getD, List.getElem?_eq_none (by omega)]
          rfl⟩
      refine s_retM (a := a) (P := PlanP rs c) (evm_w (P1 := fun v H2 => ShufP a (ads.map V.ref) v H2) (evm_call (fun _ _ _ => ea_cons (ev_var rfl) (ea_cons (ev_var rfl) ea_nil)) fun H3 e3 s3 Q' q' E' => ⟨a, q, ads.map V.ref, rfl, s3, nqa, e3 _ _ nqa g1, fun x hx => ?_, by rw [List.length_map]; omega, q'⟩) fun v H3 e3 hv => ?_) s' fun v H3 e3 s3 hv => k v H3 (eH.trans e3) s3 hv
      · obtain ⟨r, hr', rfl⟩ := List.mem_map.mp hx
        obtain ⟨j, hj⟩ := List.getElem?_of_mem hr'
        have hjl := (List.getElem?_eq_some_iff.mp hj).1
        obtain ⟨ads', u1, u2, u3⟩ := hP.upS e3 s' nqa
        have : ads' = ads := by
          have h5 := Eq.trans (Eq.symm u1) (e3 _ _ nqa g1)
          have h6 := HO.lst.inj (Option.some.inj h5)
          exact (List.map_inj_right (f := V.ref) (fun x y h => V.ref.inj h)).mp h6
        subst this
        exact ⟨r, pl[j]'(by omega), rfl, u3 j r _ hj (List.getElem?_eq_getElem (by omega))⟩
      · obtain ⟨p', ys, rfl, _, hp', hperm⟩ := hv
        obtain ⟨pl', hpl, hPl⟩ := (hP.upS e3 s' nqa).perm hp' fun xs hxs => by
          have h5 := Eq.trans (Eq.symm hxs) (e3 _ _ nqa g1)
          have h6 := HO.lst.inj (Option.some.inj h5)
          rw [h6]
          exact hperm
        exact ⟨p', pl', rfl, hPl, G.perm hpl.symm⟩
end
end SC

/-! ## ScE6 -/
/-! _law_all_paths, _law_all_arrivals. -/
namespace SC
open PySem PySem.Spec PyProof.Rows L2 Evl
abbrev lPaths : Stmt := top 68
abbrev lArrivals : Stmt := top 69
/-- new lists, each told by its place -/
structure FndI (H H2 : Hp) (D : Addr) (ads : List Addr) (xs : Nat → List V) : Prop where
  lst : H2 D = some (.lst (ads.map V.ref))
  out : D ∉ ads
  new : H D = none
  news : ∀ a ∈ ads, H a = none
  each : ∀ (i : Nat) (a : Addr), ads[i]? = some a → H2 a = some (.lst (xs i))
theorem evp_lcFi {σ : L2.St} {H : Hp} {te : TE} {wi : TI} {n j : Nat} {vs : List Nat} {f : Nat → V → Prop} {xs : Nat → List V} (hs : Src wi σ H n (fun i H x H' => H' = H ∧ f i x)) (hn : n ≤ 50000) (hw : ∀ x, wipe ((wipe σ vs).set j (some x)) vs = wipe σ vs)
    (he : ∀ i x H1, i < n → f i x → Ex H H1 → EvL te ((wipe σ vs).set j (some x)) H1 (xs i)) : EvP (tLc wi (gName j) tYes te vs) σ H (fun v H2 => ∃ D ads, v = .ref D ∧ ads.length = n ∧ FndI H H2 D ads xs) := fun H1 e Q q =>
  hs.run H1 e _ fun J G H2 e2 w hG D hD => by
    have hDH : H D = none := fresh_back (e.trans e2) hD
    refine lc_it w (fun i H' => Ex H2 H' ∧ ∃ ads : List Addr, ads.length = i ∧ FndI H2 H' D ads xs) ⟨Ex.new hD, ([] : List Addr), rfl, ⟨upd_same, List.not_mem_nil, hD, fun a h => absurd h List.not_mem_nil, fun i a h => by simp at h⟩⟩ (fun i H' _ p => hG H' p.1) (fun i x H' H'' hi p y => ?_) (fun H' p => ?_)
    · obtain ⟨p1, ads, p2, p3⟩ := p
      obtain ⟨rfl, hfx⟩ := y
      refine ⟨hw x, ?_⟩
      dsimp only [tYes]
      rw [if_pos rfl]
      refine he i x H'' hi hfx ((e.trans e2).trans p1) H'' (Ex.refl _) _ fun r H4 hr e4 h4 => ⟨ads.map V.ref, e4 D _ p3.lst, sz_lt (by rw [List.length_map]; omega), ?_, ads ++ [r], by simp [p2], ?_⟩
      · exact Ex.mut (p1.trans e4) hD
      · have rD : r ≠ D := fun z => by rw [z, p3.lst] at hr; cases hr
        refine ⟨by rw [upd_same, List.map_append]; rfl, fun z => ?_, hD, fun a ha => ?_, fun k a ha => ?_⟩
        · rcases List.mem_append.mp z with z | z
          · exact p3.out z
          · exact rD (List.mem_singleton.mp z).symm
        · rcases List.mem_append.mp ha with z | z
          · exact p3.news a z
          · rw [List.mem_singleton.mp z]; exact fresh_back p1 hr
        · by_cases hk : k < ads.length
          · rw [List.getElem?_append_left hk] at ha
            rw [upd_ne (fun z => p3.out (by rw [← z]; exact List.mem_of_getElem? ha))]
            exact e4 _ _ (p3.each k a ha)
          · have hl := (List.getElem?_eq_some_iff.mp ha).1
            rw [List.length_append, List.length_singleton] at hl
            have ek : k = ads.length := by omega
            subst ek
            rw [List.getElem?_concat_length] at ha
            cases ha
            rw [upd_ne rD, p2]
            exact h4
    · obtain ⟨p1, ads, p2, p3⟩ := p
      exact q (.ref D) H' (e2.trans p1) ⟨D, ads, rfl, p2, p3.lst, p3.out, hDH, fun a ha => fresh_back (e.trans e2) (p3.news a ha), p3.each⟩
/-- a list of lists of whole numbers -/
def PathsH (H : Hp) (a : Addr) (ps : List (List Int)) : Prop := ∃ ads : List Addr, H a = some (.lst (ads.map V.ref)) ∧ ads.length = ps.length ∧ ∀ (i : Nat) (r : Addr) (p : List Int), ads[i]? = some r → ps[i]? = some p → LI H r p
theorem PathsH.up {H H' : Hp} {a : Addr} {ps : List (List Int)} (h : PathsH H a ps) (e : Ex H H') : PathsH H' a ps := by
  obtain ⟨ads, h1, h2, h3⟩ := h
  exact ⟨ads, e _ _ h1, h2, fun i r p hr hp => e _ _ (h3 i r p hr hp)⟩
/-- .. that grows -/
def PthG (H : Hp) (D : Addr) (ps : List (List Int)) : Prop := ∃ ads : List Addr, H D = some (.lst (ads.map V.ref)) ∧ ads.length = ps.length ∧ D ∉ ads ∧ ∀ (i : Nat) (r : Addr) (p : List Int), ads[i]? = some r → ps[i]? = some p → LI H r p
theorem PthG.add {H : Hp} {D : Addr} {ps ps2 : List (List Int)} {ads ads2 : List Addr} (h1 : H D = some (.lst (ads.map V.ref))) (h2 : ads.length = ps.length) (h3 : D ∉ ads) (h4 : ∀ (i : Nat) (r : Addr) (p : List Int), ads[i]? = some r → ps[i]? = some p → LI H r p)
    (g2 : ads2.length = ps2.length) (g3 : D ∉ ads2) (g4 : ∀ (i : Nat) (r : Addr) (p : List Int), ads2[i]? = some r → ps2[i]? = some p → LI H r p) : PthG (upd H D (.lst (ads.map V.ref ++ ads2.map V.ref))) D (ps ++ ps2) := by
  refine ⟨ads ++ ads2, by rw [upd_same, List.map_append], by simp [h2, g2], fun z => ?_, fun i r p hr hp => ?_⟩
  · rcases List.mem_append.mp z with z | z
    · exact h3 z
    · exact g3 z
  · by_cases hi : i < ads.length
    · rw [List.getElem?_append_left hi] at hr
      rw [List.getElem?_append_left (by omega)] at hp
      rw [LI, upd_ne (fun z => h3 (by rw [← z]; exact List.mem_of_getElem? hr))]
      exact h4 i r p hr hp
    · rw [List.getElem?_append_right (by omega)] at hr
      rw [List.getElem?_append_right (by omega), ← h2] at hp
      rw [LI, upd_ne (fun z => g3 (by rw [← z]; exact List.mem_of_getElem? hr))]
      exact g4 _ r p hr hp
section
variable {P : Program} {w : World} {K : PySem.W.Frag} {mg : Str → Option Value} {base : Heap} {f : Addr} {fd : FuncData}
theorem s_extP {σ : L2.St} {H : Hp} {ta te : TE} {D : Ends} {l : Addr} {xs : List V} {P : V → Hp → Prop} (hl : H l = some (.lst xs)) (ha : Ev ta σ H (.ref l)) (h : EvP te σ H P)
    (hP : ∀ v H1, Ex H H1 → P v H1 → ∃ (b : Addr) (zs : List V), v = .ref b ∧ H1 b = some (.lst zs) ∧ xs.length + zs.length ≤ 100000 ∧ D.nx σ (upd H1 l (.lst (xs ++ zs)))) : tDrop (tBM K "list" rExtend ta (tCons te tNil)) D σ H := ha H (Ex.refl H) _ fun H1 e1 =>
  ⟨Or.inl ⟨rfl, xs, .of (e1 l _ hl)⟩, h H1 e1 _ fun v H2 e2 hv => by
    obtain ⟨b, zs, rfl, hb, hz, k⟩ := hP v H2 (e1.trans e2) hv
    exact ⟨l, b, xs, zs, rfl, rfl, (e1.trans e2) l _ hl, hb, sz_of hz, k⟩⟩
def PathsP (rs : List Int) (v : V) (H2 : Hp) : Prop := ∃ p, v = .ref p ∧ PathsH H2 p (paths rs)
def spPaths : Sp := fun vs H Q _ => ∃ (a : Addr) (rs : List Int), vs = [.ref a] ∧ LI H a rs ∧ Small rs ∧ RetP (PathsP rs) H Q
theorem sp_paths {H : Hp} {a : Addr} {rs : List Int} (ha : LI H a rs) (S : Small rs) : SpP spPaths [.ref a] H (PathsP rs) := fun H1 e Q k E => ⟨a, rs, rfl, e _ _ ha, S, k⟩
theorem slPaths : FnScope ["_law_rounds", "_law_result", "_law_entry", "_law_longer", "_law_path", "_law_k"] ["_law_rounds"] (defScope lPaths) := ⟨rfl, rfl, rfl, by decide +kernel, rfl, by decide +kernel, by decide +kernel⟩
theorem ok_paths (F : Fun K "_law_all_paths" "_law_all_paths" lPaths f fd) (B : Bt mg) : FnOk P w K mg base CX0 1 f fd ["_law_rounds"] spPaths := by
  refine F.ok slPaths (fun vs H Q E h => ?_) (fun cdv A outer s H vs Q E hr h => ?_)
  · obtain ⟨a, rs, rfl, _⟩ := h
    rfl
  · obtain ⟨a, rs, rfl, ha, S, k⟩ := h
    refine ⟨_, pss_cons (ps_set (i := 1) slPaths.nd rfl (.inl rfl) (pe_lst (pa_cons (pe_lst pa_nil) pa_nil)))
      (pss_cons (ps_for PassesOwn.never rfl (pi_list (pv 0)) (pg_name (i := 2) slPaths.nd rfl (.inl rfl))
        (pss_cons (ps_set (i := 3) slPaths.nd rfl (.inl rfl) (pe_lst pa_nil))
        (pss_cons (ps_for PassesOwn.never rfl (pi_list (pv 1)) (pg_name (i := 4) slPaths.nd rfl (.inr rfl))
          (pss_one (ps_expr (pe_bm PySem.F.plainAttrs_list PySem.F.slot_list_extend PySem.F.type_list_extend mt_extend (pv 3) (pa_cons (pe_lc (own := [("_law_k", 5)]) (g := gName 5) (tt := tYes) rfl slPaths.nd (pi_range1 (by rfl) B.range (pa_cons (pv 2) pa_nil))
            (blkOk_by (N := ["_law_rounds", "_law_result", "_law_entry", "_law_longer", "_law_path", "_law_k"]) (sc := defScope lPaths) (by decide +kernel)) (fun _ _ _ _ _ => pg_name (i := 5) slPaths.nd rfl (.inl rfl)) (fun _ _ _ _ _ => pts_nil)
            (fun _ _ _ _ _ => pe_op op_cat (pv 4) (pe_lst (pa_cons (pv 5) pa_nil)))) pa_nil)))))
        (pss_one (ps_set (i := 1) slPaths.nd rfl (.inl rfl) (pv 3))))))
      (pss_one (ps_ret (pv 1)))), ?_⟩
    have hsl := S.len
    have hps : ∀ i, i ≤ rs.length → ((paths (rs.take i)).length : Int) ≤ 1000 := fun i hi => by rw [paths_len rs S.two i hi]; exact S.pp_lt i
    refine q_asgP (P := fun v H2 => ∃ p, v = .ref p ∧ PathsH H2 p [[]]) (fun H1 e Q' q' => ⟨Nat.zero_le _, fun p hp => ⟨show 1 ≤ sizeLine by decide, fun q hq => q' _ _ ((Ex.new hp).trans (Ex.new hq)) ⟨q, rfl, [p], upd_same, rfl, fun i r x hr hx => ?_⟩⟩⟩) fun v H1 e1 hv => ?_
    · cases i with
      | zero =>
        cases hr
        cases hx
        exact Ex.new hq _ _ upd_same
      | succ i => simp at hr
    · obtain ⟨p1, rfl, hp1⟩ := hv
      refine q_forLn (ev_var rfl) (.of (e1 _ _ ha)) (fun i σ' H' => (∃ (p : Addr) (x2 x3 x4 : Option V), σ' = [some (.ref a), some (.ref p), x2, x3, x4, none] ∧ PathsH H' p (paths (rs.take i))) ∧ Ex H H')
        (fun H2 e2 => ⟨⟨p1, none, none, none, rfl, by rw [List.take_zero]; exact hp1.up e2⟩, e1.trans e2⟩) (fun i σ' H' _ h => .of (h.2 _ _ ha)) (fun i x σ' H' hx h => ?_) (fun σ' H' h => ?_)
      · obtain ⟨⟨p, x2, x3, x4, rfl, hp⟩, e'⟩ := h
        obtain ⟨e, he, rfl⟩ := get_int hx
        have hlt := (List.getElem?_eq_some_iff.mp he).1
        have h2 := S.two e (List.mem_of_getElem? he)
        have h5 := S.five e (List.mem_of_getElem? he)
        have hext : paths (rs.take (i + 1)) = ext e (paths (rs.take i)) := by rw [List.take_add_one, he]; exact paths_snoc _ e
        have hpl := hps i (by omega)
        have hpl2 := hps (i + 1) (by omega)
        rw [hext] at hpl2 ⊢
        have hql : ∀ q ∈ paths (rs.take i), q.length ≤ 100 := fun q hq => by rw [(mem_paths i rs q (by omega) hq).1]; omega
        generalize paths (rs.take i) = ps at *
        refine q_asgL (el_lst ea_nil (by decide)) fun D H2 hD e2 h2' => ?_
        obtain ⟨ads, g1, g2, g3⟩ := hp
        refine q_forLn (ev_var rfl) (.of (e2 _ _ g1)) (fun j σ' H3 => (∃ x4 : Option V, σ' = [some (.ref a), some (.ref p), some (.int e), some (.ref D), x4, none]) ∧ Ex H' H3 ∧ PthG H3 D (ext e (ps.take j)))
          (fun H3 e3 => ⟨⟨x4, rfl⟩, e2.trans e3, [], e3 _ _ h2', rfl, List.not_mem_nil, fun i r q hr => by simp at hr⟩) (fun j σ' H3 _ h => .of (h.2.1 _ _ g1)) (fun j x σ' H3 hx h => ?_) (fun σ' H3 h => ?_)
        · obtain ⟨⟨x4, rfl⟩, e3, ads2, k3, k4, k5, k6⟩ := h
          obtain ⟨r, hr', rfl⟩ := get_ref hx
          have hjl := (List.getElem?_eq_some_iff.mp hr').1
          have hpj : ps[j]? = some ps[j] := List.getElem?_eq_getElem (by omega)
          have hsnoc : ext e (ps.take (j + 1)) = ext e (ps.take j) ++ (List.range e.toNat).map fun k : Nat => ps[j] ++ [(k : Int)] := by
            unfold ext
            rw [List.take_add_one, hpj, List.flatMap_append]
            simp
          have hpath := e3 _ _ (g3 j r _ hr' hpj)
          have hpjl := hql _ (List.getElem_mem (show j < ps.length by omega))
          generalize ps[j] = pj at *
          have elen2 : ((ext e (ps.take j)).length : Int) = (ps.take j).length * e := ext_length e (by omega) _
          have hexl : (ext e (ps.take j)).length ≤ 5000 := by
            have h9 : (ps.take j).length ≤ ps.length := by rw [List.length_take]; omega
            have h8 : ((ps.take j).length : Int) * e ≤ 1000 * 5 := Int.mul_le_mul (by omega) h5 (by omega) (by decide)
            omega
          refine s_extP k3 (ev_var rfl) (evp_lcFi (n := e.toNat) (xs := fun k => (pj ++ [(k : Int)]).map V.int) (src_rng1 (ea_cons (ev_is (ev_var rfl) (by rw [Int.toNat_of_nonneg (by omega)])) ea_nil) (by omega)) (by omega) (fun _ => rfl) (fun k x H4 hk hx e4 => ?_)) fun v H4 e4 hv => ?_
          · subst hx
            rw [List.map_append]
            exact el_cat (isl_v (ev_var rfl) (e4 _ _ hpath)) (isl_l (el_lst (ea_cons (ev_var rfl) ea_nil) (by simp))) (by simp; omega)
          · obtain ⟨D2, ads3, rfl, hl3, F3⟩ := hv
            refine ⟨D2, _, rfl, F3.lst, by rw [List.length_map, List.length_map, hl3]; omega, ⟨_, rfl⟩, Ex.mut (e3.trans e4) hD, ?_⟩
            rw [hsnoc]
            refine PthG.add (e4 _ _ k3) k4 k5 (fun i r q hr hq => e4 _ _ (k6 i r q hr hq)) (by simp [hl3]) (fun z => ?_) (fun i r q hr hq => ?_)
            · rw [F3.news D z] at k3
              cases k3
            · have hil := (List.getElem?_eq_some_iff.mp hr).1
              rw [List.getElem?_map, List.getElem?_range (by omega)] at hq
              cases hq
              exact F3.each i r hr
        · obtain ⟨⟨x4, rfl⟩, e3, ads2, k3, k4, k5, k6⟩ := h
          rw [List.length_map, g2, List.take_length] at k4 k6
          exact s_asg (ev_var rfl) fun H4 e4 => ⟨⟨D, some (.int e), some (.ref D), x4, rfl, ads2, e4 _ _ k3, k4, fun i r q hr hq => e4 _ _ (k6 i r q hr hq)⟩, (e'.trans e3).trans e4⟩
      · obtain ⟨⟨p, x2, x3, x4, rfl, hp⟩, e'⟩ := h
        rw [List.length_map, List.take_length] at hp
        exact s_ret (ev_var rfl) fun H2 e2 => k _ _ (e'.trans e2) ⟨p, rfl, hp.up e2⟩
end
end SC

/-! ## ScE7 -/
/-! _law_all_arrivals. -/
namespace SC
open PySem PySem.Spec PyProof.Rows L2 Evl
section
variable {K : PySem.W.Frag} {σ : L2.St} {H : Hp} {te tl ta tb : TE} {D : Ends} {tu tz : TS} {g : TG} {a b C C2 : Addr} {P Pl P4 : V → Hp → Prop} {vs : List Nat} {x1 x2 x3 : V}
theorem evp_lcN (h : EvP tl σ H Pl) (hh : ∀ v H1, Ex H H1 → Pl v H1 → EvP (tLc (iList K (tC v)) g tYes te vs) σ H1 P) : EvP (tLc (iList K tl) g tYes te vs) σ H P := fun H1 e Q q =>
  h H1 e _ fun v H2 e2 hv => hh v H2 (e.trans e2) hv H2 (Ex.refl _) Q fun w H3 e3 hw => q w H3 (e2.trans e3) hw
theorem evp_call4 {sp : Sp} {E : XK} {t1 t2 t3 t4 : TE} (h1 : ∀ H1, Ex H H1 → Ev t1 σ H1 x1) (h2 : ∀ H1, Ex H H1 → Ev t2 σ H1 x2) (h3 : ∀ H1, Ex H H1 → Ev t3 σ H1 x3) (h4 : ∀ H1, Ex H H1 → EvP t4 σ H1 P4) (hs : ∀ v H1, Ex H H1 → P4 v H1 → SpP sp [x1, x2, x3, v] H1 P) :
    EvP (tCall sp [] E (tCons t1 (tCons t2 (tCons t3 (tCons t4 tNil))))) σ H P := fun H1 e Q q =>
  h1 H1 e H1 (Ex.refl _) _ fun H2 e2 => h2 H2 (e.trans e2) H2 (Ex.refl _) _ fun H3 e3 => h3 H3 ((e.trans e2).trans e3) H3 (Ex.refl _) _ fun H4 e4 => h4 H4 (((e.trans e2).trans e3).trans e4) H4 (Ex.refl _) _ fun v H5 e5 hv =>
    hs v H5 ((((e.trans e2).trans e3).trans e4).trans e5) hv H5 (Ex.refl _) Q (fun w H6 e6 hw => q w H6 ((((e2.trans e3).trans e4).trans e5).trans e6) hw) E
/-- Chooser(path) -/
theorem evp_mkC {ch : List Int} (h : Ev te σ H (.ref a)) (ha : LI H a ch) (h0 : ∀ x ∈ ch, 0 ≤ x) (hl : ch.length ≤ 1000) : EvP (tMake C2 (spCI C2) [] E0 (tCons te tNil)) σ H (fun v H2 => ∃ p, v = .ref p ∧ ChoS C2 H2 p ch) := fun H1 e Q q =>
  h H1 e _ fun H2 e2 x dx hx hdx ne => by
    have e12 := e.trans e2
    have eN : Ex H2 (upd (upd H2 dx (.own x)) x (.ins C2 dx [])) := fun b o hb => by
      rw [upd_ne (ne_of_none hb hx), upd_ne (ne_of_none hb hdx)]
      exact hb
    exact ⟨x, dx, a, ch, rfl, upd_same, eN _ _ (e12 _ _ ha), h0, hl, fun H' hC kp => ⟨rfl, q _ _ (e2.trans fun b o hb => kp b o (eN b o hb) (ne_of_none hb hx)) ⟨x, rfl, hC⟩⟩⟩
end
section
variable {P : Program} {w : World} {K : PySem.W.Frag} {mg : Str → Option Value} {base : Heap} {f : Addr} {fd : FuncData} {C C2 : Addr}
theorem PlayP.up {n : Int} {v : V} {H H2 : Hp} (e : Ex H H2) (h : PlayP n v H) : PlayP n v H2 := by
  obtain ⟨t, x, y, rfl, h⟩ := h
  exact ⟨t, x, y, rfl, e _ _ h⟩
def ArrP (rs : List Int) (st : Strat) (v : V) (H2 : Hp) : Prop := ∃ p, v = .ref p ∧ LI H2 p ((paths rs).map (arr st))
def spArr (C : Addr) : Sp := fun vs H Q _ => ∃ (a b s : Addr) (rs c : List Int) (st : Strat), vs = [.ref a, .ref b, .ref s] ∧ LI H a rs ∧ Small rs ∧ TuI H b c ∧ Cnt c ∧ SplS C H s rs c st ∧ RetP (ArrP rs st) H Q
theorem sp_arr {H : Hp} {a b s : Addr} {rs c : List Int} {st : Strat} (ha : LI H a rs) (S : Small rs) (hb : TuI H b c) (Cc : Cnt c) (hs : SplS C H s rs c st) : SpP (spArr C) [.ref a, .ref b, .ref s] H (ArrP rs st) := fun H1 e Q k E => ⟨a, b, s, rs, c, st, rfl, e _ _ ha, S, e _ _ hb, Cc, hs.up e, k⟩
theorem slArr : FnScope ["_law_rounds", "_law_crowd_here", "_law_splitter", "_law_path"] ["_law_rounds", "_law_crowd_here", "_law_splitter"] (defScope lArrivals) := ⟨rfl, rfl, rfl, by decide +kernel, rfl, by decide +kernel, by decide +kernel⟩
theorem ok_arr (F : Fun K "_law_all_arrivals" "_law_all_arrivals" lArrivals f fd) (T2 : ClT K mg "Chooser" C2) (c1 : Callee P w K mg base "_law_all_paths" ["_law_rounds"] 1 spPaths) (c2 : Callee P w K mg base "play" ["schedule", "counts", "splitter", "chooser"] 7 (spPlay C C2))
    (mk : MkCal P w K mg base C2 ["self", "strategy"] 3 (spCI C2)) : FnOk P w K mg base CX0 8 f fd ["_law_rounds", "_law_crowd_here", "_law_splitter"] (spArr C) := by
  refine F.ok slArr (fun vs H Q E h => ?_) (fun cdv A outer s H vs Q E hr h => ?_)
  · obtain ⟨a, b, s, rs, c, st, rfl, _⟩ := h
    rfl
  · obtain ⟨a, b, s, rs, c, st, rfl, ha, S, hb, Cc, hs, k⟩ := h
    refine ⟨_, pss_one (ps_ret (pe_lc (own := [("_law_path", 3)]) (g := gName 3) (tt := tYes) rfl slArr.nd (pi_list (pe_cal c1 (hr.mono (by decide)) (pa_cons (pv 0) pa_nil))) (blkOk_by (N := ["_law_rounds", "_law_crowd_here", "_law_splitter", "_law_path"]) (sc := defScope lArrivals) (by decide +kernel))
      (fun _ _ _ _ _ => pg_name (i := 3) slArr.nd rfl (.inl rfl)) (fun _ _ _ _ _ => pts_nil)
      (fun _ _ _ _ _ => pe_ix (ix_tupK K) (pe_cal c2 hr (pa_cons (pv 0) (pa_cons (pv 1) (pa_cons (pv 2) (pa_cons (pe_mk mk (hr.mono (by decide)) T2.mgC (pa_cons (pv 3) pa_nil)) pa_nil))))) pe_int (fun _ _ => rfl)))), ?_⟩
    have hsl := S.len
    have hpl : ((paths rs).length : Int) ≤ 1000 := by rw [paths_length rs S.two]; exact S.most
    refine s_retP (P := ArrP rs st) (evp_lcN (evp_call (ea_cons (ev_var rfl) ea_nil) (sp_paths ha S)) fun v H1 e1 hv => ?_) k
    obtain ⟨p, rfl, ads, h1, h2, h3⟩ := hv
    refine evp_w (evl_lc (n := (ads.map V.ref).length) (fun i => .int (arr st ((paths rs).getD i []))) (src_list ev_c h1) (by rw [List.length_map]; omega) (fun _ => rfl) (fun i x H2 hi hx e2 => ?_)) fun v H2 hv => ?_
    · obtain ⟨r, hr', rfl⟩ := get_ref hx
      have hil := (List.getElem?_eq_some_iff.mp hr').1
      have hp : (paths rs)[i]? = some (paths rs)[i] := List.getElem?_eq_getElem (by omega)
      have hmem : (paths rs)[i] ∈ paths rs := List.getElem_mem (by omega)
      rw [getD_of hp]
      have hpath := e2 _ _ (h3 i r _ hr' hp)
      obtain ⟨hm1, hm2⟩ := mem_paths rs.length rs (paths rs)[i] (Nat.le_refl _) (by rw [List.take_length]; exact hmem)
      generalize (paths rs)[i] = ch at *
      have e12 := e1.trans e2
      refine ev_opP1 (P := PlayP (arr st ch)) (evp_call4 (P4 := fun v H2 => ∃ p, v = .ref p ∧ ChoS C2 H2 p ch) (fun _ _ => ev_var rfl) (fun _ _ => ev_var rfl) (fun _ _ => ev_var rfl) (fun H3 e3 => evp_mkC (ev_var rfl) (e3 _ _ hpath) (fun x hx => ?_) (by omega)) fun v H3 e3 hv => ?_) (fun _ _ => ev_c) (fun v H3 e3 hv => ?_) (fun v H3 H4 e h => h.up e)
      · obtain ⟨j, hj⟩ := List.getElem?_of_mem hx
        have hjl := (List.getElem?_eq_some_iff.mp hj).1
        exact (hm2.2 j x _ hj (List.getElem?_eq_getElem (show j < rs.length by omega))).1
      · obtain ⟨p', rfl, hC⟩ := hv
        exact sp_play (e3 _ _ (e12 _ _ ha)) S (e3 _ _ (e12 _ _ hb)) Cc (hs.up (e12.trans e3)) hC hm2 hm1
      · obtain ⟨t, x, y, rfl, ht⟩ := hv
        exact rv_ixT (.of ht) (at_of (j := 2) rfl rfl)
    · obtain ⟨L, rfl, hL⟩ := hv
      refine ⟨L, rfl, ?_⟩
      rw [LI, hL, map_int, List.length_map, h2]
      congr 3
      conv => rhs; rw [← range_getL (paths rs)]
      rw [List.map_map]
      rfl
end
end SC

/-! ## ScE8 -/
/-! law. -/
namespace SC
open PySem PySem.Spec PyProof.Rows L2 Evl
abbrev lLaw : Stmt := top 70
/-- what a name means -/
inductive Nm (rs c : List Int) (H : Hp) : V → Strat → Prop
  | bal : Nm rs c H (.str "balanced") (stF bal rs c)
  | even : Nm rs c H (.str "even") (stF even rs c)
  | tog : Nm rs c H (.str "together") (stF joint rs c)
  | plan {l : Addr} {pl : List Row} (hl : PlH H l pl) (G : GoodPlan rs c pl) : Nm rs c H (.ref l) (stP rs c pl)
theorem Nm.up {rs c : List Int} {H H' : Hp} {x : V} {st : Strat} (n : Nm rs c H x st) (e : Ex H H') : Nm rs c H' x st := by
  cases n with
  | bal => exact .bal
  | even => exact .even
  | tog => exact .tog
  | plan hl G => exact .plan (hl.up e) G
theorem Nm.valid {rs c : List Int} {H : Hp} {x : V} {st : Strat} (n : Nm rs c H x st) (hq : ∀ x ∈ rs, 2 ≤ x) (hc : ∀ x ∈ c, 0 ≤ x) : Valid rs c st := by
  cases n with
  | bal => exact stF_valid bal_splits hq hc
  | even => exact stF_valid even_splits hq hc
  | tog => exact stF_valid joint_splits hq hc
  | plan hl G => exact stP_valid hq hc G
theorem PlH.rows {H : Hp} {a : Addr} {pl : List Row} (h : PlH H a pl) : ∃ xs, H a = some (.lst xs) ∧ RowsV H xs := by
  obtain ⟨ads, h1, h2, h3⟩ := h
  refine ⟨_, h1, fun x hx => ?_⟩
  obtain ⟨r, hr, rfl⟩ := List.mem_map.mp hx
  obtain ⟨j, hj⟩ := List.getElem?_of_mem hr
  have hjl := (List.getElem?_eq_some_iff.mp hj).1
  exact ⟨r, pl[j]'(by omega), rfl, h3 j r _ hj (List.getElem?_eq_getElem (by omega))⟩
section
variable {K : PySem.W.Frag} {σ : L2.St} {H : Hp} {te tl ta tb tp : TE} {D : Ends} {tu tz : TS} {a b C : Addr} {P P4 : V → Hp → Prop} {x x1 x2 x3 : V} {rs c l : List Int} {st : Strat}
/-- Splitter(name) -/
theorem evp_mkS (h : Ev te σ H x) (N : Nm rs c H x st) : EvP (tMake C (spSI C) [] E0 (tCons te tNil)) σ H (fun v H2 => ∃ p, v = .ref p ∧ SplS C H2 p rs c st) := fun H1 e Q q =>
  h H1 e _ fun H2 e2 p dx hx hdx ne => by
    have e12 := e.trans e2
    have eN : Ex H2 (upd (upd H2 dx (.own p)) p (.ins C dx [])) := fun b o hb => by
      rw [upd_ne (ne_of_none hb hx), upd_ne (ne_of_none hb hdx)]
      exact hb
    have kex : ∀ H', (∀ b o, (upd (upd H2 dx (.own p)) p (.ins C dx [])) b = some o → b ≠ p → H' b = some o) → Ex H2 H' := fun H' kp b o hb => kp b o (eN b o hb) (ne_of_none hb hx)
    have word : ∀ z : Str, inV (.str z) [.str "balanced", .str "even", .str "together"] = true → (∀ H', InsH C H' p (.str z) → SplS C H' p rs c st) → x = .str z → spSI C (.ref p :: ([x] ++ [])) (upd (upd H2 dx (.own p)) p (.ins C dx [])) (fun v H3 => v = .non ∧ Q (.ref p) H3) E0 := fun z hz hs ex => by
      subst ex
      refine ⟨p, dx, .str z, rfl, upd_same, .inl ⟨z, rfl, hz⟩, fun v H' hI hS kp => ⟨rfl, q _ _ (e2.trans (kex H' kp)) ⟨p, rfl, hs H' ?_⟩⟩⟩
      rcases hS with ⟨y, hy, rfl⟩ | ⟨a, l, xs, hy, _⟩
      · cases hy
        exact hI
      · cases hy
    cases N with
    | bal => exact word _ (by decide +kernel) (fun H' h => .bal h) rfl
    | even => exact word _ (by decide +kernel) (fun H' h => .even h) rfl
    | tog => exact word _ (by decide +kernel) (fun H' h => .tog h) rfl
    | @plan l pl hl G =>
      obtain ⟨ads, h1, h2, h3⟩ := hl
      refine ⟨p, dx, .ref l, rfl, upd_same, .inr ⟨l, _, rfl, eN _ _ (e12 _ _ h1)⟩, fun v H' hI hS kp => ⟨rfl, q _ _ (e2.trans (kex H' kp)) ⟨p, rfl, ?_⟩⟩⟩
      rcases hS with ⟨y, hy, _⟩ | ⟨a, l', xs, hy, ha, rfl, hl'⟩
      · cases hy
      · cases hy
        have h5 := Eq.trans (Eq.symm ha) (eN _ _ (e12 _ _ h1))
        have h6 := HO.lst.inj (Option.some.inj h5)
        subst h6
        exact .plan hI ⟨ads, hl', h2, fun i r row hr hrow => kex H' kp _ _ (e12 _ _ (h3 i r row hr hrow))⟩ G
theorem evp_call3 {sp : Sp} {E : XK} {t1 t2 t4 : TE} (h1 : ∀ H1, Ex H H1 → Ev t1 σ H1 x1) (h2 : ∀ H1, Ex H H1 → Ev t2 σ H1 x2) (h4 : ∀ H1, Ex H H1 → EvP t4 σ H1 P4) (hs : ∀ v H1, Ex H H1 → P4 v H1 → SpP sp [x1, x2, v] H1 P) :
    EvP (tCall sp [] E (tCons t1 (tCons t2 (tCons t4 tNil)))) σ H P := fun H1 e Q q =>
  h1 H1 e H1 (Ex.refl _) _ fun H2 e2 => h2 H2 (e.trans e2) H2 (Ex.refl _) _ fun H4 e4 => h4 H4 ((e.trans e2).trans e4) H4 (Ex.refl _) _ fun v H5 e5 hv =>
    hs v H5 (((e.trans e2).trans e4).trans e5) hv H5 (Ex.refl _) Q (fun w H6 e6 hw => q w H6 (((e2.trans e4).trans e5).trans e6) hw) E
theorem rc_sum {t : Addr} (h : LI H t l) : RC (rSum K) [.ref t] H (.int l.sum) := fun H1 e Q q => ⟨t, l, rfl, .of (e _ _ h), q H1 (Ex.refl _)⟩
theorem evp_minW {i j : Nat} {t : Addr} {W : Int} (hi : σ[i]? = some (some (.ref t))) (hj : σ[j]? = some (some (.int W))) (h : LI H t l) (h0 : 0 < l.length) (w0 : 0 ≤ W) (w1 : W ≤ 1000) : EvP (tOp (rI CMul fun i j => .int (i * j)) (tCB (rMin K) (tCons (tVar i) tNil)) (tVar j)) σ H (fun v _ => ∃ m, v = .int (m * W) ∧ ∀ y ∈ l, m ≤ y) := fun H1 e Q q =>
  ⟨.ref t, hi, t, l, rfl, .of (e _ _ h), h0, fun m _ hm => ⟨.int W, hj, m, W, rfl, rfl, .inr ⟨by omega, by omega⟩, q _ H1 (Ex.refl _) ⟨m, rfl, hm⟩⟩⟩
theorem evp_maxW {i j : Nat} {t : Addr} {W : Int} (hi : σ[i]? = some (some (.ref t))) (hj : σ[j]? = some (some (.int W))) (h : LI H t l) (h0 : 0 < l.length) (w0 : 0 ≤ W) (w1 : W ≤ 1000) : EvP (tOp (rI CMul fun i j => .int (i * j)) (tCB (rMax K) (tCons (tVar i) tNil)) (tVar j)) σ H (fun v _ => ∃ m, v = .int (m * W) ∧ ∀ y ∈ l, y ≤ m) := fun H1 e Q q =>
  ⟨.ref t, hi, t, l, rfl, .of (e _ _ h), h0, fun m _ hm => ⟨.int W, hj, m, W, rfl, rfl, .inr ⟨by omega, by omega⟩, q _ H1 (Ex.refl _) ⟨m, rfl, hm⟩⟩⟩
theorem evp_sortedI {i : Nat} {t : Addr} (hi : σ[i]? = some (some (.ref t))) (h : LI H t l) : EvP (tCB (rSortedI K) (tCons (tVar i) tNil)) σ H (fun v H2 => ∃ (p : Addr) (s : List Int), v = .ref p ∧ LI H2 p s ∧ s.Perm l ∧ s.Pairwise (· ≤ ·)) := fun H1 e Q q =>
  ⟨.ref t, hi, t, l, rfl, .of (e _ _ h), fun s p hp hs hn => q _ _ (Ex.new hn) ⟨p, s, rfl, upd_same, hp, hs⟩⟩
theorem Nm.test (N : Nm rs c H x st) : ∃ b : Bool, RV (rEqD K) x (.str "balanced") H (.bl b) ∧ (b = true → st = stF SC.bal rs c) := by
  have word : ∀ z : Str, SeqAt.shaped (.str z) = true → RV (rEqD K) (.str z) (.str "balanced") H (.bl (z == "balanced")) := fun z hz H1 e Q q => ⟨.str z, .str "balanced", .str z, .str _, hz, by decide +kernel, q H1 (Ex.refl _)⟩
  cases N with
  | bal => exact ⟨_, word _ (by decide +kernel), fun _ => rfl⟩
  | even => exact ⟨_, word _ (by decide +kernel), fun h => absurd h (by decide +kernel)⟩
  | tog => exact ⟨_, word _ (by decide +kernel), fun h => absurd h (by decide +kernel)⟩
  | @plan l pl hl G =>
    refine ⟨false, fun H1 e Q q => ?_, fun h => nomatch h⟩
    obtain ⟨xs, h1, h2⟩ := (hl.up e).rows
    obtain ⟨ds, g1, g2, g3, g4⟩ := dp_rows (K := K) h2
    refine ⟨.list ds, .str "balanced", .lst (.of h1) g1, .str _, ?_, by decide +kernel, q H1 (Ex.refl _)⟩
    unfold SeqAt.shaped
    rw [Bool.and_eq_true]
    refine ⟨g2, decide_eq_true ?_⟩
    show PyData.depthAll ds + 1 ≤ 64
    omega
/-- for n in [x1, x2, x3, e], e draws -/
theorem s_forNames {j : Nat} (h : EvM a tp σ H P) (s : SrcH a H) (Pv : V → Addr → Nat → L2.St → Hp → Prop) (h0 : ∀ v p H1 H2, ExS a H H1 → P v H1 → Ex H1 H2 → H2 p = some (.lst [x1, x2, x3, v]) → Pv v p 0 σ H2)
    (hl : ∀ v p i σ' H', Pv v p i σ' H' → H' p = some (.lst [x1, x2, x3, v])) (hs : ∀ v p i x σ' H', [x1, x2, x3, v][i]? = some x → Pv v p i σ' H' → tu { D with nx := Pv v p (i + 1), ct := Pv v p (i + 1), bk := D.nx } (σ'.set j (some x)) H')
    (hd : ∀ v p σ' H', Pv v p 4 σ' H' → D.nx σ' H') : tFor (iList K (tLst (tCons (tC x1) (tCons (tC x2) (tCons (tC x3) (tCons tp tNil)))))) (gName j) tu D σ H :=
  h H (.refl _) s _ fun v H1 e1 s1 hv => ⟨show 4 ≤ sizeLine by decide, fun p hp => ⟨p, rfl, ⟨[x1, x2, x3, v], .of upd_same⟩, for_list (K := K) (a := p) (xs := [x1, x2, x3, v]) (Pv v p) (h0 v p H1 _ e1 hv (Ex.new hp) upd_same) (fun i σ' H' _ q => .of (hl v p i σ' H' q)) (fun i x σ' H' hx q => hs v p i x σ' H' hx q) (hd v p)⟩⟩
end
theorem q_source {σ : L2.St} {H : Hp} {te : TE} {tz : TS} {D : Ends} {i : Nat} {c : Int} (h : Ev te σ H (.int c)) (k : ∀ p H1, H p = none → Ex H H1 → SrcH p H1 → tz D (σ.set i (some (.ref p))) H1) : tSeq (tAsg (tCall spSource [] E0 (tCons te tNil)) (gName i)) tz D σ H :=
  h H (Ex.refl H) _ fun H1 e1 => ⟨c, rfl, fun p H2 hp e2 s => k p H2 (fresh_back e1 hp) (e1.trans e2) s⟩
theorem cut_ints {ns : List Int} {lo hi : Option Int} : ∀ x ∈ cutV (ns.map V.int) lo hi, ∃ z, x = .int z ∧ True := fun x hx => by
  unfold cutV at hx
  obtain ⟨z, _, rfl⟩ := List.mem_map.mp (List.mem_of_mem_drop (List.mem_of_mem_take hx))
  exact ⟨z, rfl, trivial⟩
section
variable {P : Program} {w : World} {K : PySem.W.Frag} {mg : Str → Option Value} {base : Heap} {f : Addr} {fd : FuncData} {C : Addr}
def spLaw (K : PySem.W.Frag) : Sp := fun vs H Q _ => ∃ (a : Addr) (ns : List Int), vs = [.ref a] ∧ SqL K H a (ns.map V.int) ∧ ns.length ≤ 63 ∧ ∀ H', Q (.bl true) H'
theorem slLaw : FnScope ["_law_script", "_law_cell", "_law_source_here", "_law_rounds", "_law_crowd_here", "_law_total", "_law_whole", "_law_name", "_law_told", "_law_low", "_law_more", "_law_due"] ["_law_script"] (defScope lLaw) := ⟨rfl, rfl, rfl, by decide +kernel, rfl, by decide +kernel, by decide +kernel⟩
theorem ok_law (F : Fun K "law" "law" lLaw f fd) (B : Bt mg) (T : ClT K mg "Splitter" C) (c1 : Callee P w K mg base "_law_cell_at" ["_law_script", "_law_k"] 1 (spCellAt K)) (c2 : Callee P w K mg base "_law_source" ["_law_cell"] 1 spSource)
    (c3 : Callee P w K mg base "_law_small_rounds" ["_law_source_here", "_law_most"] 3 spSmall) (c4 : Callee P w K mg base "_law_crowd" ["_law_source_here", "_law_length", "_law_wide"] 3 spCrowd) (c5 : Callee P w K mg base "_law_scaled" ["_law_rounds", "_law_crowd_here"] 2 spScaled)
    (c6 : Callee P w K mg base "_law_drawn_plan" ["_law_source_here", "_law_rounds", "_law_crowd_here"] 3 spPlan) (c7 : Callee P w K mg base "_law_all_arrivals" ["_law_rounds", "_law_crowd_here", "_law_splitter"] 8 (spArr C)) (mk : MkCal P w K mg base C ["self", "strategy"] 2 (spSI C)) :
    FnOk P w K mg base CX0 9 f fd ["_law_script"] (spLaw K) := by
  refine F.ok slLaw (fun vs H Q E h => ?_) (fun cdv A outer s H vs Q E hr h => ?_)
  · obtain ⟨a, ns, rfl, _⟩ := h
    rfl
  · obtain ⟨a, ns, rfl, ha, hn, k⟩ := h
    refine ⟨_, pss_cons (ps_for PassesOwn.never rfl (pi_list (pe_op op_cat (pe_lst (pa_cons (pe_cal c1 (hr.mono (by decide)) (pa_cons (pv 0) (pa_cons pe_int pa_nil))) pa_nil)) (pe_slice sl_list (pv 0) (po_some pe_int) (po_some pe_int)))) (pg_name (i := 1) slLaw.nd rfl (.inl rfl))
        (pss_cons (ps_set (i := 2) slLaw.nd rfl (.inl rfl) (pe_cal c2 (hr.mono (by decide)) (pa_cons (pv 1) pa_nil)))
        (pss_cons (ps_set (i := 3) slLaw.nd rfl (.inl rfl) (pe_cal c3 (hr.mono (by decide)) (pa_cons (pv 2) (pa_cons pe_int pa_nil))))
        (pss_cons (ps_set (i := 4) slLaw.nd rfl (.inl rfl) (pe_cal c4 (hr.mono (by decide)) (pa_cons (pv 2) (pa_cons (pe_op op_add (pe_callB call_len_seq (by rfl) B.len PySem.boot_len (pa_cons (pv 3) pa_nil)) pe_int) (pa_cons pe_int pa_nil)))))
        (pss_cons (ps_asg (pe_cal c5 (hr.mono (by decide)) (pa_cons (pv 3) (pa_cons (pv 4) pa_nil))) (pg_tup rfl (pgs_cons (pg_name (i := 5) slLaw.nd rfl (.inl rfl)) (pgs_cons (pg_name (i := 6) slLaw.nd rfl (.inl rfl)) pgs_nil))))
        (pss_one (ps_for PassesOwn.never rfl (pi_list (pe_lst (pa_cons pe_str (pa_cons pe_str (pa_cons pe_str (pa_cons (pe_cal c6 (hr.mono (by decide)) (pa_cons (pv 2) (pa_cons (pv 3) (pa_cons (pv 4) pa_nil)))) pa_nil)))))) (pg_name (i := 7) slLaw.nd rfl (.inl rfl))
          (pss_cons (ps_set (i := 8) slLaw.nd rfl (.inl rfl) (pe_cal c7 hr (pa_cons (pv 3) (pa_cons (pv 4) (pa_cons (pe_mk mk (hr.mono (by decide)) T.mgC (pa_cons (pv 7) pa_nil)) pa_nil)))))
          (pss_cons (ps_if (PW.pt (pw_or (pt_cmpR op_ne (pe_callB call_len_seq (by rfl) B.len PySem.boot_len (pa_cons (pv 8) pa_nil)) (pv 6) (nomark _)) (pw_or1 (pt_cmpR op_ne (pe_callB (cr_sum rfl) (by rfl) B.sum (by decide +kernel) (pa_cons (pv 8) pa_nil)) (pv 5) (nomark _))))) (pss_one ps_never) pss_nil)
          (pss_cons (ps_if (PW.pt (pw_or (pt_cmpR op_gt (pe_op op_mul (pe_callB (cr_min rfl) (by rfl) B.min (by decide +kernel) (pa_cons (pv 8) pa_nil)) (pv 6)) (pv 5) (nomark _)) (pw_or1 (pt_cmpR op_lt (pe_op op_mul (pe_callB (cr_max rfl) (by rfl) B.max (by decide +kernel) (pa_cons (pv 8) pa_nil)) (pv 6)) (pv 5) (nomark _))))) (pss_one ps_never) pss_nil)
          (pss_one (ps_if (pt_cmpR (op_eqD hr.units) (pv 7) pe_str (nomark _))
            (pss_cons (ps_par (i := 9) (j := 10) (by rfl) slLaw.nd rfl rfl (by decide) rfl rfl (pa_cons (pe_op op_fdiv (pv 5) (pv 6)) (pa_cons (pe_op op_mod (pv 5) (pv 6)) pa_nil)) (by rfl))
            (pss_cons (ps_set (i := 11) slLaw.nd rfl (.inl rfl) (pe_op op_cat (pe_op op_rep (pe_lst (pa_cons (pv 9) pa_nil)) (pe_op op_sub (pv 6) (pv 10))) (pe_op op_rep (pe_lst (pa_cons (pe_op op_add (pv 9) pe_int) pa_nil)) (pv 10))))
            (pss_one (ps_if (pt_cmpR (op_neD hr.units) (pe_callB cr_sortedI (by rfl) B.sorted (by decide +kernel) (pa_cons (pv 8) pa_nil)) (pv 11) (nomark _)) (pss_one ps_never) pss_nil)))) pss_nil))))))))))))
      (pss_one (ps_ret pe_bl)), ?_⟩
    have hcut : (cutV (ns.map V.int) (some 1) (some 3)).length ≤ ns.length := by
      unfold cutV
      rw [List.length_take, List.length_drop, List.length_map]
      omega
    refine q_forNLn (xs := [V.int (ns.getD 0 0)] ++ cutV (ns.map V.int) (some 1) (some 3)) (el_cat (isl_l (el_lst (ea_cons (ev_call (ea_cons (ev_var rfl) (ea_cons ev_c ea_nil)) (sp_cellAt 0 ha)) ea_nil) (by simp))) (isl_l (el_sl (ev_var rfl) (eo_some ev_c) (eo_some ev_c) ha)) (by rw [List.length_singleton]; omega))
      (fun p i σ' H' => (∃ x1 x2 x3 x4 x5 x6 x7 x8 x9 x10 x11 : Option V, σ' = [some (.ref a), x1, x2, x3, x4, x5, x6, x7, x8, x9, x10, x11]) ∧ Ex H H' ∧ H' p = some (.lst ([V.int (ns.getD 0 0)] ++ cutV (ns.map V.int) (some 1) (some 3))))
      (fun p H1 _ e1 h1 => ⟨⟨none, none, none, none, none, none, none, none, none, none, none, rfl⟩, e1, h1⟩) (fun p i σ' H' _ h => .of h.2.2) (fun p i x σ' H' hx h => ?_) (fun p σ' H' h => ?_)
    · obtain ⟨⟨x1, x2, x3, x4, x5, x6, x7, x8, x9, x10, x11, rfl⟩, e', hp⟩ := h
      obtain ⟨z, rfl⟩ : ∃ z, x = .int z := by
        rcases List.mem_append.mp (List.mem_of_getElem? hx) with hm | hm
        · exact ⟨_, List.mem_singleton.mp hm⟩
        · obtain ⟨z, rfl, _⟩ := cut_ints x hm
          exact ⟨z, rfl⟩
      refine q_source (c := z) (ev_var rfl) fun sp H1 hsp e1 s1 => ?_
      refine q_asgM (a := sp) (evm_call (fun _ _ _ => ea_cons (ev_var rfl) (ea_cons ev_c ea_nil)) sp_small) s1 fun v H2 e2 s2 hv => ?_
      obtain ⟨b, rs, rfl, nb, hb, S, hl6, h64⟩ := hv
      refine q_asgM (a := sp) (P := CrowdP (rs.length + 1) 20) (evm_call (vs := [.ref sp, .int ((rs.length + 1 : Nat) : Int), .int 20]) (fun H3 e3 s3 => ea_cons (ev_var rfl) (ea_cons (ev_is (ev_add (ev_lenI (ev_var rfl) (e3 _ _ nb hb)) ev_c) (by congr 1)) (ea_cons ev_c ea_nil))) fun H3 e3 s3 Q' q' E' => ⟨sp, rs.length + 1, 20, rfl, s3, by omega, by decide, by decide, q'⟩) s2 fun v H3 e3 s3 hv => ?_
      obtain ⟨d, c, rfl, hd, hcl, hc⟩ := hv
      have Cc : Cnt c := ⟨fun x hx => (hc x hx).1, by omega⟩
      have hb3 := e3 _ _ nb hb
      have nd : d ≠ sp := fun z => by
        obtain ⟨y1, y2, y3, hs⟩ := s3
        subst z
        have h5 := Eq.trans (Eq.symm hd) hs
        cases h5
      refine q_unp2P (evp_call (ea_cons (ev_var rfl) (ea_cons (ev_var rfl) ea_nil)) (sp_scaled hb3 S hd Cc)) fun v H4 e4 hv => ?_
      obtain ⟨t4, rfl, ht4⟩ := hv
      refine ⟨t4, _, _, rfl, ht4, ?_⟩
      have eS : ExS sp H' H4 := (((exS e1).trans e2).trans e3).trans (exS e4)
      have hprod : 0 < prod rs := prod_pos S.two
      have hplen := paths_length rs S.two
      refine s_forNames (a := sp) (P := PlanP rs c) (evm_call (vs := [.ref sp, .ref b, .ref d]) (fun _ _ _ => ea_cons (ev_var rfl) (ea_cons (ev_var rfl) (ea_cons (ev_var rfl) ea_nil))) fun H5 e5 s5 Q' q' E' => ⟨sp, b, d, rs, c, rfl, s5, nb, e5 _ _ nb (e4 _ _ hb3), S, hl6, e5 _ _ nd (e4 _ _ hd), Cc, fun x hx => by have := (hc x hx).2; omega, q'⟩) (s3.up e4)
        (fun v p2 j σ' H5 => (∃ x7 x8 x9 x10 x11 : Option V, σ' = [some (.ref a), some (.int z), some (.ref sp), some (.ref b), some (.ref d), some (.int (sw rs c)), some (.int (prod rs)), x7, x8, x9, x10, x11]) ∧ Ex H' H5 ∧ H5 p2 = some (.lst [.str "balanced", .str "even", .str "together", v]) ∧ LI H5 b rs ∧ TuI H5 d c ∧ PlanP rs c v H5)
        (fun v p2 H5 H6 e5 hv e6 h6 => ⟨⟨_, _, _, _, _, rfl⟩, fun b' o hb' => e6 _ _ ((eS.trans e5) b' o (fun z => by rw [z, hsp] at hb'; cases hb') hb'), h6, e6 _ _ (e5 _ _ nb (e4 _ _ hb3)), e6 _ _ (e5 _ _ nd (e4 _ _ hd)), ?_⟩)
        (fun v p2 j σ' H5 h => h.2.2.1) (fun v p2 j x σ' H5 hx h => ?_) (fun v p2 σ' H5 h => ?_)
      · obtain ⟨l, pl, rfl, hl, G⟩ := hv
        exact ⟨l, pl, rfl, hl.up e6, G⟩
      · obtain ⟨⟨x7, x8, x9, x10, x11, rfl⟩, e5, hp2, hb5, hd5, hv⟩ := h
        obtain ⟨st, N⟩ : ∃ st, Nm rs c H5 x st := by
          obtain ⟨l, pl, rfl, hl, G⟩ := hv
          match j, hx with
          | 0, hx => cases hx; exact ⟨_, .bal⟩
          | 1, hx => cases hx; exact ⟨_, .even⟩
          | 2, hx => cases hx; exact ⟨_, .tog⟩
          | 3, hx => cases hx; exact ⟨_, .plan hl G⟩
        have hval := N.valid S.two Cc.pos
        refine q_asgP (P := ArrP rs st) (evp_call3 (P4 := fun v H2 => ∃ p, v = .ref p ∧ SplS C H2 p rs c st) (fun _ _ => ev_var rfl) (fun _ _ => ev_var rfl) (fun H6 e6 => evp_mkS (ev_var rfl) (N.up e6)) fun w' H6 e6 hw => ?_) fun w' H6 e6 hw => ?_
        · obtain ⟨q, rfl, hS⟩ := hw
          exact sp_arr (e6 _ _ hb5) S (e6 _ _ hd5) Cc hS
        · obtain ⟨t, rfl, ht⟩ := hw
          have hlen : ((((paths rs).map (arr st)).length : Nat) : Int) = prod rs := by rw [List.length_map]; exact hplen
          have hsum : ((paths rs).map (arr st)).sum = sw rs c := mean hval S.two
          have fin : ∀ (y9 y10 y11 : Option V) (H7 : Hp), Ex H6 H7 → (∃ x7 x8 x9 x10 x11 : Option V, [some (V.ref a), some (.int z), some (.ref sp), some (.ref b), some (.ref d), some (.int (sw rs c)), some (.int (prod rs)), some x, some (.ref t), y9, y10, y11] = [some (.ref a), some (.int z), some (.ref sp), some (.ref b), some (.ref d), some (.int (sw rs c)), some (.int (prod rs)), x7, x8, x9, x10, x11]) ∧ Ex H' H7 ∧ H7 p2 = some (.lst [.str "balanced", .str "even", .str "together", v]) ∧ LI H7 b rs ∧ TuI H7 d c ∧ PlanP rs c v H7 := fun y9 y10 y11 H7 e7 => by
            refine ⟨⟨_, _, _, _, _, rfl⟩, (e5.trans e6).trans e7, (e6.trans e7) _ _ hp2, (e6.trans e7) _ _ hb5, (e6.trans e7) _ _ hd5, ?_⟩
            obtain ⟨l, pl, rfl, hl, G⟩ := hv
            exact ⟨l, pl, rfl, hl.up (e6.trans e7), G⟩
          refine q_guard (et_or (a := false) (b := false) (et_test (ev_is (ev_op (ev_lenI (ev_var rfl) ht) (ev_var rfl) (rv_ne rfl)) (by rw [hlen]; simp))) fun _ => et_test (ev_is (ev_op (ev_cb (ea_cons (ev_var rfl) ea_nil) (rc_sum ht)) (ev_var rfl) (rv_ne rfl)) (by rw [hsum]; simp))) fun H7 e7 => ?_
          have hpos : 0 < ((paths rs).map (arr st)).length := by omega
          refine q_guard (et_or (a := false) (b := false) (et_test (ev_opP1 (evp_minW rfl rfl (e7 _ _ ht) hpos (by omega) S.most) (fun _ _ => ev_var rfl) (fun v H8 e8 hv => ?_) fun _ _ _ _ h => h)) fun _ => et_test (ev_opP1 (evp_maxW rfl rfl (e7 _ _ ht) hpos (by omega) S.most) (fun _ _ => ev_var rfl) (fun v H8 e8 hv => ?_) fun _ _ _ _ h => h)) fun H8 e8 => ?_
          · obtain ⟨m, rfl, hm⟩ := hv
            have := min_mul_le hm
            rw [hlen, hsum] at this
            exact rv_bl (decide_eq_false (by omega))
          · obtain ⟨m, rfl, hm⟩ := hv
            have := max_mul_ge hm
            rw [hlen, hsum] at this
            exact rv_bl (decide_eq_false (by omega))
          · have e8' := e7.trans e8
            obtain ⟨bb, hbb, hst⟩ := (N.up (e6.trans e8')).test (K := K)
            refine s_when (b := bb) (et_test (ev_op (ev_var rfl) ev_c hbb)) (fun hb1 H9 e9 => ?_) (fun _ H9 e9 => fin _ _ _ H9 (e8'.trans e9))
            have hst := hst hb1
            subst hst
            have e9' := e8'.trans e9
            have m0 : 0 ≤ sw rs c % prod rs := Int.emod_nonneg _ (by omega)
            have m1 : sw rs c % prod rs < prod rs := Int.emod_lt_of_pos _ hprod
            have m2 := S.most
            refine q_par (ea_cons (ev_div (ev_var rfl) (ev_var rfl) hprod (by omega)) (ea_cons (ev_mod (ev_var rfl) (ev_var rfl) hprod) ea_nil)) fun H10 e10 => ?_
            refine q_asgL (el_cat (isl_l (el_rep (k := (prod rs - sw rs c % prod rs).toNat) (el_lst (ea_cons (ev_var rfl) ea_nil) (by simp)) (fun H11 e11 => ev_sub (ev_var rfl) (ev_var rfl)) rfl (by omega) (by omega))) (isl_l (el_rep (k := (sw rs c % prod rs).toNat) (el_lst (ea_cons (ev_add (ev_var rfl) ev_c) ea_nil) (by simp)) (fun H11 e11 => ev_var rfl) rfl (by omega) (by omega))) (by simp; omega)) fun du H11 _ e11 hdu => ?_
            have e11' := (e9'.trans e10).trans e11
            refine s_guard (et_test (ev_opPP (evp_sortedI rfl (e11' _ _ ht)) (isl_v (ev_var rfl) hdu) (fun v w' H12 e12 hv hw => ?_) fun v H12 H13 e hv => ?_)) fun H12 e12 => fin _ _ _ H12 (e11'.trans e12)
            · obtain ⟨q, s', rfl, hs', hperm, hpw⟩ := hv
              obtain ⟨u, rfl, hu⟩ := hw
              refine rv_neInts hs' ?_
              rw [hu, due_eq S.two Cc.pos hperm hpw, List.map_append, List.map_replicate, List.map_replicate]
            · obtain ⟨q, s', rfl, hs', hperm, hpw⟩ := hv
              exact ⟨q, s', rfl, e _ _ hs', hperm, hpw⟩
      · obtain ⟨⟨x7, x8, x9, x10, x11, rfl⟩, e5, _⟩ := h
        exact ⟨⟨_, _, _, _, _, _, _, _, _, _, _, rfl⟩, e'.trans e5, e5 _ _ hp⟩
    · obtain ⟨⟨x1, x2, x3, x4, x5, x6, x7, x8, x9, x10, x11, rfl⟩, _⟩ := h
      exact s_ret ev_c fun H2 _ => k H2
end
end SC

/-! ## ScF -/
/-! What the top has written, and the walk of the law. -/
namespace SC
open PySem PySem.Spec PyProof.Rows L2 Evl
structure FnF (K : PySem.W.Frag) (x q : Str) (st : Stmt) : Prop where
  ex : ∃ (f : Addr) (fd : FuncData), PySem.W.nsIn K mainGlobals x = some (some (.ref f)) ∧ Fun K x q st f fd
structure MtF (K : PySem.W.Frag) (C : Addr) (x q : Str) (st : Stmt) : Prop where
  ex : ∃ (f : Addr) (fd : FuncData), PySem.W.findIn K (.ref C) x = some (some (.ref f)) ∧ PySem.W.isFn K (.ref f) = true ∧ Fun K x q st f fd
structure ClF (K : PySem.W.Frag) (x : Str) (C : Addr) : Prop where
  at_ : PySem.W.nsIn K mainGlobals x = some (some (.ref C))
  pg : PySem.W.plainGet K C Str.empty = true
  hd : PySem.W.hasDictIn K C = true
  po : PySem.W.plainOver K C = true
  sa : PySem.W.findIn K (.ref C) "__setattr__" = some (some (.builtin "object.__setattr__"))
  mks : PySem.W.makesIn K C = true
  kc : PySem.W.keepIn K (.ref C) = true
  nS : PySem.W.findIn K (.ref C) "strategy" = some none
  ha : PySem.W.findIn K (.ref C) "__class__" = some (some (.builtin "object.__class__"))
  hn : PySem.W.specialIn K (.builtin "object.__class__") "__get__" = some (some (.builtin "getset_descriptor.__get__"))
  htk : PySem.W.takesIn K (.builtin "object.__class__") = some true
  hm : PySem.W.mroIn K C (.type "object") = some true
structure CsF (K : PySem.W.Frag) (x : Str) (v : V) : Prop where
  ex : ∃ u, PySem.W.nsIn K mainGlobals x = some (some u) ∧ RelV v u
section
variable {P : Program} {w : World} {K : PySem.W.Frag} {mg : Str → Option Value} {base h : Heap} {x q : Str} {st : Stmt} {ps : List Str} {k : Nat} {sp : Sp} {C : Addr} {v : V}
theorem fnF_mk {f : Addr} {oc : Value} {od an : Option Addr} {osl : Array (Option Value)} {kV doc pm cdv ct : Value} (a : PySem.W.nsIn K mainGlobals x = some (some (.ref f))) (l : K.lookup f = some ⟨oc, od, .func (PySem.W.fnOf x q (defArgs st) (defBody st) (defScope st) .none kV doc pm an cdv ct), osl⟩)
    (c : PySem.W.codeIn K cdv q = true) (k : PySem.W.keepIn K (.ref f) = true) : FnF K x q st := ⟨f, _, a, fun_mk l c k⟩
theorem mtF_mk {f : Addr} {oc : Value} {od an : Option Addr} {osl : Array (Option Value)} {kV doc pm cdv ct : Value} (a : PySem.W.findIn K (.ref C) x = some (some (.ref f))) (i : PySem.W.isFn K (.ref f) = true) (l : K.lookup f = some ⟨oc, od, .func (PySem.W.fnOf x q (defArgs st) (defBody st) (defScope st) .none kV doc pm an cdv ct), osl⟩)
    (c : PySem.W.codeIn K cdv q = true) (k : PySem.W.keepIn K (.ref f) = true) : MtF K C x q st := ⟨f, _, a, i, fun_mk l c k⟩
theorem csF_mk {u : Value} (a : PySem.W.nsIn K mainGlobals x = some (some u)) (r : RelV v u) : CsF K x v := ⟨u, a, r⟩
theorem CsF.mgv (c : CsF K x v) (X : K.In h) (G : h.Ns mainGlobals mg) : ∃ u, mg x = some u ∧ RelV v u := let ⟨u, a, r⟩ := c.ex; ⟨u, PySem.W.mg_of X G a, r⟩
theorem FnF.cal (F : FnF K x q st) (X : K.In h) (G : h.Ns mainGlobals mg) (hb : ∀ (kV doc pm : Value) (an : Option Addr) (cdv ct : Value) (us : List Value), us.length = ps.length → bindArgs (PySem.W.fnOf x q (defArgs st) (defBody st) (defScope st) .none kV doc pm an cdv ct) ⟨us, []⟩ = pure (ps.zip us))
    (ok : ∀ (f : Addr) (fd : FuncData), Fun K x q st f fd → FnOk P w K mg base CX0 k f fd ps sp) : Callee P w K mg base x ps k sp := by
  obtain ⟨f, fd, a, F⟩ := F.ex
  exact .of F (ok f fd F) (F.binds hb) (PySem.W.mg_of X G a)
theorem MtF.cal (F : MtF K C x q st) (hb : ∀ (kV doc pm : Value) (an : Option Addr) (cdv ct : Value) (us : List Value), us.length = ps.length → bindArgs (PySem.W.fnOf x q (defArgs st) (defBody st) (defScope st) .none kV doc pm an cdv ct) ⟨us, []⟩ = pure (ps.zip us))
    (ok : ∀ (f : Addr) (fd : FuncData), Fun K x q st f fd → FnOk P w K mg base CX0 k f fd ps sp) : MCal P w K mg base C x ps k sp := by
  obtain ⟨f, fd, a, i, F⟩ := F.ex
  exact ⟨f, fd, ok f fd F, ⟨a, i, F.kp⟩, F.binds hb⟩
theorem MtF.mkr {y : Str} (F : MtF K C "__init__" q st) (T : ClF K y C) (hb : ∀ (kV doc pm : Value) (an : Option Addr) (cdv ct : Value) (us : List Value), us.length = ps.length → bindArgs (PySem.W.fnOf "__init__" q (defArgs st) (defBody st) (defScope st) .none kV doc pm an cdv ct) ⟨us, []⟩ = pure (ps.zip us))
    (ok : ∀ (f : Addr) (fd : FuncData), Fun K "__init__" q st f fd → FnOk P w K mg base CX0 k f fd ps sp) : MkCal P w K mg base C ps k sp := by
  obtain ⟨f, fd, a, i, F⟩ := F.ex
  exact ⟨f, fd, ok f fd F, ⟨T.mks, a, i, T.kc⟩, F.binds hb⟩
theorem ClF.clt {y : Str} (T : ClF K y C) (X : K.In h) (G : h.Ns mainGlobals mg) : ClT K mg y C := ⟨⟨T.pg, T.hd, T.po, T.sa⟩, T.nS, T.ha, T.hn, T.htk, T.hm, PySem.W.mg_of X G T.at_⟩
end
theorem all_mk {l : PySem.W.OpenLaw} {w : World} {K : PySem.W.Frag} {h : Heap} {mg : Str → Option Value} {fa C C2 : Addr} (X : K.In h) (G : h.Ns mainGlobals mg) (hfa : mg "law" = some (.ref fa))
    (t1 : ClF K "Splitter" C) (t2 : ClF K "Chooser" C2)
    (h_isInt : FnF K "is_integer" "is_integer" sIsInt)
    (h_atLeast : FnF K "is_at_least" "is_at_least" sAtLeast)
    (h_between : FnF K "is_between" "is_between" sBetween)
    (h_reqSched : FnF K "require_schedule" "require_schedule" sReqSched)
    (h_reqRounds : FnF K "require_rounds" "require_rounds" sReqRounds)
    (h_isGroup : FnF K "is_group" "is_group" sIsGroup)
    (h_reqCounts : FnF K "require_counts" "require_counts" sReqCounts)
    (h_smallRound : FnF K "require_small_round" "require_small_round" sSmallRound)
    (h_reqSplit : FnF K "require_split" "require_split" sReqSplit)
    (h_products : FnF K "products" "products" sProducts)
    (h_climbed : FnF K "climbed" "climbed" sClimbed)
    (h_isRow : FnF K "is_row" "is_row" sIsRow)
    (h_reqPlan : FnF K "require_plan" "require_plan" sReqPlan)
    (h_reqChoices : FnF K "require_choices" "require_choices" sReqChoices)
    (h_wordNums : FnF K "word_numbers" "word_numbers" sWordNums)
    (h_checkPlan : FnF K "check_plan" "check_plan" sCheckPlan)
    (h_betweenC : FnF K "climbers_between" "climbers_between" sBetweenC)
    (h_splitOf : FnF K "split_of" "split_of" sSplitOf)
    (h_shared : FnF K "shared_out" "shared_out" sShared)
    (h_balanced : FnF K "balanced_split" "balanced_split" sBalanced)
    (h_isWord : FnF K "is_word" "is_word" sIsWord)
    (h_isSeq : FnF K "is_sequence" "is_sequence" sIsSeq)
    (h_even : FnF K "even_split" "even_split" sEven)
    (h_joint : FnF K "joint_split" "joint_split" sJoint)
    (h_smallRounds : FnF K "require_small_rounds" "require_small_rounds" sSmallRounds)
    (h_SI : MtF K C "__init__" "Splitter.__init__" sSI)
    (h_SHas : MtF K C "has_plan" "Splitter.has_plan" sSHas)
    (h_SFits : MtF K C "fits" "Splitter.fits" sSFits)
    (h_SSplit : MtF K C "split_position" "Splitter.split_position" sSSplit)
    (h_CI : MtF K C2 "__init__" "Chooser.__init__" sCI)
    (h_CHas : MtF K C2 "has_list" "Chooser.has_list" sCHas)
    (h_CFits : MtF K C2 "fits" "Chooser.fits" sCFits)
    (h_CNext : MtF K C2 "next_choice" "Chooser.next_choice" sCNext)
    (h_play : FnF K "play" "play" sPlay)
    (h_cellAt : FnF K "_law_cell_at" "_law_cell_at" lCellAt)
    (h_source : FnF K "_law_source" "_law_source" lSource)
    (h_take : FnF K "_law_take" "_law_take" lTake)
    (h_pick : FnF K "_law_pick" "_law_pick" lPick)
    (h_shuffled : FnF K "_law_shuffled" "_law_shuffled" lShuffled)
    (h_crowd : FnF K "_law_crowd" "_law_crowd" lCrowd)
    (h_shares : FnF K "_law_shares" "_law_shares" lShares)
    (h_scaled : FnF K "_law_scaled" "_law_scaled" lScaled)
    (h_plan : FnF K "_law_drawn_plan" "_law_drawn_plan" lPlan)
    (h_small : FnF K "_law_small_rounds" "_law_small_rounds" lSmall)
    (h_paths : FnF K "_law_all_paths" "_law_all_paths" lPaths)
    (h_arr : FnF K "_law_all_arrivals" "_law_all_arrivals" lArrivals)
    (h_law : FnF K "law" "law" lLaw)
    (b_len : PySem.W.nsIn K mainGlobals "len" = some none)
    (b_isi : PySem.W.nsIn K mainGlobals "isinstance" = some none)
    (b_int : PySem.W.nsIn K mainGlobals "int" = some none)
    (b_bool : PySem.W.nsIn K mainGlobals "bool" = some none)
    (b_str : PySem.W.nsIn K mainGlobals "str" = some none)
    (b_list : PySem.W.nsIn K mainGlobals "list" = some none)
    (b_tuple : PySem.W.nsIn K mainGlobals "tuple" = some none)
    (b_enum : PySem.W.nsIn K mainGlobals "enumerate" = some none)
    (b_all : PySem.W.nsIn K mainGlobals "all" = some none)
    (b_any : PySem.W.nsIn K mainGlobals "any" = some none)
    (b_sum : PySem.W.nsIn K mainGlobals "sum" = some none)
    (b_range : PySem.W.nsIn K mainGlobals "range" = some none)
    (b_zip : PySem.W.nsIn K mainGlobals "zip" = some none)
    (b_max : PySem.W.nsIn K mainGlobals "max" = some none)
    (b_min : PySem.W.nsIn K mainGlobals "min" = some none)
    (b_sorted : PySem.W.nsIn K mainGlobals "sorted" = some none)
    (k_mr : CsF K "MAX_ROUNDS" (.int 200))
    (k_mgr : CsF K "MAX_GROUPS" (.int 1000))
    (k_bal : CsF K "BALANCED" (.str "balanced"))
    (k_even : CsF K "EVEN" (.str "even"))
    (k_tog : CsF K "TOGETHER" (.str "together"))
    (k_lig : CsF K "LIGHTEST" (.str "lightest"))
    (k_hea : CsF K "HEAVIEST" (.str "heaviest"))
    : ∃ fd : FuncData, (∀ (s : Shared) (v : Value), BindsTo s fd ⟨[v], []⟩ [("_law_script", v)]) ∧ ∀ base : Heap, K.In base → base.Ns mainGlobals mg → FnOk l.prog w K mg base CX0 9 fa fd ["_law_script"] (spLaw K) := by
  have B : Bt mg := ⟨PySem.W.mg_none_of X G b_len, PySem.W.mg_none_of X G b_isi, PySem.W.mg_none_of X G b_int, PySem.W.mg_none_of X G b_bool, PySem.W.mg_none_of X G b_str, PySem.W.mg_none_of X G b_list, PySem.W.mg_none_of X G b_tuple, PySem.W.mg_none_of X G b_enum, PySem.W.mg_none_of X G b_all, PySem.W.mg_none_of X G b_any, PySem.W.mg_none_of X G b_sum, PySem.W.mg_none_of X G b_range, PySem.W.mg_none_of X G b_zip, PySem.W.mg_none_of X G b_max, PySem.W.mg_none_of X G b_min, PySem.W.mg_none_of X G b_sorted, k_mr.mgv X G, k_mgr.mgv X G, k_bal.mgv X G, k_even.mgv X G, k_tog.mgv X G, k_lig.mgv X G, k_hea.mgv X G⟩
  have T : ClT K mg "Splitter" C := t1.clt X G
  have T2 : ClT K mg "Chooser" C2 := t2.clt X G
  obtain ⟨f, fd, a, F⟩ := h_law.ex
  have e := hfa.symm.trans (PySem.W.mg_of X G a)
  cases e
  refine ⟨fd, ?_, fun base _ _ => ?_⟩
  · obtain ⟨oc, od, kV, doc, pm, an, cdv, ct, osl, rfl, _⟩ := F.ex
    exact fun s v => .of_eq rfl
  · have c_isInt : Callee l.prog w K mg base "is_integer" ["value"] 1 spIsInt := h_isInt.cal X G (fun _ _ _ _ _ _ us hl => match us, hl with | [_], _ => rfl) (fun f fd F => ok_isInt F B)
    have c_atLeast : Callee l.prog w K mg base "is_at_least" ["value", "low"] 2 spAtLeast := h_atLeast.cal X G (fun _ _ _ _ _ _ us hl => match us, hl with | [_, _], _ => rfl) (fun f fd F => ok_atLeast F c_isInt)
    have c_between : Callee l.prog w K mg base "is_between" ["value", "low", "high"] 2 spBetween := h_between.cal X G (fun _ _ _ _ _ _ us hl => match us, hl with | [_, _, _], _ => rfl) (fun f fd F => ok_between F c_isInt)
    have c_reqSched : Callee l.prog w K mg base "require_schedule" ["schedule"] 3 spReqSched := h_reqSched.cal X G (fun _ _ _ _ _ _ us hl => match us, hl with | [_], _ => rfl) (fun f fd F => ok_reqSched F B c_atLeast)
    have c_reqRounds : Callee l.prog w K mg base "require_rounds" ["schedule"] 4 spReqRounds := h_reqRounds.cal X G (fun _ _ _ _ _ _ us hl => match us, hl with | [_], _ => rfl) (fun f fd F => ok_reqRounds F B c_reqSched)
    have c_isGroup : Callee l.prog w K mg base "is_group" ["value", "length"] 3 spIsGroup := h_isGroup.cal X G (fun _ _ _ _ _ _ us hl => match us, hl with | [_, _], _ => rfl) (fun f fd F => ok_isGroup F B c_atLeast)
    have c_reqCounts : Callee l.prog w K mg base "require_counts" ["counts"] 4 spReqCounts := h_reqCounts.cal X G (fun _ _ _ _ _ _ us hl => match us, hl with | [_], _ => rfl) (fun f fd F => ok_reqCounts F B c_isGroup)
    have c_smallRound : Callee l.prog w K mg base "require_small_round" ["schedule"] 1 spSmallRound := h_smallRound.cal X G (fun _ _ _ _ _ _ us hl => match us, hl with | [_], _ => rfl) (fun f fd F => ok_smallRound F B)
    have c_reqSplit : Callee l.prog w K mg base "require_split" ["schedule", "counts", "split"] 5 spReqSplit := h_reqSplit.cal X G (fun _ _ _ _ _ _ us hl => match us, hl with | [_, _, _], _ => rfl) (fun f fd F => ok_reqSplit F B c_reqRounds c_reqCounts c_smallRound c_isGroup)
    have c_products : Callee l.prog w K mg base "products" ["schedule"] 1 spProducts := h_products.cal X G (fun _ _ _ _ _ _ us hl => match us, hl with | [_], _ => rfl) (fun f fd F => ok_products F)
    have c_climbed : Callee l.prog w K mg base "climbed" ["group"] 1 spClimbed := h_climbed.cal X G (fun _ _ _ _ _ _ us hl => match us, hl with | [_], _ => rfl) (fun f fd F => ok_climbed F B)
    have c_isRow : Callee l.prog w K mg base "is_row" ["sizes", "value"] 2 spIsRow := h_isRow.cal X G (fun _ _ _ _ _ _ us hl => match us, hl with | [_, _], _ => rfl) (fun f fd F => ok_isRow F B c_isInt)
    have c_reqPlan : Callee l.prog w K mg base "require_plan" ["schedule", "plan"] 3 spReqPlan := h_reqPlan.cal X G (fun _ _ _ _ _ _ us hl => match us, hl with | [_, _], _ => rfl) (fun f fd F => ok_reqPlan F B c_products c_isRow)
    have c_reqChoices : Callee l.prog w K mg base "require_choices" ["schedule", "choices", "limit"] 3 spReqChoices := h_reqChoices.cal X G (fun _ _ _ _ _ _ us hl => match us, hl with | [_, _, _], _ => rfl) (fun f fd F => ok_reqChoices F B c_between)
    have c_wordNums : Callee l.prog w K mg base "word_numbers" ["schedule", "choices"] 1 spWordNums := h_wordNums.cal X G (fun _ _ _ _ _ _ us hl => match us, hl with | [_, _], _ => rfl) (fun f fd F => ok_wordNums F B)
    have c_checkPlan : Callee l.prog w K mg base "check_plan" ["schedule", "counts", "plan"] 5 spCheckPlan := h_checkPlan.cal X G (fun _ _ _ _ _ _ us hl => match us, hl with | [_, _, _], _ => rfl) (fun f fd F => ok_checkPlan F B c_reqSched c_reqCounts c_reqPlan)
    have c_betweenC : Callee l.prog w K mg base "climbers_between" ["size", "row", "start", "length"] 1 spBetweenC := h_betweenC.cal X G (fun _ _ _ _ _ _ us hl => match us, hl with | [_, _, _, _], _ => rfl) (fun f fd F => ok_betweenC F B)
    have c_splitOf : Callee l.prog w K mg base "split_of" ["schedule", "counts", "plan", "choices"] 6 spSplitOf := h_splitOf.cal X G (fun _ _ _ _ _ _ us hl => match us, hl with | [_, _, _, _], _ => rfl) (fun f fd F => ok_splitOf F B c_reqRounds c_checkPlan c_reqChoices c_smallRound c_products c_wordNums c_betweenC)
    have c_shared : Callee l.prog w K mg base "shared_out" ["count", "first", "length", "groups"] 1 spShared := h_shared.cal X G (fun _ _ _ _ _ _ us hl => match us, hl with | [_, _, _, _], _ => rfl) (fun f fd F => ok_shared F B)
    have c_balanced : Callee l.prog w K mg base "balanced_split" ["schedule", "counts"] 5 spBalanced := h_balanced.cal X G (fun _ _ _ _ _ _ us hl => match us, hl with | [_, _], _ => rfl) (fun f fd F => ok_balanced F B c_reqRounds c_reqCounts c_smallRound c_products c_shared)
    have c_isWord : Callee l.prog w K mg base "is_word" ["value", "words"] 1 spIsWord := h_isWord.cal X G (fun _ _ _ _ _ _ us hl => match us, hl with | [_, _], _ => rfl) (fun f fd F => ok_isWord F B)
    have c_isSeq : Callee l.prog w K mg base "is_sequence" ["value"] 1 spIsSeq := h_isSeq.cal X G (fun _ _ _ _ _ _ us hl => match us, hl with | [_], _ => rfl) (fun f fd F => ok_isSeq F B)
    have c_even : Callee l.prog w K mg base "even_split" ["schedule", "counts"] 1 spEven := h_even.cal X G (fun _ _ _ _ _ _ us hl => match us, hl with | [_, _], _ => rfl) (fun f fd F => ok_even F B)
    have c_joint : Callee l.prog w K mg base "joint_split" ["schedule", "counts"] 1 spJoint := h_joint.cal X G (fun _ _ _ _ _ _ us hl => match us, hl with | [_, _], _ => rfl) (fun f fd F => ok_joint F B)
    have c_smallRounds : Callee l.prog w K mg base "require_small_rounds" ["schedule"] 1 spSmallRounds := h_smallRounds.cal X G (fun _ _ _ _ _ _ us hl => match us, hl with | [_], _ => rfl) (fun f fd F => ok_smallRounds F B)
    have c_SI : MkCal l.prog w K mg base C ["self", "strategy"] 2 (spSI C) := h_SI.mkr t1 (fun _ _ _ _ _ _ us hl => match us, hl with | [_, _], _ => rfl) (fun f fd F => ok_SI F B T c_isWord c_isSeq)
    have c_SHas : MCal l.prog w K mg base C "has_plan" ["self"] 1 (spHas C) := h_SHas.cal (fun _ _ _ _ _ _ us hl => match us, hl with | [_], _ => rfl) (fun f fd F => ok_SHas F B T)
    have c_SFits : MCal l.prog w K mg base C "fits" ["self", "schedule", "counts"] 6 (spSFits C) := h_SFits.cal (fun _ _ _ _ _ _ us hl => match us, hl with | [_, _, _], _ => rfl) (fun f fd F => ok_SFits F B T c_SHas c_checkPlan)
    have c_SSplit : MCal l.prog w K mg base C "split_position" ["self", "schedule", "counts"] 6 (spSSplit C) := h_SSplit.cal (fun _ _ _ _ _ _ us hl => match us, hl with | [_, _, _], _ => rfl) (fun f fd F => ok_SSplit F B T c_balanced c_even c_joint)
    have c_CI : MkCal l.prog w K mg base C2 ["self", "strategy"] 3 (spCI C2) := h_CI.mkr t2 (fun _ _ _ _ _ _ us hl => match us, hl with | [_, _], _ => rfl) (fun f fd F => ok_CI F B T2 c_isWord c_isSeq c_atLeast)
    have c_CHas : MCal l.prog w K mg base C2 "has_list" ["self"] 1 (spHas C2) := h_CHas.cal (fun _ _ _ _ _ _ us hl => match us, hl with | [_], _ => rfl) (fun f fd F => ok_CHas F B T2)
    have c_CFits : MCal l.prog w K mg base C2 "fits" ["self", "schedule"] 2 (spCFits C2) := h_CFits.cal (fun _ _ _ _ _ _ us hl => match us, hl with | [_, _], _ => rfl) (fun f fd F => ok_CFits F B T2 c_CHas)
    have c_CNext : MCal l.prog w K mg base C2 "next_choice" ["self", "schedule", "counts", "split", "index"] 6 (spCNext C2) := h_CNext.cal (fun _ _ _ _ _ _ us hl => match us, hl with | [_, _, _, _, _], _ => rfl) (fun f fd F => ok_CNext F B T2 c_CHas c_reqSplit c_atLeast)
    have c_play : Callee l.prog w K mg base "play" ["schedule", "counts", "splitter", "chooser"] 7 (spPlay C C2) := h_play.cal X G (fun _ _ _ _ _ _ us hl => match us, hl with | [_, _, _, _], _ => rfl) (fun f fd F => ok_play F B T T2 c_reqSched c_reqCounts c_smallRounds c_splitOf c_climbed c_SHas c_SFits c_SSplit c_CFits c_CNext)
    have c_cellAt : Callee l.prog w K mg base "_law_cell_at" ["_law_script", "_law_k"] 1 (spCellAt K) := h_cellAt.cal X G (fun _ _ _ _ _ _ us hl => match us, hl with | [_, _], _ => rfl) (fun f fd F => ok_cellAt F B)
    have c_source : Callee l.prog w K mg base "_law_source" ["_law_cell"] 1 spSource := h_source.cal X G (fun _ _ _ _ _ _ us hl => match us, hl with | [_], _ => rfl) (fun f fd F => ok_source F B)
    have c_take : Callee l.prog w K mg base "_law_take" ["_law_source_here", "_law_bound"] 1 spTake := h_take.cal X G (fun _ _ _ _ _ _ us hl => match us, hl with | [_, _], _ => rfl) (fun f fd F => ok_lTake F)
    have c_pick : Callee l.prog w K mg base "_law_pick" ["_law_source_here", "_law_items"] 2 spPick := h_pick.cal X G (fun _ _ _ _ _ _ us hl => match us, hl with | [_, _], _ => rfl) (fun f fd F => ok_pick F B c_take)
    have c_shuffled : Callee l.prog w K mg base "_law_shuffled" ["_law_source_here", "_law_items"] 2 spShuffled := h_shuffled.cal X G (fun _ _ _ _ _ _ us hl => match us, hl with | [_, _], _ => rfl) (fun f fd F => ok_shuffled F B c_take)
    have c_crowd : Callee l.prog w K mg base "_law_crowd" ["_law_source_here", "_law_length", "_law_wide"] 3 spCrowd := h_crowd.cal X G (fun _ _ _ _ _ _ us hl => match us, hl with | [_, _, _], _ => rfl) (fun f fd F => ok_crowd F B c_take c_pick)
    have c_shares : Callee l.prog w K mg base "_law_shares" ["_law_rounds"] 1 spShares := h_shares.cal X G (fun _ _ _ _ _ _ us hl => match us, hl with | [_], _ => rfl) (fun f fd F => ok_shares F)
    have c_scaled : Callee l.prog w K mg base "_law_scaled" ["_law_rounds", "_law_crowd_here"] 2 spScaled := h_scaled.cal X G (fun _ _ _ _ _ _ us hl => match us, hl with | [_, _], _ => rfl) (fun f fd F => ok_scaled F B c_shares)
    have c_plan : Callee l.prog w K mg base "_law_drawn_plan" ["_law_source_here", "_law_rounds", "_law_crowd_here"] 3 spPlan := h_plan.cal X G (fun _ _ _ _ _ _ us hl => match us, hl with | [_, _, _], _ => rfl) (fun f fd F => ok_plan F B c_take c_pick c_shuffled c_shares)
    have c_small : Callee l.prog w K mg base "_law_small_rounds" ["_law_source_here", "_law_most"] 3 spSmall := h_small.cal X G (fun _ _ _ _ _ _ us hl => match us, hl with | [_, _], _ => rfl) (fun f fd F => ok_small F B c_take c_pick)
    have c_paths : Callee l.prog w K mg base "_law_all_paths" ["_law_rounds"] 1 spPaths := h_paths.cal X G (fun _ _ _ _ _ _ us hl => match us, hl with | [_], _ => rfl) (fun f fd F => ok_paths F B)
    have c_arr : Callee l.prog w K mg base "_law_all_arrivals" ["_law_rounds", "_law_crowd_here", "_law_splitter"] 8 (spArr C) := h_arr.cal X G (fun _ _ _ _ _ _ us hl => match us, hl with | [_, _, _], _ => rfl) (fun f fd F => ok_arr F T2 c_paths c_play c_CI)
    exact ok_law F B T c_cellAt c_source c_small c_crowd c_scaled c_plan c_arr c_SI
theorem walk {l : PySem.W.OpenLaw} {q : Program} {loose : List Str} {XP : (Str → Option Value) → Heap → Prop} {YP : World → Heap → Prop} {d : DefRec} {K : Params → PySem.W.Frag} (hn : l.most = some 63) (hdf : d.params.defaults = [])
    (hY : ∀ (w : World) (h : Heap), YP w h → (K w.params).In h)
    (F : ∀ (w : World) (mg : Str → Option Value) (fa : Addr) (h : Heap), (K w.params).In h → h.Ns mainGlobals mg → mg d.name = some (.ref fa) →
      ∃ fd : FuncData, (∀ (s : Shared) (u : Value), BindsTo s fd ⟨[u], []⟩ [("_law_script", u)]) ∧ ∀ base : Heap, (K w.params).In base → base.Ns mainGlobals mg → FnOk l.prog w (K w.params) mg base CX0 9 fa fd ["_law_script"] (spLaw (K w.params))) :
    PySem.W.WalkO q loose XP YP l.row.toRowW d [] (fun f vs => PySem.call f vs) :=
  L2.walk_of (n := 63) (k := 9) (x := "_law_script") (CX := fun _ => CX0) (sp := fun w => spLaw (K w.params)) hn (by decide) hdf ⟨rfl, by decide, by decide⟩ hY F (fun _ _ a ns hl _ hS => ⟨a, ns, rfl, hS, hl, fun _ => rfl⟩) fun _ _ _ _ _ z => z
end SC

open PySem PySem.W PyProof.Rows
set_option maxRecDepth 100000 in
set_option maxHeartbeats 0 in
theorem PySem.Challenge.cw_splitclimb_k35_whole_the_mean_of_all_gam_holds : PySem.Challenge.rw_splitclimb_k35_whole_the_mean_of_all_gam.Holds := by
  w_on; o_law; k_head; (case hw => w_witness2)
  k_fill
  refine SC.walk (l := PySem.Challenge.rw_splitclimb_k35_whole_the_mean_of_all_gam) rfl rfl (fun w h Y => PySem.W.kIn_of Y) ?F
  case F =>
    intro w mg fa h KX G hmg
    refine' SC.all_mk KX G hmg ⟨?t1at, ?t1pg, ?t1hd, ?t1po, ?t1sa, ?t1mk, ?t1kc, ?t1nS, ?t1ha, ?t1hn, ?t1htk, ?t1hm⟩ ⟨?t2at, ?t2pg, ?t2hd, ?t2po, ?t2sa, ?t2mk, ?t2kc, ?t2nS, ?t2ha, ?t2hn, ?t2htk, ?t2hm⟩ (SC.fnF_mk ?aisInt ?lisInt ?cisInt ?kisInt) (SC.fnF_mk ?aatLeast ?latLeast ?catLeast ?katLeast) (SC.fnF_mk ?abetween ?lbetween ?cbetween ?kbetween) (SC.fnF_mk ?areqSched ?lreqSched ?creqSched ?kreqSched) (SC.fnF_mk ?areqRounds ?lreqRounds ?creqRounds ?kreqRounds) (SC.fnF_mk ?aisGroup ?lisGroup ?cisGroup ?kisGroup) (SC.fnF_mk ?areqCounts ?lreqCounts ?creqCounts ?kreqCounts) (SC.fnF_mk ?asmallRound ?lsmallRound ?csmallRound ?ksmallRound) (SC.fnF_mk ?areqSplit ?lreqSplit ?creqSplit ?kreqSplit) (SC.fnF_mk ?aproducts ?lproducts ?cproducts ?kproducts) (SC.fnF_mk ?aclimbed ?lclimbed ?cclimbed ?kclimbed) (SC.fnF_mk ?aisRow ?lisRow ?cisRow ?kisRow) (SC.fnF_mk ?areqPlan ?lreqPlan ?creqPlan ?kreqPlan) (SC.fnF_mk ?areqChoices ?lreqChoices ?creqChoices ?kreqChoices) (SC.fnF_mk ?awordNums ?lwordNums ?cwordNums ?kwordNums) (SC.fnF_mk ?acheckPlan ?lcheckPlan ?ccheckPlan ?kcheckPlan) (SC.fnF_mk ?abetweenC ?lbetweenC ?cbetweenC ?kbetweenC) (SC.fnF_mk ?asplitOf ?lsplitOf ?csplitOf ?ksplitOf) (SC.fnF_mk ?ashared ?lshared ?cshared ?kshared) (SC.fnF_mk ?abalanced ?lbalanced ?cbalanced ?kbalanced) (SC.fnF_mk ?aisWord ?lisWord ?cisWord ?kisWord) (SC.fnF_mk ?aisSeq ?lisSeq ?cisSeq ?kisSeq) (SC.fnF_mk ?aeven ?leven ?ceven ?keven) (SC.fnF_mk ?ajoint ?ljoint ?cjoint ?kjoint) (SC.fnF_mk ?asmallRounds ?lsmallRounds ?csmallRounds ?ksmallRounds) (SC.mtF_mk ?aSI ?iSI ?lSI ?cSI ?kSI) (SC.mtF_mk ?aSHas ?iSHas ?lSHas ?cSHas ?kSHas) (SC.mtF_mk ?aSFits ?iSFits ?lSFits ?cSFits ?kSFits) (SC.mtF_mk ?aSSplit ?iSSplit ?lSSplit ?cSSplit ?kSSplit) (SC.mtF_mk ?aCI ?iCI ?lCI ?cCI ?kCI) (SC.mtF_mk ?aCHas ?iCHas ?lCHas ?cCHas ?kCHas) (SC.mtF_mk ?aCFits ?iCFits ?lCFits ?cCFits ?kCFits) (SC.mtF_mk ?aCNext ?iCNext ?lCNext ?cCNext ?kCNext) (SC.fnF_mk ?aplay ?lplay ?cplay ?kplay) (SC.fnF_mk ?acellAt ?lcellAt ?ccellAt ?kcellAt) (SC.fnF_mk ?asource ?lsource ?csource ?ksource) (SC.fnF_mk ?atake ?ltake ?ctake ?ktake) (SC.fnF_mk ?apick ?lpick ?cpick ?kpick) (SC.fnF_mk ?ashuffled ?lshuffled ?cshuffled ?kshuffled) (SC.fnF_mk ?acrowd ?lcrowd ?ccrowd ?kcrowd) (SC.fnF_mk ?ashares ?lshares ?cshares ?kshares) (SC.fnF_mk ?ascaled ?lscaled ?cscaled ?kscaled) (SC.fnF_mk ?aplan ?lplan ?cplan ?kplan) (SC.fnF_mk ?asmall ?lsmall ?csmall ?ksmall) (SC.fnF_mk ?apaths ?lpaths ?cpaths ?kpaths) (SC.fnF_mk ?aarr ?larr ?carr ?karr) (SC.fnF_mk ?alaw ?llaw ?claw ?klaw) ?zlen ?zisi ?zint ?zbool ?zstr ?zlist ?ztuple ?zenum ?zall ?zany ?zsum ?zrange ?zzip ?zmax ?zmin ?zsorted (SC.csF_mk ?ymr ?rmr) (SC.csF_mk ?ymgr ?rmgr) (SC.csF_mk ?ybal ?rbal) (SC.csF_mk ?yeven ?reven) (SC.csF_mk ?ytog ?rtog) (SC.csF_mk ?ylig ?rlig) (SC.csF_mk ?yhea ?rhea)
    (case t1at => k_is); (case t1pg => k_is); (case t1hd => k_is); (case t1po => k_is); (case t1sa => k_is); (case t1mk => k_is)
    (case t1kc => k_is); (case t1nS => k_is); (case t1ha => k_is); (case t1hn => k_is); (case t1htk => k_is); (case t1hm => k_is)
    (case t2at => k_is); (case t2pg => k_is); (case t2hd => k_is); (case t2po => k_is); (case t2sa => k_is); (case t2mk => k_is)
    (case t2kc => k_is); (case t2nS => k_is); (case t2ha => k_is); (case t2hn => k_is); (case t2htk => k_is); (case t2hm => k_is)
    (case aisInt => k_is); (case lisInt => k_is); (case cisInt => k_is); (case kisInt => k_is); (case aatLeast => k_is); (case latLeast => k_is)
    (case catLeast => k_is); (case katLeast => k_is); (case abetween => k_is); (case lbetween => k_is); (case cbetween => k_is); (case kbetween => k_is)
    (case areqSched => k_is); (case lreqSched => k_is); (case creqSched => k_is); (case kreqSched => k_is); (case areqRounds => k_is); (case lreqRounds => k_is)
    (case creqRounds => k_is); (case kreqRounds => k_is); (case aisGroup => k_is); (case lisGroup => k_is); (case cisGroup => k_is); (case kisGroup => k_is)
    (case areqCounts => k_is); (case lreqCounts => k_is); (case creqCounts => k_is); (case kreqCounts => k_is); (case asmallRound => k_is); (case lsmallRound => k_is)
    (case csmallRound => k_is); (case ksmallRound => k_is); (case areqSplit => k_is); (case lreqSplit => k_is); (case creqSplit => k_is); (case kreqSplit => k_is)
    (case aproducts => k_is); (case lproducts => k_is); (case cproducts => k_is); (case kproducts => k_is); (case aclimbed => k_is); (case lclimbed => k_is)
    (case cclimbed => k_is); (case kclimbed => k_is); (case aisRow => k_is); (case lisRow => k_is); (case cisRow => k_is); (case kisRow => k_is)
    (case areqPlan => k_is); (case lreqPlan => k_is); (case creqPlan => k_is); (case kreqPlan => k_is); (case areqChoices => k_is); (case lreqChoices => k_is)
    (case creqChoices => k_is); (case kreqChoices => k_is); (case awordNums => k_is); (case lwordNums => k_is); (case cwordNums => k_is); (case kwordNums => k_is)
    (case acheckPlan => k_is); (case lcheckPlan => k_is); (case ccheckPlan => k_is); (case kcheckPlan => k_is); (case abetweenC => k_is); (case lbetweenC => k_is)
    (case cbetweenC => k_is); (case kbetweenC => k_is); (case asplitOf => k_is); (case lsplitOf => k_is); (case csplitOf => k_is); (case ksplitOf => k_is)
    (case ashared => k_is); (case lshared => k_is); (case cshared => k_is); (case kshared => k_is); (case abalanced => k_is); (case lbalanced => k_is)
    (case cbalanced => k_is); (case kbalanced => k_is); (case aisWord => k_is); (case lisWord => k_is); (case cisWord => k_is); (case kisWord => k_is)
    (case aisSeq => k_is); (case lisSeq => k_is); (case cisSeq => k_is); (case kisSeq => k_is); (case aeven => k_is); (case leven => k_is)
    (case ceven => k_is); (case keven => k_is); (case ajoint => k_is); (case ljoint => k_is); (case cjoint => k_is); (case kjoint => k_is)
    (case asmallRounds => k_is); (case lsmallRounds => k_is); (case csmallRounds => k_is); (case ksmallRounds => k_is); (case aSI => k_is); (case iSI => k_is)
    (case lSI => k_is); (case cSI => k_is); (case kSI => k_is); (case aSHas => k_is); (case iSHas => k_is); (case lSHas => k_is)
    (case cSHas => k_is); (case kSHas => k_is); (case aSFits => k_is); (case iSFits => k_is); (case lSFits => k_is); (case cSFits => k_is)
    (case kSFits => k_is); (case aSSplit => k_is); (case iSSplit => k_is); (case lSSplit => k_is); (case cSSplit => k_is); (case kSSplit => k_is)
    (case aCI => k_is); (case iCI => k_is); (case lCI => k_is); (case cCI => k_is); (case kCI => k_is); (case aCHas => k_is)
    (case iCHas => k_is); (case lCHas => k_is); (case cCHas => k_is); (case kCHas => k_is); (case aCFits => k_is); (case iCFits => k_is)
    (case lCFits => k_is); (case cCFits => k_is); (case kCFits => k_is); (case aCNext => k_is); (case iCNext => k_is); (case lCNext => k_is)
    (case cCNext => k_is); (case kCNext => k_is); (case aplay => k_is); (case lplay => k_is); (case cplay => k_is); (case kplay => k_is)
    (case acellAt => k_is); (case lcellAt => k_is); (case ccellAt => k_is); (case kcellAt => k_is); (case asource => k_is); (case lsource => k_is)
    (case csource => k_is); (case ksource => k_is); (case atake => k_is); (case ltake => k_is); (case ctake => k_is); (case ktake => k_is)
    (case apick => k_is); (case lpick => k_is); (case cpick => k_is); (case kpick => k_is); (case ashuffled => k_is); (case lshuffled => k_is)
    (case cshuffled => k_is); (case kshuffled => k_is); (case acrowd => k_is); (case lcrowd => k_is); (case ccrowd => k_is); (case kcrowd => k_is)
    (case ashares => k_is); (case lshares => k_is); (case cshares => k_is); (case kshares => k_is); (case ascaled => k_is); (case lscaled => k_is)
    (case cscaled => k_is); (case kscaled => k_is); (case aplan => k_is); (case lplan => k_is); (case cplan => k_is); (case kplan => k_is)
    (case asmall => k_is); (case lsmall => k_is); (case csmall => k_is); (case ksmall => k_is); (case apaths => k_is); (case lpaths => k_is)
    (case cpaths => k_is); (case kpaths => k_is); (case aarr => k_is); (case larr => k_is); (case carr => k_is); (case karr => k_is)
    (case alaw => k_is); (case llaw => k_is); (case claw => k_is); (case klaw => k_is); (case zlen => k_is); (case zisi => k_is)
    (case zint => k_is); (case zbool => k_is); (case zstr => k_is); (case zlist => k_is); (case ztuple => k_is); (case zenum => k_is)
    (case zall => k_is); (case zany => k_is); (case zsum => k_is); (case zrange => k_is); (case zzip => k_is); (case zmax => k_is)
    (case zmin => k_is); (case zsorted => k_is); (case ymr => k_is); (case ymgr => k_is); (case ybal => k_is); (case yeven => k_is)
    (case ytog => k_is); (case ylig => k_is); (case yhea => k_is)
    (case rmr => exact ⟨_, rfl⟩); (case rmgr => exact ⟨_, rfl⟩); (case rbal => exact ⟨_, rfl⟩); (case reven => exact ⟨_, rfl⟩); (case rtog => exact ⟨_, rfl⟩); (case rlig => exact ⟨_, rfl⟩); (case rhea => exact ⟨_, rfl⟩)
