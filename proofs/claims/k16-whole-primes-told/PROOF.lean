import PyProof.Rows.All
import Wide.All
import OpenK.AllK
import Wide.FinOn
import HandS.ForMost
import HandS.TupAny
import HandS.Star
import HandS.SetKeys
import HandS.Deep
import HandS.IsInst
import HandS.Style
import HandS.Walk
import PySem.Challenge.RW_lumpplans_k16_whole_primes_told
set_option Elab.async false
set_option linter.all false
/-! Shapes, tables, gluing, cuts and primes in plain Lean: what the program and the law compute. -/
namespace Lp

inductive Sh where
  | o
  | p (l r : Sh)
  deriving DecidableEq

namespace Sh
def size : Sh → Nat
  | .o => 1
  | .p l r => l.size + r.size
theorem size_pos : ∀ s : Sh, 1 ≤ s.size
  | .o => Nat.le_refl _
  | .p l r => by
    have := size_pos l
    show 1 ≤ l.size + r.size
    omega
end Sh

abbrev Tb := List Sh

/-- entry m of a table -/
def ent (t : Tb) (m : Nat) : Sh := if m = 1 then .o else t.getD (m - 2) .o
/-- the size of a table -/
def tsz (t : Tb) : Nat := t.length + 1
/-- a table -/
structure Ok (t : Tb) : Prop where
  ne : 2 ≤ tsz t
  sz : ∀ m, 2 ≤ m → m ≤ tsz t → (ent t m).size = m

theorem ent_one (t : Tb) : ent t 1 = .o := rfl
theorem Ok.size {t : Tb} (h : Ok t) {m : Nat} (h1 : 1 ≤ m) (h2 : m ≤ tsz t) : (ent t m).size = m := by
  by_cases e : m = 1
  · subst e; rfl
  · exact h.sz m (by omega) h2
theorem ent_get {t : Tb} {m : Nat} (h : 2 ≤ m) (h2 : m ≤ tsz t) : t[m - 2]? = some (ent t m) := by
  unfold tsz at h2
  unfold ent
  rw [if_neg (by omega), List.getD_eq_getElem?_getD, List.getElem?_eq_getElem (by omega)]
  rfl
theorem ext_ent {s t : Tb} (hl : tsz s = tsz t) (h : ∀ m, 2 ≤ m → m ≤ tsz s → ent s m = ent t m) : s = t := by
  unfold tsz at hl
  refine List.ext_getElem? fun i => ?_
  by_cases hi : i < s.length
  · have h1 := ent_get (t := s) (m := i + 2) (by omega) (by unfold tsz; omega)
    have h2 := ent_get (t := t) (m := i + 2) (by omega) (by unfold tsz; omega)
    rw [show i + 2 - 2 = i by omega] at h1 h2
    rw [h1, h2, h (i + 2) (by omega) (by unfold tsz; omega)]
  · rw [List.getElem?_eq_none (by omega), List.getElem?_eq_none (by omega)]

/-! ### stretches -/
/-- how many stretches of b there are in m -/
def cnt (m b : Nat) : Nat := (m + b - 1) / b
/-- where stretch k ends -/
def fin (m b k : Nat) : Nat := min (k * b + b) m
/-- how long stretch k is -/
def wid (m b k : Nat) : Nat := fin m b k - k * b
def strc (m b : Nat) : List (Nat × Nat) := (List.range (cnt m b)).map fun k => (k * b, fin m b k)

theorem lt_cnt {m b k : Nat} (hb : 1 ≤ b) : k < cnt m b ↔ k * b < m := by
  unfold cnt
  rw [Nat.lt_div_iff_mul_lt (by omega)]
  omega
theorem cnt_le {m b k : Nat} (hb : 1 ≤ b) : cnt m b ≤ k ↔ m ≤ k * b := by
  have := lt_cnt (m := m) (b := b) (k := k) hb
  omega
theorem cnt_pos {m b : Nat} (hb : 1 ≤ b) (hm : 1 ≤ m) : 1 ≤ cnt m b := by
  have := (lt_cnt (m := m) (b := b) (k := 0) hb).mpr (by omega)
  omega
theorem cnt_mul {b k : Nat} (hb : 1 ≤ b) : cnt (k * b) b = k := by
  unfold cnt
  rw [show k * b + b - 1 = (b - 1) + b * k by rw [Nat.mul_comm]; omega, Nat.add_mul_div_left _ _ (by omega), Nat.div_eq_of_lt (by omega)]
  omega
theorem cnt_eq {m b k : Nat} (hb : 1 ≤ b) : cnt m b = k + 1 ↔ k * b < m ∧ m ≤ (k + 1) * b := by
  have h1 := lt_cnt (m := m) (b := b) (k := k) hb
  have h2 := cnt_le (m := m) (b := b) (k := k + 1) hb
  omega
theorem cnt_small {m b : Nat} (hm : 1 ≤ m) (h : m ≤ b) : cnt m b = 1 := (cnt_eq (by omega)).mpr (by omega)
theorem cnt_mono {m n b : Nat} (h : m ≤ n) : cnt m b ≤ cnt n b := Nat.div_le_div_right (by omega)
theorem fin_gt {m b k : Nat} (hb : 1 ≤ b) (h : k < cnt m b) : k * b < fin m b k := by
  have := (lt_cnt hb).mp h
  unfold fin
  omega
theorem wid_pos {m b k : Nat} (hb : 1 ≤ b) (h : k < cnt m b) : 1 ≤ wid m b k := by
  have := fin_gt hb h
  unfold wid
  omega
theorem wid_le (m b k : Nat) : wid m b k ≤ b := by
  unfold wid fin
  omega
theorem wid_le' (m b k : Nat) : wid m b k ≤ m := by
  unfold wid fin
  omega
theorem fin_wid {m b k : Nat} (hb : 1 ≤ b) (h : k < cnt m b) : fin m b k = k * b + wid m b k := by
  have := fin_gt hb h
  unfold wid
  omega
theorem fin_lt {m b k : Nat} (hb : 1 ≤ b) (h : k + 1 < cnt m b) : fin m b k = (k + 1) * b := by
  have := (lt_cnt hb).mp h
  rw [Nat.add_mul] at this ⊢
  unfold fin
  omega
theorem mem_strs {m b : Nat} {x : Nat × Nat} : x ∈ strc m b ↔ ∃ k, k < cnt m b ∧ x = (k * b, fin m b k) := by
  unfold strc
  rw [List.mem_map]
  constructor
  · rintro ⟨k, hk, rfl⟩
    exact ⟨k, List.mem_range.mp hk, rfl⟩
  · rintro ⟨k, hk, rfl⟩
    exact ⟨k, List.mem_range.mpr hk, rfl⟩
theorem strs_length (m b : Nat) : (strc m b).length = cnt m b := by
  unfold strc
  rw [List.length_map, List.length_range]
theorem strs_get {m b k : Nat} (h : k < cnt m b) : (strc m b)[k]? = some (k * b, fin m b k) := by
  unfold strc
  rw [List.getElem?_map, List.getElem?_range h]
  rfl
theorem cnt_add {m b j c : Nat} (hb : 1 ≤ b) (h : (j + c) * b < m) : cnt m b = j + c + cnt (m - (j + c) * b) b := by
  unfold cnt
  have e : m + b - 1 = (m - (j + c) * b + b - 1) + b * (j + c) := by
    rw [Nat.mul_comm b]
    omega
  rw [e, Nat.add_mul_div_left _ _ (by omega)]
  omega

/-! ### filling and gluing -/
def fill : Sh → List Sh → Sh
  | .o, ps => ps.headD .o
  | .p l r, ps => .p (fill l (ps.take l.size)) (fill r (ps.drop l.size))
/-- what the stretches become -/
def press (s : Tb) (m b : Nat) : List Sh := (List.range (cnt m b)).map fun k => ent s (wid m b k)
def glueE (s t : Tb) (m : Nat) : Sh := fill (ent t (cnt m (tsz s))) (press s m (tsz s))
def glue (s t : Tb) : Tb := (List.range (tsz s * tsz t - 1)).map fun i => glueE s t (i + 2)

theorem press_length (s : Tb) (m b : Nat) : (press s m b).length = cnt m b := by
  unfold press
  rw [List.length_map, List.length_range]
theorem press_get {s : Tb} {m b k : Nat} (h : k < cnt m b) : (press s m b)[k]? = some (ent s (wid m b k)) := by
  unfold press
  rw [List.getElem?_map, List.getElem?_range h]
  rfl

/-- the sum of the sizes -/
def tot : List Sh → Nat
  | [] => 0
  | s :: r => s.size + tot r
theorem tot_append : ∀ xs ys : List Sh, tot (xs ++ ys) = tot xs + tot ys
  | [], ys => by simp [tot]
  | x :: xs, ys => by
    show x.size + tot (xs ++ ys) = x.size + tot xs + tot ys
    rw [tot_append xs ys]
    omega
theorem fill_size : ∀ (u : Sh) (ps : List Sh), ps.length = u.size → (fill u ps).size = tot ps
  | .o, ps, h => by
    match ps, h with
    | [x], _ => simp [fill, tot]
  | .p l r, ps, h => by
    have h : ps.length = l.size + r.size := h
    have e1 := fill_size l (ps.take l.size) (by rw [List.length_take]; omega)
    have e2 := fill_size r (ps.drop l.size) (by rw [List.length_drop]; omega)
    show (fill l _).size + (fill r _).size = _
    rw [e1, e2, ← tot_append, List.take_append_drop]
theorem tot_press {s : Tb} {m b : Nat} (hb : 1 ≤ b) (hs : ∀ w, 1 ≤ w → w ≤ b → w ≤ m → (ent s w).size = w) : tot (press s m b) = m := by
  have key : ∀ n, n ≤ cnt m b → tot ((List.range n).map fun k => ent s (wid m b k)) = min (n * b) m := by
    intro n
    induction n with
    | zero => intro _; simp [tot]
    | succ n ih =>
      intro h
      have h1 := (lt_cnt (m := m) (b := b) (k := n) hb).mp (by omega)
      have w1 := wid_pos (m := m) (b := b) (k := n) hb (by omega)
      rw [List.range_succ, List.map_append, tot_append, ih (by omega)]
      show min (n * b) m + ((ent s (wid m b n)).size + 0) = _
      rw [hs _ w1 (wid_le _ _ _) (wid_le' _ _ _), Nat.add_mul]
      unfold wid fin
      omega
  have h := key (cnt m b) (Nat.le_refl _)
  have h2 := (cnt_le (m := m) (b := b) (k := cnt m b) hb).mp (Nat.le_refl _)
  unfold press
  rw [h]
  omega
theorem glue_tsz {s t : Tb} : tsz (glue s t) = tsz s * tsz t := by
  have h : 1 ≤ tsz s * tsz t := Nat.mul_pos (by unfold tsz; omega) (by unfold tsz; omega)
  have e : (glue s t).length = tsz s * tsz t - 1 := by
    unfold glue
    rw [List.length_map, List.length_range]
  show (glue s t).length + 1 = _
  omega
theorem glueE_one {s t : Tb} (hs : 1 ≤ tsz s) : glueE s t 1 = .o := by
  have w : wid 1 (tsz s) 0 = 1 := by
    unfold wid fin
    omega
  unfold glueE press
  rw [cnt_small (by omega) hs]
  show ent s (wid 1 (tsz s) 0) = .o
  rw [w]
  rfl
theorem glue_ent {s t : Tb} {m : Nat} (h1 : 1 ≤ m) (h2 : m ≤ tsz s * tsz t) : ent (glue s t) m = glueE s t m := by
  by_cases e : m = 1
  · subst e
    rw [glueE_one (by unfold tsz; omega)]
    rfl
  · unfold ent
    rw [if_neg e, List.getD_eq_getElem?_getD]
    unfold glue
    rw [List.getElem?_map, List.getElem?_range (by omega)]
    show glueE s t (m - 2 + 2) = _
    rw [show m - 2 + 2 = m by omega]
theorem cnt_le_of {m b c : Nat} (hb : 1 ≤ b) (h : m ≤ b * c) : cnt m b ≤ c := (cnt_le hb).mpr (by rw [Nat.mul_comm]; exact h)
theorem glueE_size {s t : Tb} (hs : Ok s) (ht : Ok t) {m : Nat} (h1 : 1 ≤ m) (h2 : m ≤ tsz s * tsz t) : (glueE s t m).size = m := by
  have hb := hs.ne
  have hc := cnt_pos (m := m) (b := tsz s) (by omega) h1
  have hc2 := cnt_le_of (m := m) (b := tsz s) (by omega) h2
  unfold glueE
  rw [fill_size _ _ (by rw [press_length, ht.size hc hc2]), tot_press (by omega)]
  intro w w1 w2 _
  exact hs.size w1 w2
theorem glue_ok {s t : Tb} (hs : Ok s) (ht : Ok t) : Ok (glue s t) := by
  have h1 := hs.ne
  have h2 := ht.ne
  refine ⟨?_, fun m m1 m2 => ?_⟩
  · rw [glue_tsz]
    have := Nat.mul_le_mul h1 h2
    omega
  · rw [glue_tsz] at m2
    rw [glue_ent (by omega) m2]
    exact glueE_size hs ht (by omega) m2

/-! ### gluing does not hang on brackets -/
def grp : List Sh → List Sh → List Sh
  | [], _ => []
  | t :: ts, ss => fill t (ss.take t.size) :: grp ts (ss.drop t.size)
theorem grp_length : ∀ ts ss : List Sh, (grp ts ss).length = ts.length
  | [], _ => rfl
  | _ :: ts, ss => by
    show (grp ts _).length + 1 = ts.length + 1
    rw [grp_length ts]
theorem grp_take : ∀ (n : Nat) (ts ss : List Sh), (grp ts ss).take n = grp (ts.take n) (ss.take (tot (ts.take n)))
  | 0, ts, ss => by simp [grp]
  | n + 1, [], ss => by simp [grp]
  | n + 1, t :: ts, ss => by
    show fill t (ss.take t.size) :: (grp ts (ss.drop t.size)).take n = fill t ((ss.take (t.size + tot (ts.take n))).take t.size) :: grp (ts.take n) ((ss.take (t.size + tot (ts.take n))).drop t.size)
    rw [grp_take n ts, List.take_take, List.drop_take, show min t.size (t.size + tot (ts.take n)) = t.size by omega, show t.size + tot (ts.take n) - t.size = tot (ts.take n) by omega]
theorem grp_drop : ∀ (n : Nat) (ts ss : List Sh), (grp ts ss).drop n = grp (ts.drop n) (ss.drop (tot (ts.take n)))
  | 0, ts, ss => by simp [tot]
  | n + 1, [], ss => by simp [grp]
  | n + 1, t :: ts, ss => by
    show (grp ts (ss.drop t.size)).drop n = grp (ts.drop n) (ss.drop (t.size + tot (ts.take n)))
    rw [grp_drop n ts, List.drop_drop]
theorem fill_fill : ∀ (u : Sh) (ts ss : List Sh), ts.length = u.size → ss.length = tot ts → fill (fill u ts) ss = fill u (grp ts ss)
  | .o, ts, ss, h, h2 => by
    match ts, h, h2 with
    | [t], _, h2 =>
      have h2 : ss.length = t.size := h2
      show fill t ss = fill t (ss.take t.size)
      rw [List.take_of_length_le (by omega)]
  | .p l r, ts, ss, h, h2 => by
    have h : ts.length = l.size + r.size := h
    have hz : tot (ts.take l.size) + tot (ts.drop l.size) = tot ts := by rw [← tot_append, List.take_append_drop]
    have el : (fill l (ts.take l.size)).size = tot (ts.take l.size) := fill_size _ _ (by rw [List.length_take]; omega)
    have i1 := fill_fill l (ts.take l.size) (ss.take (tot (ts.take l.size))) (by rw [List.length_take]; omega) (by rw [List.length_take]; omega)
    have i2 := fill_fill r (ts.drop l.size) (ss.drop (tot (ts.take l.size))) (by rw [List.length_drop]; omega) (by rw [List.length_drop]; omega)
    show Sh.p (fill (fill l (ts.take l.size)) (ss.take (fill l (ts.take l.size)).size)) (fill (fill r (ts.drop l.size)) (ss.drop (fill l (ts.take l.size)).size)) = Sh.p (fill l ((grp ts ss).take l.size)) (fill r ((grp ts ss).drop l.size))
    rw [el, i1, i2, grp_take, grp_drop]
theorem grp_get : ∀ (ts ss : List Sh) (j : Nat) (t : Sh), ts[j]? = some t → (grp ts ss)[j]? = some (fill t ((ss.drop (tot (ts.take j))).take t.size))
  | [], _, j, _, h => by simp at h
  | x :: ts, ss, 0, t, h => by
    have e : x = t := by simpa using h
    subst e
    simp [grp, tot]
  | x :: ts, ss, j + 1, t, h => by
    have h' : ts[j]? = some t := by simpa using h
    show (grp ts (ss.drop x.size))[j]? = some (fill t ((ss.drop (x.size + tot (ts.take j))).take t.size))
    rw [grp_get ts _ j t h', List.drop_drop]
theorem tot_press_take {s : Tb} {m b : Nat} (hb : 1 ≤ b) (hs : ∀ w, 1 ≤ w → w ≤ b → w ≤ m → (ent s w).size = w) {n : Nat} (h : n < cnt m b) : tot ((press s m b).take n) = n * b := by
  have key : ∀ n, n < cnt m b → tot ((List.range n).map fun k => ent s (wid m b k)) = n * b := by
    intro n
    induction n with
    | zero => intro _; simp [tot]
    | succ n ih =>
      intro h
      have w1 := wid_pos (m := m) (b := b) (k := n) hb (by omega)
      have f1 := fin_lt (m := m) (b := b) (k := n) hb (by omega)
      rw [List.range_succ, List.map_append, tot_append, ih (by omega)]
      show n * b + ((ent s (wid m b n)).size + 0) = _
      rw [hs _ w1 (wid_le _ _ _) (wid_le' _ _ _)]
      unfold wid
      rw [f1, Nat.add_mul]
      omega
  rw [← key n h]
  unfold press
  rw [← List.map_take, List.take_range, Nat.min_eq_left (by omega)]
theorem cnt_cnt {m a b : Nat} (ha : 1 ≤ a) (hb : 1 ≤ b) : cnt (cnt m a) b = cnt m (a * b) := by
  have hab : 1 ≤ a * b := Nat.mul_pos ha hb
  have key : ∀ k, k < cnt (cnt m a) b ↔ k < cnt m (a * b) := fun k => by
    rw [lt_cnt hb, lt_cnt ha, lt_cnt hab, Nat.mul_assoc, Nat.mul_comm b a]
  have h1 := key (cnt (cnt m a) b)
  have h2 := key (cnt m (a * b))
  omega
theorem glueE_assoc {s t u : Tb} (hs : Ok s) (ht : Ok t) (hu : Ok u) {m : Nat} (h1 : 1 ≤ m) (h2 : m ≤ tsz s * tsz t * tsz u) : glueE (glue s t) u m = glueE s (glue t u) m := by
  have ha := hs.ne
  have hb := ht.ne
  have hc := hu.ne
  have hab : 1 ≤ tsz s * tsz t := Nat.mul_pos (by omega) (by omega)
  have hK : 1 ≤ cnt m (tsz s) := cnt_pos (by omega) h1
  have hK2 : cnt m (tsz s) ≤ tsz t * tsz u := cnt_le_of (by omega) (by rw [← Nat.mul_assoc]; exact h2)
  have hJ : 1 ≤ cnt m (tsz s * tsz t) := cnt_pos hab h1
  have hJ2 : cnt m (tsz s * tsz t) ≤ tsz u := cnt_le_of hab h2
  have hcc : cnt (cnt m (tsz s)) (tsz t) = cnt m (tsz s * tsz t) := cnt_cnt (by omega) (by omega)
  unfold glueE
  rw [glue_tsz, glue_ent hK hK2]
  unfold glueE
  have st : ∀ w, 1 ≤ w → w ≤ tsz t → w ≤ cnt m (tsz s) → (ent t w).size = w := fun w w1 w2 _ => ht.size w1 w2
  rw [fill_fill _ _ _ (by rw [press_length, hcc, hu.size hJ hJ2]) (by rw [press_length, tot_press (by omega) st]), hcc]
  congr 1
  refine List.ext_getElem? fun j => ?_
  by_cases hj : j < cnt m (tsz s * tsz t)
  · have hj' : j < cnt (cnt m (tsz s)) (tsz t) := by omega
    have w1 := wid_pos (m := m) (b := tsz s * tsz t) (k := j) hab hj
    have w2 := wid_le m (tsz s * tsz t) j
    have v1 := wid_pos (m := cnt m (tsz s)) (b := tsz t) (k := j) (by omega) hj'
    have v2 := wid_le (cnt m (tsz s)) (tsz t) j
    rw [press_get hj, grp_get _ _ _ _ (press_get hj'), tot_press_take (by omega) st hj', ht.size v1 v2, glue_ent w1 w2]
    unfold glueE
    -- the widths: of the a-stretches in the stretch j of a * b
    have jm : j * (tsz s * tsz t) < m := (lt_cnt hab).mp hj
    have eW : cnt (wid m (tsz s * tsz t) j) (tsz s) = wid (cnt m (tsz s)) (tsz t) j := by
      have hjk : j * tsz t < cnt m (tsz s) := (lt_cnt (by omega)).mp hj'
      have key : ∀ k, k < cnt (wid m (tsz s * tsz t) j) (tsz s) ↔ k < wid (cnt m (tsz s)) (tsz t) j := fun k => by
        have q1 := lt_cnt (m := wid m (tsz s * tsz t) j) (b := tsz s) (k := k) (by omega)
        have q2 := lt_cnt (m := m) (b := tsz s) (k := j * tsz t + k) (by omega)
        have q3 : (j * tsz t + k) * tsz s = j * (tsz s * tsz t) + k * tsz s := by
          rw [Nat.add_mul, Nat.mul_assoc, Nat.mul_comm (tsz t)]
        have q4 : k * tsz s < tsz s * tsz t ↔ k < tsz t := by
          rw [Nat.mul_comm k]
          exact Nat.mul_lt_mul_left (by omega)
        rw [q1]
        unfold wid fin
        rw [q3] at q2
        omega
      have k1 := key (cnt (wid m (tsz s * tsz t) j) (tsz s))
      have k2 := key (wid (cnt m (tsz s)) (tsz t) j)
      omega
    rw [eW]
    congr 2
    refine List.ext_getElem? fun i => ?_
    by_cases hi : i < wid (cnt m (tsz s)) (tsz t) j
    · have hjk : j * tsz t < cnt m (tsz s) := (lt_cnt (by omega)).mp hj'
      have hi2 : j * tsz t + i < cnt m (tsz s) := by
        unfold wid fin at hi
        omega
      rw [press_get (by rw [eW]; exact hi), List.getElem?_take_of_lt hi, List.getElem?_drop, press_get hi2]
      congr 2
      have q3 : (j * tsz t + i) * tsz s = j * (tsz s * tsz t) + i * tsz s := by
        rw [Nat.add_mul, Nat.mul_assoc, Nat.mul_comm (tsz t)]
      have i1 : i + 1 ≤ tsz t := by omega
      have q4 : i * tsz s + tsz s ≤ tsz s * tsz t := by
        have := Nat.mul_le_mul_right (tsz s) i1
        rw [Nat.add_mul, Nat.mul_comm (tsz t)] at this
        omega
      unfold wid fin
      rw [q3]
      omega
    · rw [List.getElem?_eq_none (by rw [press_length, eW]; omega), List.getElem?_eq_none (by rw [List.length_take]; omega)]
  · rw [List.getElem?_eq_none (by rw [press_length]; omega), List.getElem?_eq_none (by rw [grp_length, press_length]; omega)]
theorem glue_assoc {s t u : Tb} (hs : Ok s) (ht : Ok t) (hu : Ok u) : glue (glue s t) u = glue s (glue t u) := by
  refine ext_ent (by rw [glue_tsz, glue_tsz, glue_tsz, glue_tsz, Nat.mul_assoc]) fun m m1 m2 => ?_
  rw [glue_tsz, glue_tsz] at m2
  rw [glue_ent (by omega) (by rw [glue_tsz]; exact m2), glue_ent (by omega) (by rw [glue_tsz, ← Nat.mul_assoc]; exact m2)]
  exact glueE_assoc hs ht hu (by omega) m2

/-! ### the parts of a shape -/
/-- the part with the places x, of a shape that begins at b -/
def part : Sh → Nat → Nat × Nat → Option Sh
  | .o, b, x => if x = (b, b + 1) then some .o else none
  | .p l r, b, x => if x = (b, b + (l.size + r.size)) then some (.p l r) else (part r (b + l.size) x).or (part l b x)
theorem part_in : ∀ (s : Sh) (b : Nat) (x : Nat × Nat) (q : Sh), part s b x = some q → b ≤ x.1 ∧ x.1 < x.2 ∧ x.2 ≤ b + s.size
  | .o, b, x, q, h => by
    unfold part at h
    split at h
    · rename_i e
      subst e
      exact ⟨Nat.le_refl _, Nat.lt_succ_self _, Nat.le_refl _⟩
    · cases h
  | .p l r, b, x, q, h => by
    have l1 := l.size_pos
    have r1 := r.size_pos
    show b ≤ x.1 ∧ x.1 < x.2 ∧ x.2 ≤ b + (l.size + r.size)
    unfold part at h
    split at h
    · rename_i e
      subst e
      exact ⟨Nat.le_refl _, by show b < b + _; omega, Nat.le_refl _⟩
    · cases hr : part r (b + l.size) x with
      | some z =>
        have := part_in r _ _ _ hr
        omega
      | none =>
        rw [hr] at h
        have := part_in l _ _ _ h
        omega
theorem part_size : ∀ (s : Sh) (b : Nat) (x : Nat × Nat) (q : Sh), part s b x = some q → q.size ≤ s.size
  | .o, b, x, q, h => by
    unfold part at h
    split at h
    · obtain rfl : Sh.o = q := Option.some.inj h
      exact Nat.le_refl _
    · cases h
  | .p l r, b, x, q, h => by
    show q.size ≤ l.size + r.size
    unfold part at h
    split at h
    · obtain rfl : Sh.p l r = q := Option.some.inj h
      exact Nat.le_refl _
    · cases hr : part r (b + l.size) x with
      | some z =>
        rw [hr] at h
        obtain rfl : z = q := by simpa using h
        have := part_size r _ _ _ hr
        omega
      | none =>
        rw [hr] at h
        have := part_size l _ _ _ h
        omega
theorem part_none {s : Sh} {b : Nat} {x : Nat × Nat} (h : ¬ (b ≤ x.1 ∧ x.2 ≤ b + s.size)) : part s b x = none := by
  cases e : part s b x with
  | none => rfl
  | some q =>
    have := part_in _ _ _ _ e
    exact absurd ⟨this.1, this.2.2⟩ h
theorem part_self : ∀ (s : Sh) (b : Nat), part s b (b, b + s.size) = some s
  | .o, b => by simp [part, Sh.size]
  | .p l r, b => by
    unfold part
    exact if_pos rfl
theorem part_left {l r : Sh} {b : Nat} {x : Nat × Nat} (h1 : x ≠ (b, b + (l.size + r.size))) (h2 : x.1 < b + l.size) : part (.p l r) b x = part l b x := by
  show (if x = (b, b + (l.size + r.size)) then some (Sh.p l r) else (part r (b + l.size) x).or (part l b x)) = _
  rw [if_neg h1, part_none (s := r) (by omega)]
  rfl
theorem part_right {l r : Sh} {b : Nat} {x : Nat × Nat} (h1 : x ≠ (b, b + (l.size + r.size))) (h2 : b + l.size < x.2) : part (.p l r) b x = part r (b + l.size) x := by
  show (if x = (b, b + (l.size + r.size)) then some (Sh.p l r) else (part r (b + l.size) x).or (part l b x)) = _
  rw [if_neg h1, part_none (s := l) (by omega)]
  cases part r (b + l.size) x <;> rfl
/-- the law's list: the whole first -/
def lumps : Sh → Nat → List (Nat × Nat × Sh)
  | .o, b => [(b, b + 1, .o)]
  | .p l r, b => (b, b + (l.size + r.size), .p l r) :: (lumps l b ++ lumps r (b + l.size))
theorem mem_lumps : ∀ (s : Sh) (b : Nat) (x : Nat × Nat), x ∈ (lumps s b).map (fun y => (y.1, y.2.1)) ↔ (part s b x).isSome = true
  | .o, b, x => by
    show x ∈ [(b, b + 1)] ↔ (if x = (b, b + 1) then some Sh.o else none).isSome = true
    by_cases e : x = (b, b + 1)
    · rw [if_pos e]; simp [e]
    · rw [if_neg e]; simp [e]
  | .p l r, b, x => by
    show x ∈ (b, b + (l.size + r.size)) :: ((lumps l b ++ lumps r (b + l.size)).map fun y => (y.1, y.2.1)) ↔ (if x = (b, b + (l.size + r.size)) then some (Sh.p l r) else (part r (b + l.size) x).or (part l b x)).isSome = true
    rw [List.mem_cons, List.map_append, List.mem_append, mem_lumps l, mem_lumps r]
    by_cases e : x = (b, b + (l.size + r.size))
    · rw [if_pos e]; simp [e]
    · rw [if_neg e, Option.isSome_or, Bool.or_eq_true]
      constructor
      · rintro (h | h | h)
        · exact absurd h e
        · exact .inr h
        · exact .inl h
      · rintro (h | h)
        · exact .inr (.inr h)
        · exact .inr (.inl h)

/-! ### the shape above -/
def abv : Sh → Nat → List (Nat × Nat) → Sh
  | .o, _, _ => .o
  | .p l r, b, ps => if (b, b + (l.size + r.size)) ∈ ps then .o else .p (abv l b ps) (abv r (b + l.size) ps)
theorem abv_mem {s : Sh} {b : Nat} {ps : List (Nat × Nat)} (h : (b, b + s.size) ∈ ps) : abv s b ps = .o := by
  cases s with
  | o => rfl
  | p l r => exact if_pos h

/-- where a run of c stretches from k on ends -/
theorem fin_ge {m b k c : Nat} (h : k + 1 ≤ c) : fin m b k ≤ min (c * b) m := by
  have := Nat.mul_le_mul_right b h
  rw [Nat.add_mul] at this
  unfold fin
  omega
theorem not_mem_run {m b k c : Nat} (hb : 1 ≤ b) (hc : 2 ≤ c) (hk : k + c ≤ cnt m b) : (k * b, min ((k + c) * b) m) ∉ strc m b := by
  intro h
  obtain ⟨j, hj, e⟩ := mem_strs.mp h
  have e1 : k * b = j * b := congrArg Prod.fst e
  have e2 : min ((k + c) * b) m = fin m b j := congrArg Prod.snd e
  have e3 : k = j := Nat.eq_of_mul_eq_mul_right (by omega) e1
  subst e3
  have q := (lt_cnt (m := m) (b := b) (k := k + 1) hb).mp (by omega)
  have q2 := Nat.mul_le_mul_right b (show k + 2 ≤ k + c by omega)
  rw [Nat.add_mul] at q q2
  unfold fin at e2
  omega

theorem take_run (k c n : Nat) (h : n ≤ c) : (List.range' k c).take n = List.range' k n := by
  refine List.ext_getElem? fun i => ?_
  by_cases hi : i < n
  · rw [List.getElem?_take_of_lt hi, List.getElem?_range' (by omega), List.getElem?_range' hi]
  · rw [List.getElem?_eq_none (by rw [List.length_take]; omega), List.getElem?_eq_none (by rw [List.length_range']; omega)]
theorem drop_run (k c n : Nat) : (List.range' k c).drop n = List.range' (k + n) (c - n) := by
  rw [List.drop_range', Nat.mul_one]
/-- the shapes that the parts at the stretches k, k + 1, .. are put together to -/
theorem abv_fill {m b : Nat} (hb : 1 ≤ b) {f : Nat → Sh} (hf : ∀ k, k < cnt m b → (f k).size = wid m b k) : ∀ (u : Sh) (k : Nat), k + u.size ≤ cnt m b →
    (fill u ((List.range' k u.size).map f)).size = min ((k + u.size) * b) m - k * b ∧ abv (fill u ((List.range' k u.size).map f)) (k * b) (strc m b) = u ∧
      ∀ j, k ≤ j → j < k + u.size → part (fill u ((List.range' k u.size).map f)) (k * b) (j * b, fin m b j) = some (f j)
  | .o, k, h => by
    have h : k + 1 ≤ cnt m b := h
    show (f k).size = min ((k + 1) * b) m - k * b ∧ abv (f k) (k * b) (strc m b) = .o ∧ ∀ j, k ≤ j → j < k + 1 → part (f k) (k * b) (j * b, fin m b j) = some (f j)
    have e := hf k (by omega)
    have e2 := fin_wid (m := m) (b := b) (k := k) hb (by omega)
    refine ⟨?_, abv_mem ?_, fun j h1 h2 => ?_⟩
    · rw [e, Nat.add_mul]
      unfold wid fin
      omega
    · rw [e, ← e2]
      exact mem_strs.mpr ⟨k, by omega, rfl⟩
    · obtain rfl : j = k := by omega
      rw [e2, ← e]
      exact part_self _ _
  | .p l r, k, h => by
    have h : k + (l.size + r.size) ≤ cnt m b := h
    have l1 := l.size_pos
    have r1 := r.size_pos
    have e1 : ((List.range' k (l.size + r.size)).map f).take l.size = (List.range' k l.size).map f := by
      rw [← List.map_take, take_run _ _ _ (by omega)]
    have e2 : ((List.range' k (l.size + r.size)).map f).drop l.size = (List.range' (k + l.size) r.size).map f := by
      rw [← List.map_drop, drop_run, Nat.add_sub_cancel_left]
    obtain ⟨a1, a2, a3⟩ := abv_fill hb hf l k (by omega)
    obtain ⟨b1, b2, b3⟩ := abv_fill hb hf r (k + l.size) (by omega)
    show (Sh.p (fill l (((List.range' k (l.size + r.size)).map f).take l.size)) (fill r (((List.range' k (l.size + r.size)).map f).drop l.size))).size = _ ∧ abv (Sh.p (fill l (((List.range' k (l.size + r.size)).map f).take l.size)) (fill r (((List.range' k (l.size + r.size)).map f).drop l.size))) _ _ = _ ∧
      ∀ j, k ≤ j → j < k + (l.size + r.size) → part (Sh.p (fill l (((List.range' k (l.size + r.size)).map f).take l.size)) (fill r (((List.range' k (l.size + r.size)).map f).drop l.size))) _ _ = _
    rw [e1, e2]
    have q1 := (lt_cnt (m := m) (b := b) (k := k + l.size) hb).mp (by omega)
    have q0 := Nat.mul_le_mul_right b (show k ≤ k + l.size by omega)
    have q2 := Nat.mul_le_mul_right b (show k + l.size ≤ k + l.size + r.size by omega)
    have q3 : k + (l.size + r.size) = k + l.size + r.size := by omega
    have zl : (fill l ((List.range' k l.size).map f)).size = (k + l.size) * b - k * b := by rw [a1]; omega
    have zz : (fill l ((List.range' k l.size).map f)).size + (fill r ((List.range' (k + l.size) r.size).map f)).size = min ((k + (l.size + r.size)) * b) m - k * b := by
      rw [zl, b1, q3]; omega
    have zm : k * b + (fill l ((List.range' k l.size).map f)).size = (k + l.size) * b := by omega
    have ze : k * b + ((fill l ((List.range' k l.size).map f)).size + (fill r ((List.range' (k + l.size) r.size).map f)).size) = min ((k + (l.size + r.size)) * b) m := by
      rw [zz, q3]; omega
    refine ⟨zz, ?_, fun j h1 h2 => ?_⟩
    · have nm := not_mem_run (m := m) (b := b) (k := k) (c := l.size + r.size) hb (by omega) h
      show (if (k * b, k * b + ((fill l ((List.range' k l.size).map f)).size + (fill r ((List.range' (k + l.size) r.size).map f)).size)) ∈ strc m b then Sh.o else _) = _
      rw [ze, if_neg nm, a2, zm, b2]
    · have jc : j < cnt m b := by omega
      have ne : (j * b, fin m b j) ≠ (k * b, k * b + ((fill l ((List.range' k l.size).map f)).size + (fill r ((List.range' (k + l.size) r.size).map f)).size)) := by
        rw [ze]
        intro e
        exact not_mem_run (m := m) (b := b) (k := k) (c := l.size + r.size) hb (by omega) h (e ▸ mem_strs.mpr ⟨j, jc, rfl⟩)
      by_cases hj : j < k + l.size
      · have w1 := Nat.mul_le_mul_right b (show j + 1 ≤ k + l.size by omega)
        rw [Nat.add_mul] at w1
        rw [part_left ne (by rw [zm]; show j * b < _; omega)]
        exact a3 j h1 hj
      · have w1 := Nat.mul_le_mul_right b (show k + l.size ≤ j by omega)
        have w2 := fin_gt (m := m) (b := b) (k := j) hb jc
        rw [part_right ne (by rw [zm]; show _ < fin m b j; omega), zm]
        exact b3 j (by omega) (by omega)

/-- if all stretches are lumps, the shape is put together of its parts there -/
theorem fill_abv {m b : Nat} (hb : 1 ≤ b) {f : Nat → Sh} : ∀ (s : Sh) (k c : Nat), k + c ≤ cnt m b → 1 ≤ c → s.size = min ((k + c) * b) m - k * b →
    (∀ j, k ≤ j → j < k + c → part s (k * b) (j * b, fin m b j) = some (f j)) →
    (abv s (k * b) (strc m b)).size = c ∧ fill (abv s (k * b) (strc m b)) ((List.range' k c).map f) = s := by
  intro s
  induction s with
  | o =>
    intro k c h1 h2 h3 h4
    have q := (lt_cnt (m := m) (b := b) (k := k + c - 1) hb).mp (by omega)
    have h3 : 1 = min ((k + c) * b) m - k * b := h3
    obtain rfl : c = 1 := by
      rcases Nat.lt_or_ge 1 c with hc | hc
      · have w := Nat.mul_le_mul_right b (show k + 1 ≤ k + c - 1 by omega)
        have w2 := Nat.mul_le_mul_right b (show k + 2 ≤ k + c by omega)
        rw [Nat.add_mul] at w w2
        omega
      · omega
    refine ⟨rfl, ?_⟩
    have e := h4 k (Nat.le_refl _) (by omega)
    have z := part_in _ _ _ _ e
    have z3 : fin m b k ≤ k * b + 1 := z.2.2
    have z2 : k * b < fin m b k := z.2.1
    have z4 : fin m b k = k * b + 1 := by omega
    rw [z4] at e
    have e2 := part_self .o (k * b)
    have e3 : part Sh.o (k * b) (k * b, k * b + 1) = some Sh.o := e2
    rw [e3] at e
    show f k = .o
    exact (Option.some.inj e).symm
  | p l r ihl ihr =>
    intro k c h1 h2 h3 h4
    have l1 := l.size_pos
    have r1 := r.size_pos
    have h3 : l.size + r.size = min ((k + c) * b) m - k * b := h3
    rcases Nat.lt_or_ge 1 c with hc | hc
    · -- two stretches or more: none is the whole
      have ks := (lt_cnt (m := m) (b := b) (k := k) hb).mp (by omega)
      have kc := Nat.mul_le_mul_right b (show k ≤ k + c by omega)
      have ew : k * b + (l.size + r.size) = min ((k + c) * b) m := by omega
      have nm := not_mem_run (m := m) (b := b) (k := k) (c := c) hb (by omega) h1
      have ne : ∀ j, k ≤ j → j < k + c → (j * b, fin m b j) ≠ (k * b, k * b + (l.size + r.size)) := fun j _ hj e => nm (by rw [← ew, ← e]; exact mem_strs.mpr ⟨j, by omega, rfl⟩)
      -- the stretch that the left part ends in
      have zlt : k * b + l.size - 1 < m := by omega
      have hj1 : (k * b + l.size - 1) / b * b ≤ k * b + l.size - 1 := Nat.div_mul_le_self _ _
      have hj2 : k * b + l.size - 1 < ((k * b + l.size - 1) / b + 1) * b := by
        have := Nat.lt_mul_div_succ (k * b + l.size - 1) (show 0 < b by omega)
        rw [Nat.mul_comm b] at this
        exact this
      generalize (k * b + l.size - 1) / b = j at hj1 hj2
      have jk : k ≤ j := by
        rcases Nat.lt_or_ge j k with z | z
        · have := Nat.mul_le_mul_right b (show j + 1 ≤ k by omega)
          omega
        · exact z
      have jc : j < k + c := by
        rcases Nat.lt_or_ge j (k + c) with z | z
        · exact z
        · have := Nat.mul_le_mul_right b z
          omega
      have jcnt : j < cnt m b := by omega
      have pj := h4 j jk jc
      rw [part_left (ne j jk jc) (by show j * b < _; omega)] at pj
      have pin := part_in _ _ _ _ pj
      have pin3 : fin m b j ≤ k * b + l.size := pin.2.2
      have fj : fin m b j = k * b + l.size := by
        have hj2' := hj2
        rw [Nat.add_mul] at hj2'
        unfold fin at pin3 ⊢
        omega
      have zm : k * b + l.size = (j + 1) * b := by
        have hj2' := hj2
        rw [Nat.add_mul] at hj2' ⊢
        unfold fin at fj
        omega
      have jc2 : j + 1 < k + c := by
        rcases Nat.lt_or_ge (j + 1) (k + c) with z | z
        · exact z
        · have := Nat.mul_le_mul_right b z
          omega
      have q := (lt_cnt (m := m) (b := b) (k := j + 1) hb).mp (by omega)
      have ec : k + (j + 1 - k) = j + 1 := by omega
      have ec2 : j + 1 + (k + c - (j + 1)) = k + c := by omega
      obtain ⟨a1, a2⟩ := ihl k (j + 1 - k) (by omega) (by omega) (by rw [ec]; omega) (fun i i1 i2 => by
        have w := Nat.mul_le_mul_right b (show i ≤ j by omega)
        rw [← part_left (ne i i1 (by omega)) (by show i * b < _; omega)]
        exact h4 i i1 (by omega))
      obtain ⟨b1, b2⟩ := ihr (j + 1) (k + c - (j + 1)) (by omega) (by omega) (by rw [ec2]; omega) (fun i i1 i2 => by
        have w := Nat.mul_le_mul_right b i1
        have w2 := fin_gt (m := m) (b := b) (k := i) hb (by omega)
        have := h4 i (by omega) (by omega)
        rw [part_right (ne i (by omega) (by omega)) (by show _ < fin m b i; omega), zm] at this
        exact this)
      have ea : abv (.p l r) (k * b) (strc m b) = .p (abv l (k * b) (strc m b)) (abv r ((j + 1) * b) (strc m b)) := by
        show (if (k * b, k * b + (l.size + r.size)) ∈ strc m b then Sh.o else _) = _
        rw [ew, if_neg nm, zm]
      rw [ea]
      refine ⟨by show (abv l _ _).size + (abv r _ _).size = _; omega, ?_⟩
      have t1 : ((List.range' k c).map f).take (abv l (k * b) (strc m b)).size = (List.range' k (j + 1 - k)).map f := by
        rw [a1, ← List.map_take, take_run _ _ _ (by omega)]
      have t2 : ((List.range' k c).map f).drop (abv l (k * b) (strc m b)).size = (List.range' (j + 1) (k + c - (j + 1))).map f := by
        rw [a1, ← List.map_drop, drop_run, ec, show c - (j + 1 - k) = k + c - (j + 1) by omega]
      show Sh.p (fill _ (((List.range' k c).map f).take (abv l (k * b) (strc m b)).size)) (fill _ (((List.range' k c).map f).drop (abv l (k * b) (strc m b)).size)) = _
      rw [t1, t2, a2, b2]
    · -- one stretch: the whole
      obtain rfl : c = 1 := by omega
      have e := h4 k (Nat.le_refl _) (by omega)
      have ks := fin_gt (m := m) (b := b) (k := k) hb (by omega)
      have ef : fin m b k = k * b + (l.size + r.size) := by
        have h3' := h3
        rw [Nat.add_mul] at h3'
        unfold fin at ks ⊢
        omega
      have em : (k * b, k * b + (l.size + r.size)) ∈ strc m b := by
        rw [← ef]
        exact mem_strs.mpr ⟨k, by omega, rfl⟩
      rw [ef] at e
      have e2 : part (.p l r) (k * b) (k * b, k * b + (l.size + r.size)) = some (.p l r) := part_self (.p l r) (k * b)
      rw [e2] at e
      have ea : abv (.p l r) (k * b) (strc m b) = .o := if_pos em
      rw [ea]
      exact ⟨rfl, (Option.some.inj e).symm⟩

/-! ### cuts -/
def sa (t : Tb) (b m : Nat) : Sh := abv (ent t m) 0 (strc m b)
def OkStr (t : Tb) (b m : Nat) : Prop := ∀ k, k < cnt m b → part (ent t m) 0 (k * b, fin m b k) = some (ent t (wid m b k))
/-- the least m with as many stretches -/
def told (b m : Nat) : Nat := max 2 ((cnt m b - 1) * b + 1)
def IsCut (t : Tb) (b : Nat) : Prop := tsz t % b = 0 ∧ ∀ m, 2 ≤ m → m ≤ tsz t → OkStr t b m ∧ sa t b (told b m) = sa t b m
def behind (t : Tb) (b : Nat) : Tb := (List.range (tsz t / b - 1)).map fun i => sa t b ((i + 2) * b)
def LawAll (t : Tb) (b : Nat) : Prop := ∀ m, 2 ≤ m → m ≤ tsz t / b → ∀ k, k < cnt (m * b) b → (part (ent t (m * b)) 0 (k * b, fin (m * b) b k)).isSome = true
def LawCut (t : Tb) (b : Nat) : Prop := tsz t % b = 0 ∧ LawAll t b ∧ glue (t.take (b - 1)) (behind t b) = t

theorem told_cnt {b m : Nat} (hb : 2 ≤ b) (hm : 2 ≤ m) : cnt (told b m) b = cnt m b ∧ 2 ≤ told b m ∧ told b m ≤ m := by
  have c1 := cnt_pos (m := m) (b := b) (by omega) (by omega)
  have q := (lt_cnt (m := m) (b := b) (k := cnt m b - 1) (by omega)).mp (by omega)
  have e : cnt m b = cnt m b - 1 + 1 := by omega
  unfold told
  refine ⟨?_, by omega, by omega⟩
  rw [e, cnt_eq (by omega)]
  generalize hc : cnt m b - 1 = c at *
  rw [show c + 1 - 1 = c by omega]
  cases c with
  | zero => omega
  | succ c =>
    simp only [Nat.add_mul, Nat.one_mul] at q ⊢
    omega
theorem told_eq {b m n : Nat} (h : cnt m b = cnt n b) : told b m = told b n := by
  unfold told
  rw [h]
theorem take_ent {t : Tb} {b m : Nat} (h1 : 1 ≤ m) (h2 : m ≤ b) : ent (t.take (b - 1)) m = ent t m := by
  by_cases e : m = 1
  · subst e; rfl
  · unfold ent
    rw [if_neg e, if_neg e, List.getD_eq_getElem?_getD, List.getD_eq_getElem?_getD, List.getElem?_take_of_lt (by omega)]
theorem take_tsz {t : Tb} {b : Nat} (h1 : 1 ≤ b) (h2 : b ≤ tsz t) : tsz (t.take (b - 1)) = b := by
  unfold tsz at h2 ⊢
  rw [List.length_take]
  omega
theorem take_ok {t : Tb} (h : Ok t) {b : Nat} (h1 : 2 ≤ b) (h2 : b ≤ tsz t) : Ok (t.take (b - 1)) := by
  refine ⟨by rw [take_tsz (by omega) h2]; exact h1, fun m m1 m2 => ?_⟩
  rw [take_tsz (by omega) h2] at m2
  rw [take_ent (by omega) m2]
  exact h.sz m m1 (by omega)
theorem press_run {s t : Tb} {m b : Nat} (hb : 1 ≤ b) (h : ∀ w, 1 ≤ w → w ≤ b → w ≤ m → ent s w = ent t w) : press s m b = (List.range' 0 (cnt m b)).map fun k => ent t (wid m b k) := by
  unfold press
  rw [List.range_eq_range']
  refine List.map_congr_left fun k hk => ?_
  have hk2 : k < cnt m b := by
    have := List.mem_range'_1.mp hk
    omega
  exact h _ (wid_pos hb hk2) (wid_le _ _ _) (wid_le' _ _ _)
theorem run_end {m b : Nat} (hb : 1 ≤ b) : min ((0 + cnt m b) * b) m = m := by
  have := (cnt_le (m := m) (b := b) (k := cnt m b) hb).mp (Nat.le_refl _)
  rw [Nat.zero_add]
  omega
theorem behind_tsz {t : Tb} {b : Nat} (h : 1 ≤ tsz t / b) : tsz (behind t b) = tsz t / b := by
  unfold behind
  rw [show tsz ((List.range (tsz t / b - 1)).map fun i => sa t b ((i + 2) * b)) = tsz t / b - 1 + 1 by
    unfold tsz
    rw [List.length_map, List.length_range]]
  omega
theorem behind_ent {t : Tb} {b k : Nat} (h1 : 2 ≤ k) (h2 : k ≤ tsz t / b) : ent (behind t b) k = sa t b (k * b) := by
  unfold ent
  rw [if_neg (by omega), List.getD_eq_getElem?_getD]
  unfold behind
  rw [List.getElem?_map, List.getElem?_range (by omega)]
  show sa t b ((k - 2 + 2) * b) = _
  rw [show k - 2 + 2 = k by omega]
theorem quot_two {n b : Nat} (hb : 2 ≤ b) (hn : b < n) (h : n % b = 0) : 2 ≤ n / b ∧ n / b * b = n ∧ n / b < n := by
  have e : n / b * b = n := Nat.div_mul_cancel (Nat.dvd_of_mod_eq_zero h)
  refine ⟨?_, e, Nat.div_lt_self (by omega) (by omega)⟩
  generalize n / b = q at e
  match q, e with
  | 0, e => omega
  | 1, e => omega
  | _ + 2, _ => omega
/-- what the law's look at the stretches gives: the shapes above have their sizes -/
theorem lawAll_size {t : Tb} {b : Nat} (ht : Ok t) (hb : 1 ≤ b) {m : Nat} (h1 : 1 ≤ m) (h2 : m ≤ tsz t) (h : ∀ k, k < cnt m b → (part (ent t m) 0 (k * b, fin m b k)).isSome = true) : (sa t b m).size = cnt m b := by
  have q := fill_abv (m := m) (b := b) hb (f := fun k => (part (ent t m) 0 (k * b, fin m b k)).getD .o) (ent t m) 0 (cnt m b) (by omega) (cnt_pos hb h1) (by rw [run_end hb, ht.size h1 h2]; omega) (fun j _ hj => by
    rw [Nat.zero_mul]
    have := h j (by omega)
    cases e : part (ent t m) 0 (j * b, fin m b j) with
    | none => rw [e] at this; cases this
    | some z => rfl)
  rw [Nat.zero_mul] at q
  exact q.1
theorem okStr_fill {t : Tb} {b : Nat} (ht : Ok t) (hb : 1 ≤ b) {m : Nat} (h1 : 1 ≤ m) (h2 : m ≤ tsz t) (h : OkStr t b m) : (sa t b m).size = cnt m b ∧ fill (sa t b m) ((List.range' 0 (cnt m b)).map fun k => ent t (wid m b k)) = ent t m := by
  have q := fill_abv (m := m) (b := b) hb (f := fun k => ent t (wid m b k)) (ent t m) 0 (cnt m b) (by omega) (cnt_pos hb h1) (by rw [run_end hb, ht.size h1 h2]; omega) (fun j _ hj => by
    rw [Nat.zero_mul]
    exact h j (by omega))
  rw [Nat.zero_mul] at q
  exact q
theorem sa_small {t : Tb} {b m : Nat} (ht : Ok t) (h1 : 1 ≤ m) (h2 : m ≤ b) (h3 : m ≤ tsz t) : sa t b m = .o := by
  refine abv_mem (mem_strs.mpr ⟨0, ?_, ?_⟩)
  · rw [cnt_small h1 h2]; omega
  · rw [ht.size h1 h3, Nat.zero_mul]
    unfold fin
    rw [show min (0 * b + b) m = 0 + m by omega]

theorem cut_glue {t : Tb} {b : Nat} (ht : Ok t) (hb : 2 ≤ b) (hn : b < tsz t) (h : IsCut t b) : Ok (behind t b) ∧ tsz (behind t b) = tsz t / b ∧ glue (t.take (b - 1)) (behind t b) = t := by
  obtain ⟨h0, h⟩ := h
  obtain ⟨q2, qe, _⟩ := quot_two hb hn h0
  have bz := behind_tsz (t := t) (b := b) (by omega)
  have kb : ∀ k, 2 ≤ k → k ≤ tsz t / b → 2 ≤ k * b ∧ k * b ≤ tsz t := fun k k1 k2 => by
    have w1 := Nat.mul_le_mul_right b k1
    have w2 := Nat.mul_le_mul_right b k2
    omega
  have okb : Ok (behind t b) := ⟨by omega, fun k k1 k2 => by
    obtain ⟨z1, z2⟩ := kb k k1 (by omega)
    rw [behind_ent k1 (by omega), (okStr_fill ht (by omega) (by omega) z2 (h _ z1 z2).1).1, cnt_mul (by omega)]⟩
  refine ⟨okb, bz, ext_ent (by rw [glue_tsz, take_tsz (by omega) (by omega), bz, Nat.mul_comm]; exact qe) fun m m1 m2 => ?_⟩
  rw [glue_tsz, take_tsz (by omega) (by omega), bz, Nat.mul_comm, qe] at m2
  rw [glue_ent (by omega) (by rw [take_tsz (by omega) (by omega), bz, Nat.mul_comm, qe]; exact m2)]
  unfold glueE
  rw [take_tsz (by omega) (by omega), press_run (t := t) (by omega) fun w w1 w2 _ => take_ent w1 w2]
  have c1 := cnt_pos (m := m) (b := b) (by omega) (by omega)
  have c2 := cnt_le_of (m := m) (b := b) (c := tsz t / b) (by omega) (by rw [Nat.mul_comm, qe]; exact m2)
  have e : ent (behind t b) (cnt m b) = sa t b m := by
    rcases Nat.lt_or_ge 1 (cnt m b) with z | z
    · obtain ⟨z1, z2⟩ := kb _ z c2
      rw [behind_ent z c2, ← (h _ z1 z2).2, ← (h m m1 m2).2, told_eq (m := cnt m b * b) (n := m) (cnt_mul (by omega))]
    · have e1 : cnt m b = 1 := by omega
      have mb := (cnt_le (m := m) (b := b) (k := 1) (by omega)).mp (by omega)
      rw [e1, sa_small ht (by omega) (by omega) m2]
      rfl
  rw [e]
  exact (okStr_fill ht (by omega) (by omega) m2 (h m m1 m2).1).2

theorem glue_low {s u : Tb} (hu : Ok u) {m : Nat} (h1 : 1 ≤ m) (h2 : m ≤ tsz s) : ent (glue s u) m = ent s m := by
  have q := Nat.le_mul_of_pos_right (tsz s) (show 0 < tsz u by have := hu.ne; omega)
  rw [glue_ent h1 (by omega)]
  unfold glueE press
  rw [cnt_small h1 h2]
  show ent s (wid m (tsz s) 0) = _
  rw [show wid m (tsz s) 0 = m by unfold wid fin; omega]
theorem glue_take {s u : Tb} (hs : Ok s) (hu : Ok u) : (glue s u).take (tsz s - 1) = s := by
  have q := Nat.le_mul_of_pos_right (tsz s) (show 0 < tsz u by have := hu.ne; omega)
  have h2 := hs.ne
  have e := take_tsz (t := glue s u) (b := tsz s) (by omega) (by rw [glue_tsz]; exact q)
  refine ext_ent e fun m m1 m2 => ?_
  rw [e] at m2
  rw [take_ent (by omega) m2, glue_low hu (by omega) m2]
theorem glue_cut {s u : Tb} (hs : Ok s) (hu : Ok u) : IsCut (glue s u) (tsz s) ∧ behind (glue s u) (tsz s) = u := by
  have hb := hs.ne
  have hu2 := hu.ne
  have key : ∀ m, 1 ≤ m → m ≤ tsz s * tsz u → OkStr (glue s u) (tsz s) m ∧ sa (glue s u) (tsz s) m = ent u (cnt m (tsz s)) := fun m m1 m2 => by
    have c1 := cnt_pos (m := m) (b := tsz s) (by omega) m1
    have c2 := cnt_le_of (m := m) (b := tsz s) (by omega) m2
    have us := hu.size c1 c2
    have e : ent (glue s u) m = fill (ent u (cnt m (tsz s))) ((List.range' 0 (ent u (cnt m (tsz s))).size).map fun k => ent s (wid m (tsz s) k)) := by
      rw [glue_ent m1 m2, us]
      unfold glueE
      rw [press_run (t := s) (by omega) fun _ _ _ _ => rfl]
    obtain ⟨_, a2, a3⟩ := abv_fill (m := m) (b := tsz s) (by omega) (f := fun k => ent s (wid m (tsz s) k)) (fun k hk => hs.size (wid_pos (by omega) hk) (wid_le _ _ _)) (ent u (cnt m (tsz s))) 0 (by omega)
    rw [← e, Nat.zero_mul] at a2 a3
    refine ⟨fun k hk => ?_, a2⟩
    rw [a3 k (by omega) (by omega), glue_low hu (wid_pos (by omega) hk) (wid_le _ _ _)]
  have hN := glue_tsz (s := s) (t := u)
  have hd : tsz (glue s u) / tsz s = tsz u := by rw [hN, Nat.mul_div_cancel_left _ (by omega)]
  refine ⟨⟨by rw [hN, Nat.mul_mod_right], fun m m1 m2 => ?_⟩, ?_⟩
  · rw [hN] at m2
    obtain ⟨t1, t2, t3⟩ := told_cnt hb m1
    refine ⟨(key m (by omega) m2).1, ?_⟩
    rw [(key m (by omega) m2).2, (key (told (tsz s) m) (by omega) (by omega)).2, t1]
  · have bz := behind_tsz (t := glue s u) (b := tsz s) (by omega)
    refine ext_ent (by rw [bz, hd]) fun k k1 k2 => ?_
    rw [bz, hd] at k2
    have w := Nat.mul_le_mul_left (tsz s) k2
    rw [behind_ent k1 (by omega), (key (k * tsz s) (Nat.mul_pos (by omega) (by omega)) (by rw [Nat.mul_comm]; exact w)).2, cnt_mul (by omega)]

theorem cut_iff {t : Tb} {b : Nat} (ht : Ok t) (hb : 2 ≤ b) (hn : b < tsz t) : IsCut t b ↔ LawCut t b := by
  constructor
  · intro h
    refine ⟨h.1, fun m m1 m2 k hk => ?_, (cut_glue ht hb hn h).2.2⟩
    obtain ⟨q2, qe, _⟩ := quot_two hb hn h.1
    have w1 := Nat.mul_le_mul_right b m1
    have w2 := Nat.mul_le_mul_right b m2
    rw [(h.2 (m * b) (by omega) (by omega)).1 k hk]
    rfl
  · rintro ⟨h0, h1, h2⟩
    obtain ⟨q2, qe, _⟩ := quot_two hb hn h0
    have bz := behind_tsz (t := t) (b := b) (by omega)
    have okb : Ok (behind t b) := ⟨by omega, fun k k1 k2 => by
      rw [bz] at k2
      have w1 := Nat.mul_le_mul_right b k1
      have w2 := Nat.mul_le_mul_right b k2
      rw [behind_ent k1 k2, lawAll_size ht (by omega) (by omega) (by omega) (h1 k k1 k2), cnt_mul (by omega)]⟩
    have z := (glue_cut (take_ok ht hb (by omega)) okb).1
    rw [h2, take_tsz (by omega) (by omega)] at z
    exact z

/-! ### all cuts, primes -/
open Classical in
noncomputable def cuts (t : Tb) : List Nat := (List.range' 2 (tsz t - 2)).filter fun b => decide (IsCut t b)
open Classical in
theorem mem_cuts {t : Tb} {b : Nat} : b ∈ cuts t ↔ 2 ≤ b ∧ b < tsz t ∧ IsCut t b := by
  unfold cuts
  rw [List.mem_filter, List.mem_range'_1, decide_eq_true_iff]
  constructor
  · rintro ⟨⟨h1, h2⟩, h3⟩
    exact ⟨h1, by omega, h3⟩
  · rintro ⟨h1, h2, h3⟩
    exact ⟨⟨h1, by omega⟩, h3⟩
theorem head_least {P : Nat → Bool} : ∀ (n k b : Nat) (r : List Nat), (List.range' k n).filter P = b :: r → ∀ c, k ≤ c → c < k + n → P c = true → b ≤ c
  | 0, k, b, r, h => by simp at h
  | n + 1, k, b, r, h => fun c c1 c2 pc => by
    rw [List.range'_succ, List.filter_cons] at h
    split at h
    · have e : k = b := (List.cons.inj h).1
      omega
    · rename_i hk
      have ck : c ≠ k := fun e => hk (e ▸ pc)
      exact head_least n (k + 1) b r h c (by omega) (by omega) pc
open Classical in
theorem cuts_least {t : Tb} {b : Nat} {r : List Nat} (h : cuts t = b :: r) {c : Nat} (hc : c ∈ cuts t) : b ≤ c := by
  obtain ⟨h1, h2, h3⟩ := mem_cuts.mp hc
  refine head_least _ _ _ _ h c h1 (by omega) ?_
  exact decide_eq_true h3

noncomputable def primesF : Nat → Tb → List Tb
  | 0, t => [t]
  | n + 1, t => match cuts t with
    | [] => [t]
    | b :: _ => t.take (b - 1) :: primesF n (behind t b)
theorem primesF_nil {n : Nat} {t : Tb} (h : cuts t = []) : primesF n t = [t] := by
  cases n with
  | zero => rfl
  | succ n => unfold primesF; rw [h]
theorem primesF_cons {n : Nat} {t : Tb} {b : Nat} {r : List Nat} (h : cuts t = b :: r) : primesF (n + 1) t = t.take (b - 1) :: primesF n (behind t b) := by
  show (match cuts t with | [] => [t] | b :: _ => t.take (b - 1) :: primesF n (behind t b)) = _
  rw [h]
/-- the facts of a cut that is told -/
theorem cut_facts {t : Tb} (ht : Ok t) {b : Nat} (h : b ∈ cuts t) : 2 ≤ b ∧ b < tsz t ∧ Ok (t.take (b - 1)) ∧ tsz (t.take (b - 1)) = b ∧ Ok (behind t b) ∧ tsz (behind t b) < tsz t ∧ glue (t.take (b - 1)) (behind t b) = t := by
  obtain ⟨h1, h2, h3⟩ := mem_cuts.mp h
  obtain ⟨c1, c2, c3⟩ := cut_glue ht h1 h2 h3
  refine ⟨h1, h2, take_ok ht h1 (by omega), take_tsz (by omega) (by omega), c1, ?_, c3⟩
  rw [c2]
  exact (quot_two h1 h2 h3.1).2.2
theorem foldl_glue : ∀ (qs : List Tb) (p q : Tb), Ok p → Ok q → (∀ r ∈ qs, Ok r) → qs.foldl glue (glue p q) = glue p (qs.foldl glue q)
  | [], _, _, _, _, _ => rfl
  | r :: rs, p, q, hp, hq, h => by
    have hr := h r List.mem_cons_self
    show rs.foldl glue (glue (glue p q) r) = glue p (rs.foldl glue (glue q r))
    rw [glue_assoc hp hq hr]
    exact foldl_glue rs p (glue q r) hp (glue_ok hq hr) fun x hx => h x (List.mem_cons_of_mem _ hx)
theorem primes_facts : ∀ (n : Nat) (t : Tb), Ok t → tsz t ≤ n + 2 → (∀ q ∈ primesF n t, Ok q ∧ cuts q = []) ∧ ∃ p ps, primesF n t = p :: ps ∧ ps.foldl glue p = t ∧ (ps = [] ↔ cuts t = [])
  | n, t, ht, hn => by
    cases hc : cuts t with
    | nil =>
      rw [primesF_nil hc]
      exact ⟨fun q hq => by
        obtain rfl := List.mem_singleton.mp hq
        exact ⟨ht, hc⟩, t, [], rfl, rfl, by simp⟩
    | cons b r =>
      have hb : b ∈ cuts t := by rw [hc]; exact List.mem_cons_self
      obtain ⟨b1, b2, k1, k2, k3, k4, k5⟩ := cut_facts ht hb
      match n, hn with
      | 0, hn => omega
      | n + 1, hn =>
        rw [primesF_cons hc]
        obtain ⟨i1, p, ps, i2, i3, _⟩ := primes_facts n (behind t b) k3 (by omega)
        refine ⟨fun q hq => ?_, t.take (b - 1), p :: ps, by rw [i2], ?_, by simp⟩
        · rcases List.mem_cons.mp hq with rfl | hq
          · refine ⟨k1, ?_⟩
            cases hz : cuts (t.take (b - 1)) with
            | nil => rfl
            | cons c r2 =>
              -- a cut of the first prime would be a lesser cut of the whole
              have hcm : c ∈ cuts (t.take (b - 1)) := by rw [hz]; exact List.mem_cons_self
              obtain ⟨c1, c2, d1, d2, d3, _, d5⟩ := cut_facts k1 hcm
              rw [k2] at c2
              have e : glue ((t.take (b - 1)).take (c - 1)) (glue (behind (t.take (b - 1)) c) (behind t b)) = t := by
                rw [← glue_assoc d1 d3 k3, d5, k5]
              have z := (glue_cut d1 (glue_ok d3 k3)).1
              rw [e, d2] at z
              have := cuts_least hc (mem_cuts.mpr ⟨c1, by omega, z⟩)
              omega
          · exact i1 q hq
        · have okp : Ok p := (i1 p (by rw [i2]; exact List.mem_cons_self)).1
          show ps.foldl glue (glue (t.take (b - 1)) p) = t
          rw [foldl_glue ps _ p k1 okp fun x hx => (i1 x (by rw [i2]; exact List.mem_cons_of_mem _ hx)).1, i3, k5]
theorem foldl_tsz : ∀ (qs : List Tb) (p : Tb), tsz p ≤ tsz (qs.foldl glue p)
  | [], _ => Nat.le_refl _
  | q :: qs, p => by
    have h := foldl_tsz qs (glue p q)
    have w : tsz p ≤ tsz p * tsz q := Nat.le_mul_of_pos_right _ (by unfold tsz; omega)
    rw [glue_tsz] at h
    show tsz p ≤ tsz (qs.foldl glue (glue p q))
    omega
theorem foldl_ok : ∀ (qs : List Tb) (p : Tb), Ok p → (∀ r ∈ qs, Ok r) → Ok (qs.foldl glue p)
  | [], _, hp, _ => hp
  | q :: qs, p, hp, h => foldl_ok qs (glue p q) (glue_ok hp (h q List.mem_cons_self)) fun x hx => h x (List.mem_cons_of_mem _ hx)
end Lp

set_option maxRecDepth 100000
/-! Shapes and tables as they stand in the heap. -/
namespace Lp
open PySem PySem.Spec PyProof.Rows L2

/-- the top's statements by their places -/
def topS (i : Nat) : Stmt := PySem.Challenge.pw_lumpplans_k16_whole_primes_told.main.body.getD i (.Pass ⟨0, 0, 0, 0⟩)

/-! ### heaps -/
/-- all tuples stay -/
def TS (H H' : Hp) : Prop := ∀ a xs, Rd H a (.tup xs) → Rd H' a (.tup xs)
theorem ts_of {H H' : Hp} (h : Same H H') : TS H H' := fun a xs r => by
  rcases r with r | ⟨o, r⟩
  · exact .inl (h _ _ r)
  · exact .inr ⟨o, h _ _ r⟩
theorem TS.sqT {K : PySem.W.Frag} {H H' : Hp} (h : TS H H') {a : Addr} {xs : List V} (q : SqT K H a xs) : SqT K H' a xs := by
  rcases q with q | q
  · exact .inl (h _ _ q)
  · exact .inr q
/-- a list may change -/
theorem ts_lst {H : Hp} {p : Addr} {xs : List V} {o : HO} (h : H p = some (.lst xs)) : TS H (upd H p o) := fun a ys r => by
  have ne : a ≠ p := fun e => by
    subst e
    rcases r with r | ⟨u, r⟩ <;> (rw [h] at r; cases r)
  rcases r with r | ⟨u, r⟩
  · exact .inl (by rw [upd_ne ne]; exact r)
  · exact .inr ⟨u, by rw [upd_ne ne]; exact r⟩
theorem TS.trans {H H1 H2 : Hp} (a : TS H H1) (b : TS H1 H2) : TS H H2 := fun c xs h => b c xs (a c xs h)
theorem TS.refl (H : Hp) : TS H H := fun _ _ h => h
/-- a new object -/
theorem snew {H : Hp} {p : Addr} (h : H p = none) (o : HO) : Same H (upd H p o) := fun b u q => by
  rw [upd_ne (ne_of_none q h)]
  exact q
/-- a change of an object that was made later -/
theorem sput {H H1 : Hp} (s : Same H H1) {p : Addr} (h : H p = none) (o : HO) : Same H (upd H1 p o) := fun b u q => by
  rw [upd_ne (ne_of_none q h)]
  exact s b u q
theorem Same.sqT {K : PySem.W.Frag} {H H' : Hp} (h : Same H H') {a : Addr} {xs : List V} (q : SqT K H a xs) : SqT K H' a xs := (ts_of h).sqT q

/-! ### shapes -/
def ShV (K : PySem.W.Frag) (H : Hp) : Sh → V → Prop
  | .o, v => ∃ a, v = .ref a ∧ SqT K H a []
  | .p l r, v => ∃ a x y, v = .ref a ∧ SqT K H a [x, y] ∧ ShV K H l x ∧ ShV K H r y
theorem ShV.mono {K : PySem.W.Frag} {H H' : Hp} (h : TS H H') : ∀ {s : Sh} {v : V}, ShV K H s v → ShV K H' s v
  | .o, _, ⟨a, e, q⟩ => ⟨a, e, h.sqT q⟩
  | .p _ _, _, ⟨a, x, y, e, q, q1, q2⟩ => ⟨a, x, y, e, h.sqT q, q1.mono h, q2.mono h⟩
theorem ShV.same {K : PySem.W.Frag} {H H' : Hp} (h : Same H H') {s : Sh} {v : V} (q : ShV K H s v) : ShV K H' s v := q.mono (ts_of h)
/-- two lists, place by place -/
def Al {α : Type} (R : α → V → Prop) (ss : List α) (vs : List V) : Prop := vs.length = ss.length ∧ ∀ (i : Nat) (s : α), ss[i]? = some s → ∃ v, vs[i]? = some v ∧ R s v
section
variable {α : Type} {R R' : α → V → Prop} {ss ts : List α} {vs ws : List V} {s : α} {v : V}
theorem Al.imp (h : ∀ s v, R s v → R' s v) (q : Al R ss vs) : Al R' ss vs := ⟨q.1, fun i s e => let ⟨v, e1, q1⟩ := q.2 i s e; ⟨v, e1, h _ _ q1⟩⟩
theorem Al.nil : Al R [] [] := ⟨rfl, fun i s e => by simp at e⟩
theorem Al.append (q : Al R ss vs) (h : Al R ts ws) : Al R (ss ++ ts) (vs ++ ws) := by
  refine ⟨by rw [List.length_append, List.length_append, q.1, h.1], fun i z e => ?_⟩
  rcases Nat.lt_or_ge i ss.length with hi | hi
  · rw [List.getElem?_append_left hi] at e
    obtain ⟨y, e1, q1⟩ := q.2 i z e
    exact ⟨y, by rw [List.getElem?_append_left (by rw [q.1]; exact hi)]; exact e1, q1⟩
  · rw [List.getElem?_append_right hi] at e
    obtain ⟨y, e1, q1⟩ := h.2 _ z e
    exact ⟨y, by rw [List.getElem?_append_right (by rw [q.1]; exact hi), q.1]; exact e1, q1⟩
theorem Al.cons (h : R s v) (q : Al R ss vs) : Al R (s :: ss) (v :: vs) := by
  refine ⟨by rw [List.length_cons, List.length_cons, q.1], fun i z e => ?_⟩
  cases i with
  | zero =>
    obtain rfl : s = z := by simpa using e
    exact ⟨v, rfl, h⟩
  | succ i => exact q.2 i z (by simpa using e)
theorem Al.snoc (q : Al R ss vs) (h : R s v) : Al R (ss ++ [s]) (vs ++ [v]) := q.append (.cons h .nil)
theorem Al.take (n : Nat) (q : Al R ss vs) : Al R (ss.take n) (vs.take n) := by
  refine ⟨by rw [List.length_take, List.length_take, q.1], fun i z e => ?_⟩
  rcases Nat.lt_or_ge i n with hi | hi
  · rw [List.getElem?_take_of_lt hi] at e ⊢
    exact q.2 i z e
  · rw [List.getElem?_eq_none (by rw [List.length_take]; omega)] at e
    cases e
theorem Al.drop (n : Nat) (q : Al R ss vs) : Al R (ss.drop n) (vs.drop n) := by
  refine ⟨by rw [List.length_drop, List.length_drop, q.1], fun i z e => ?_⟩
  rw [List.getElem?_drop] at e ⊢
  exact q.2 _ z e
theorem Al.tail (q : Al R (s :: ss) (v :: vs)) : R s v ∧ Al R ss vs := by
  obtain ⟨y, e1, q1⟩ := q.2 0 s rfl
  obtain rfl : v = y := by simpa using e1
  exact ⟨q1, by have := q.1; simpa using this, fun i z e => by
    have := q.2 (i + 1) z (by simpa using e)
    simpa using this⟩
theorem Al.at (q : Al R ss vs) {i : Nat} (h : vs[i]? = some v) : ∃ s, ss[i]? = some s ∧ R s v := by
  have hi : i < ss.length := by
    rw [← q.1]
    exact (List.getElem?_eq_some_iff.mp h).1
  obtain ⟨y, e1, q1⟩ := q.2 i ss[i] (List.getElem?_eq_getElem hi)
  rw [h] at e1
  obtain rfl : v = y := Option.some.inj e1
  exact ⟨_, List.getElem?_eq_getElem hi, q1⟩
end
/-- lists of shapes -/
abbrev ShVs (K : PySem.W.Frag) (H : Hp) : List Sh → List V → Prop := Al (ShV K H)
theorem ShVs.mono {K : PySem.W.Frag} {H H' : Hp} (h : TS H H') {ss : List Sh} {vs : List V} (q : ShVs K H ss vs) : ShVs K H' ss vs := q.imp fun _ _ z => z.mono h
theorem ShVs.same {K : PySem.W.Frag} {H H' : Hp} (h : Same H H') {ss : List Sh} {vs : List V} (q : ShVs K H ss vs) : ShVs K H' ss vs := ShVs.mono (ts_of h) q
/-- pairs of numbers -/
def PrV (K : PySem.W.Frag) (H : Hp) (x : Nat × Nat) (v : V) : Prop := ∃ a, v = .ref a ∧ SqT K H a [.int x.1, .int x.2]
theorem PrV.mono {K : PySem.W.Frag} {H H' : Hp} (h : TS H H') {x : Nat × Nat} {v : V} : PrV K H x v → PrV K H' x v := fun ⟨a, e, q⟩ => ⟨a, e, h.sqT q⟩
abbrev PrVs (K : PySem.W.Frag) (H : Hp) : List (Nat × Nat) → List V → Prop := Al (PrV K H)
theorem PrVs.same {K : PySem.W.Frag} {H H' : Hp} (h : Same H H') {ss : List (Nat × Nat)} {vs : List V} (q : PrVs K H ss vs) : PrVs K H' ss vs := q.imp fun _ _ z => z.mono (ts_of h)
/-- a table -/
def TbV (K : PySem.W.Frag) (H : Hp) (t : Tb) (v : V) : Prop := ∃ a xs, v = .ref a ∧ SqT K H a xs ∧ ShVs K H t xs
theorem TbV.mono {K : PySem.W.Frag} {H H' : Hp} (h : TS H H') {t : Tb} {v : V} (q : TbV K H t v) : TbV K H' t v :=
  let ⟨a, xs, e, q1, q2⟩ := q; ⟨a, xs, e, h.sqT q1, ShVs.mono h q2⟩
theorem TbV.same {K : PySem.W.Frag} {H H' : Hp} (h : Same H H') {t : Tb} {v : V} (q : TbV K H t v) : TbV K H' t v := q.mono (ts_of h)

/-! ### shapes as data -/
def Sh.data : Sh → PyData
  | .o => .tuple []
  | .p l r => .tuple [l.data, r.data]
theorem ShV.dp {K : PySem.W.Frag} {H : Hp} : ∀ {s : Sh} {v : V}, ShV K H s v → Dp K H v s.data
  | .o, _, ⟨a, e, q⟩ => by subst e; exact .tup q .nil
  | .p l r, _, ⟨a, x, y, e, q, q1, q2⟩ => by subst e; exact .tup q (.cons q1.dp (.cons q2.dp .nil))
theorem ShVs.dp {K : PySem.W.Frag} {H : Hp} : ∀ {ss : List Sh} {vs : List V}, ShVs K H ss vs → DpAll K H vs (ss.map Sh.data)
  | [], [], _ => .nil
  | [], _ :: _, q => absurd q.1 (by simp)
  | _ :: _, [], q => absurd q.1 (by simp)
  | _ :: _, _ :: _, q => .cons q.tail.1.dp (ShVs.dp q.tail.2)
theorem TbV.dp {K : PySem.W.Frag} {H : Hp} {t : Tb} {v : V} (q : TbV K H t v) : Dp K H v (.tuple (t.map Sh.data)) := by
  obtain ⟨a, xs, e, q1, q2⟩ := q
  subst e
  exact .tup q1 (ShVs.dp q2)
theorem Sh.lay : ∀ s : Sh, s.data.canLay0 = true
  | .o => by simp [Sh.data, PyData.canLay0, PyData.canLayAll0]
  | .p l r => by simp [Sh.data, PyData.canLay0, PyData.canLayAll0, Sh.lay l, Sh.lay r]
theorem Sh.deep : ∀ s : Sh, s.data.depth ≤ s.size
  | .o => by simp [Sh.data, PyData.depth, PyData.depthAll, Sh.size]
  | .p l r => by
    have h1 := Sh.deep l
    have h2 := Sh.deep r
    have h3 := l.size_pos
    have h4 := r.size_pos
    simp only [Sh.data, PyData.depth, PyData.depthAll, Sh.size]
    omega
theorem shaped_of {d : PyData} (h1 : d.canLay0 = true) (h2 : d.depth ≤ 64) : SeqAt.shaped d = true := by
  show (d.canLay0 && decide (d.depth ≤ 64)) = true
  rw [Bool.and_eq_true]
  exact ⟨h1, decide_eq_true h2⟩
theorem Sh.shaped {s : Sh} (h : s.size ≤ 60) : SeqAt.shaped s.data = true := shaped_of s.lay (by have := s.deep; omega)
theorem Sh.eqv : ∀ s t : Sh, PyData.eqv s.data t.data = decide (s = t)
  | .o, .o => by simp [Sh.data, PyData.eqv, PyData.eqvAll]
  | .o, .p _ _ => by simp [Sh.data, PyData.eqv, PyData.eqvAll]
  | .p _ _, .o => by simp [Sh.data, PyData.eqv, PyData.eqvAll]
  | .p l r, .p l' r' => by
    simp only [Sh.data, PyData.eqv, PyData.eqvAll, Sh.eqv l l', Sh.eqv r r', Sh.p.injEq, Bool.and_true]
    by_cases h1 : l = l' <;> by_cases h2 : r = r' <;> simp [h1, h2]
/-- s == () -/
theorem eqO {K : PySem.W.Frag} {H : Hp} {s : Sh} {x : V} {a : Addr} {Q : VK} (hs : ShV K H s x) (hz : s.size ≤ 60) (ha : H a = some (.tup [])) (q : Q (.bl (decide (s = .o))) H) : rEqD K x (.ref a) H Q := by
  refine ⟨s.data, Sh.o.data, hs.dp, .tup (SqT.of ha) .nil, Sh.shaped hz, Sh.shaped (by decide), ?_⟩
  rw [Sh.eqv]
  exact q
theorem neO {K : PySem.W.Frag} {H : Hp} {s : Sh} {x : V} {a : Addr} {Q : VK} (hs : ShV K H s x) (hz : s.size ≤ 60) (ha : H a = some (.tup [])) (q : Q (.bl (!decide (s = .o))) H) : rNeD K x (.ref a) H Q := by
  refine ⟨s.data, Sh.o.data, hs.dp, .tup (SqT.of ha) .nil, Sh.shaped hz, Sh.shaped (by decide), ?_⟩
  rw [Sh.eqv]
  exact q

/-! ### a def of the top, as its callers want it -/
structure Df (K : PySem.W.Frag) (mg : Str → Option Value) (x : Str) (st : Stmt) (ps : List Str) (f : Addr) (fd : FuncData) : Prop where
  F : Fun K x x st f fd
  b : Binds K fd ps []
  g : mg x = some (.ref f)
section
variable {X : Cx} {x : Str} {st : Stmt} {ps : List Str} {f : Addr} {fd : FuncData} {k : Nat} {sp : Sp} {p pos : Pos} {e : Expr} {es : List Expr} {t : TA}
/-- its call -/
theorem pcall (D : Df X.K X.mg x st ps f fd) (G : FnOk X.prog X.w X.K X.mg X.base CX0 k f fd ps sp) (hr : Room k X.A) (ha : PA X (e :: es) t) (hg : Gl X x := by rfl) (hdb : (x == ("__debug__" : Str)) = false := by decide)
    (he : starEach (e :: es) X.env = (false, eval e X.env) :: starEach es X.env := by rfl) (hpl : (backTo pos (starEach es X.env)).any (·.1) = false := by rfl) : PE X (.Call (.Name x p) (e :: es) [] pos) (tCall sp [] E0 t) :=
  pe_call G hr hg D.g D.F.kp D.b .nil pass0 ha hdb he hpl
end
theorem tyes {σ : L2.St} {H : Hp} {A B : Bool → Hp → Prop} (h : A true H) : tYes σ H (fun b H3 => if b = true then A b H3 else B b H3) := by
  show (if true = true then A true H else B true H)
  rw [if_pos rfl]
  exact h
theorem qint {Q : VK} {H : Hp} {i j : Int} (h : Q (.int j) H) (e : i = j) : Q (.int i) H := by
  rw [e]
  exact h
theorem qbl {Q : VK} {H : Hp} {i j : Bool} (h : Q (.bl j) H) (e : i = j) : Q (.bl i) H := by
  rw [e]
  exact h
theorem line_small {n : Nat} (h : n ≤ 100000) : n < sizeLine := by
  rw [sizeLine_eq]
  omega
end Lp

set_option maxRecDepth 100000
/-! Small defs: sizes, entries, stretches. -/
namespace Lp
open PySem PySem.Spec PyProof.Rows L2

abbrev sTsz : Stmt := topS 7
abbrev sEnt : Stmt := topS 8
abbrev sStr : Stmt := topS 10
abbrev sLsz : Stmt := topS 28
abbrev sLent : Stmt := topS 31
abbrev sLstr : Stmt := topS 32
theorem scTsz : FnScope ["table"] ["table"] (defScope sTsz) := ⟨rfl, rfl, rfl, by decide +kernel, rfl, by decide +kernel, by decide +kernel⟩
theorem scEnt : FnScope ["table", "m"] ["table", "m"] (defScope sEnt) := ⟨rfl, rfl, rfl, by decide +kernel, rfl, by decide +kernel, by decide +kernel⟩
theorem scStr : FnScope ["m", "b", "begin"] ["m", "b"] (defScope sStr) := ⟨rfl, rfl, rfl, by decide +kernel, rfl, by decide +kernel, by decide +kernel⟩
theorem scLsz : FnScope ["_law_shape_here"] ["_law_shape_here"] (defScope sLsz) := ⟨rfl, rfl, rfl, by decide +kernel, rfl, by decide +kernel, by decide +kernel⟩
theorem scLent : FnScope ["_law_table_here", "_law_m"] ["_law_table_here", "_law_m"] (defScope sLent) := ⟨rfl, rfl, rfl, by decide +kernel, rfl, by decide +kernel, by decide +kernel⟩
theorem scLstr : FnScope ["_law_m", "_law_b", "_law_found", "_law_begin", "_law_lap"] ["_law_m", "_law_b"] (defScope sLstr) := ⟨rfl, rfl, rfl, by decide +kernel, rfl, by decide +kernel, by decide +kernel⟩

section
variable {P : Program} {w : World} {K : PySem.W.Frag} {mg : Str → Option Value} {base : Heap}
/-! ### table_size -/
def spTsz (K : PySem.W.Frag) : Sp := fun vs H Q _ => ∃ (t : Tb) (v : V), vs = [v] ∧ TbV K H t v ∧ Q (.int (tsz t : Nat)) H
theorem ok_tsz {f : Addr} {fd : FuncData} (F : Fun K "table_size" "table_size" sTsz f fd) (ml : mg "len" = none) : FnOk P w K mg base CX0 1 f fd ["table"] (spTsz K) := by
  refine F.ok scTsz (fun vs H Q E h => ?_) (fun cdv A outer s H vs Q E hr h => ?_)
  · obtain ⟨t, v, rfl, _⟩ := h
    rfl
  obtain ⟨t, v, rfl, ⟨a, xs, rfl, hS, hA⟩, q⟩ := h
  refine ⟨_, pss_one (ps_ret (pe_op op_add (pe_callB call_len_seq (by rfl) ml PySem.boot_len (pa_cons (pv 0) pa_nil)) pe_int)), ?_⟩
  refine ⟨_, rfl, a, xs, rfl, .inr hS, _, _, rfl, rfl, ?_⟩
  refine qint (Q := Q) q ?_
  rw [hA.1]
  unfold tsz
  omega

/-! ### entry -/
def spEnt (K : PySem.W.Frag) : Sp := fun vs H Q _ => ∃ (t : Tb) (v : V) (m : Nat), vs = [v, .int m] ∧ TbV K H t v ∧ 1 ≤ m ∧ m ≤ tsz t ∧ ∀ x H', Same H H' → ShV K H' (ent t m) x → Q x H'
/-- the item of a table -/
theorem tb_item {K : PySem.W.Frag} {H : Hp} {t : Tb} {xs : List V} {m : Nat} (h : ShVs K H t xs) (h1 : 2 ≤ m) (h2 : m ≤ tsz t) : ∃ v, atI xs ((m : Int) - 2) = some v ∧ ShV K H (ent t m) v := by
  obtain ⟨v, e, q⟩ := h.2 (m - 2) (ent t m) (ent_get h1 h2)
  exact ⟨v, at_of (j := m - 2) (by omega) e, q⟩
theorem ok_ent {f : Addr} {fd : FuncData} (F : Fun K "entry" "entry" sEnt f fd) : FnOk P w K mg base CX0 1 f fd ["table", "m"] (spEnt K) := by
  refine F.ok scEnt (fun vs H Q E h => ?_) (fun cdv A outer s H vs Q E hr h => ?_)
  · obtain ⟨t, v, m, rfl, _⟩ := h
    rfl
  obtain ⟨t, v, m, rfl, ⟨a, xs, rfl, hS, hA⟩, m1, m2, q⟩ := h
  refine ⟨_, pss_one (ps_ret (pe_ifExp (pt_cmpR op_eq (pv 1) pe_int (nomark _)) (pe_tup pa_nil) (pe_ix ix_tup (pv 0) (pe_op op_sub (pv 1) pe_int) (fun _ _ => rfl)))), ?_⟩
  refine ⟨_, rfl, rfl, _, rfl, ite2 (fun c => ?_) (fun c => ?_)⟩
  · have c' : m = 1 := by
      have := V.int.inj (of_decide_eq_true c)
      omega
    subst c'
    exact ⟨Nat.zero_le _, fun p hp => q _ _ (snew hp _) ⟨p, rfl, SqT.of upd_same⟩⟩
  · have c' : m ≠ 1 := fun e => by
      subst e
      exact c (decide_eq_true rfl)
    obtain ⟨z, e, hz⟩ := tb_item hA (m := m) (by omega) m2
    exact ⟨_, rfl, _, rfl, _, _, rfl, rfl, a, xs, _, z, rfl, rfl, hS, e, q _ _ (Same.refl _) hz⟩
theorem ok_lent {f : Addr} {fd : FuncData} (F : Fun K "_law_entry" "_law_entry" sLent f fd) : FnOk P w K mg base CX0 1 f fd ["_law_table_here", "_law_m"] (spEnt K) := by
  refine F.ok scLent (fun vs H Q E h => ?_) (fun cdv A outer s H vs Q E hr h => ?_)
  · obtain ⟨t, v, m, rfl, _⟩ := h
    rfl
  obtain ⟨t, v, m, rfl, ⟨a, xs, rfl, hS, hA⟩, m1, m2, q⟩ := h
  refine ⟨_, pss_one (ps_ret (pe_ifExp (pt_cmpR op_eq (pv 1) pe_int (nomark _)) (pe_tup pa_nil) (pe_ix ix_tup (pv 0) (pe_op op_sub (pv 1) pe_int) (fun _ _ => rfl)))), ?_⟩
  refine ⟨_, rfl, rfl, _, rfl, ite2 (fun c => ?_) (fun c => ?_)⟩
  · have c' : m = 1 := by
      have := V.int.inj (of_decide_eq_true c)
      omega
    subst c'
    exact ⟨Nat.zero_le _, fun p hp => q _ _ (snew hp _) ⟨p, rfl, SqT.of upd_same⟩⟩
  · have c' : m ≠ 1 := fun e => by
      subst e
      exact c (decide_eq_true rfl)
    obtain ⟨z, e, hz⟩ := tb_item hA (m := m) (by omega) m2
    exact ⟨_, rfl, _, rfl, _, _, rfl, rfl, a, xs, _, z, rfl, rfl, hS, e, q _ _ (Same.refl _) hz⟩

/-! ### _law_size -/
def spSize (K : PySem.W.Frag) (n : Nat) : Sp := fun vs H Q _ => ∃ (s : Sh) (x : V), vs = [x] ∧ ShV K H s x ∧ s.size ≤ n ∧ ∀ H', Same H H' → Q (.int (s.size : Nat)) H'
theorem none_left {f : Addr} {fd : FuncData} {ps : List Str} {sp : Sp} (no : ∀ vs H Q E, ¬ sp vs H Q E) : FnOk P w K mg base CX0 0 f fd ps sp :=
  ⟨fun vs H Q E h => absurd h (no vs H Q E), fun A outer s H args us vs Q E _ _ _ _ h => absurd h (no vs H Q E)⟩
theorem ok_lsz {f : Addr} {fd : FuncData} (D : Df K mg "_law_size" sLsz ["_law_shape_here"] f fd) : ∀ n, n ≤ 60 → FnOk P w K mg base CX0 n f fd ["_law_shape_here"] (spSize K n)
  | 0, _ => none_left fun vs H Q E h => by
    obtain ⟨s, x, _, _, h1, _⟩ := h
    have := s.size_pos
    omega
  | n + 1, hn => by
    have G := ok_lsz D n (by omega)
    refine D.F.ok scLsz (fun vs H Q E h => ?_) (fun cdv A outer s H vs Q E hr h => ?_)
    · obtain ⟨s, x, rfl, _⟩ := h
      rfl
    obtain ⟨s, x, rfl, hs, hz, q⟩ := h
    refine ⟨_, pss_one (ps_ret (pe_ifExp (pt_cmpR (op_eqD hr.units) (pv 0) (pe_tup pa_nil) (nomark _)) pe_int
      (pe_op op_add (pcall D G hr (pa_cons (pe_ix ix_tup (pv 0) pe_int (fun _ _ => rfl)) pa_nil)) (pcall D G hr (pa_cons (pe_ix ix_tup (pv 0) pe_int (fun _ _ => rfl)) pa_nil))))), ?_⟩
    refine ⟨_, rfl, Nat.zero_le _, fun p hp => eqO (hs.same (snew hp _)) (by omega) upd_same ⟨_, rfl, ite2 (fun c => ?_) (fun c => ?_)⟩⟩
    · have c' : s = .o := of_decide_eq_true c
      subst c'
      exact q _ (snew hp _)
    · cases s with
      | o => exact absurd (decide_eq_true rfl) c
      | p l r =>
        have hz : l.size + r.size ≤ n + 1 := hz
        have l1 := l.size_pos
        have r1 := r.size_pos
        have s1 := snew hp (.tup [])
        obtain ⟨a, xl, xr, rfl, hq, hl, hr'⟩ := hs.same s1
        refine ⟨_, rfl, a, _, 0, xl, rfl, rfl, hq, atI_nat (j := 0) rfl, l, xl, rfl, hl, by omega, fun H1 g1 => ?_⟩
        refine ⟨_, rfl, a, _, 1, xr, rfl, rfl, Same.sqT g1 hq, atI_nat (j := 1) rfl, r, xr, rfl, hr'.same g1, by omega, fun H2 g2 => ?_⟩
        refine ⟨_, _, rfl, rfl, ?_⟩
        refine qint (Q := Q) (q _ ((s1.trans g1).trans g2)) ?_
        show _ = ((l.size + r.size : Nat) : Int)
        omega

/-! ### stretches -/
def spStrs (K : PySem.W.Frag) : Sp := fun vs H Q _ => ∃ m b : Nat, vs = [.int m, .int b] ∧ 1 ≤ b ∧ b ≤ 4000 ∧ m ≤ 4000 ∧ ∀ p ys H', Same H H' → H p = none → H' p = some (.lst ys) → PrVs K H' (strc m b) ys → Q (.ref p) H'
theorem rg_up {m b : Nat} (hb : 1 ≤ b) (hb2 : b ≤ 4000) (hm : m ≤ 4000) : RgC 0 (m : Int) (b : Int) (cnt m b) := by
  have e : Builtin.Range.rangeSize 0 (m : Int) (b : Int) = ((cnt m b : Nat) : Int) := by
    rw [PyProof.Rows.rangeSize_pos (by omega) (by omega)]
    unfold cnt
    rw [show (m : Int) + (b : Int) - 1 = ((m + b - 1 : Nat) : Int) by omega]
    rfl
  have c : cnt m b ≤ m + b - 1 := Nat.div_le_self _ _
  refine ⟨by omega, by omega, ?_, e⟩
  unfold Builtin.Range.small
  rw [e]
  simp only [Builtin.Range.rangeFitsLong, Bool.and_eq_true, Bool.or_eq_true, decide_eq_true_eq, beq_iff_eq, show (b : Int) > 0 by omega, if_true]
  omega
theorem take_strs {m b i : Nat} (h : i < cnt m b) : (strc m b).take (i + 1) = (strc m b).take i ++ [(i * b, fin m b i)] := by
  rw [List.take_add_one, strs_get h]
  rfl
theorem ok_str {f : Addr} {fd : FuncData} (F : Fun K "stretches" "stretches" sStr f fd) (mr : mg "range" = none) (mm : mg "min" = none) : FnOk P w K mg base CX0 1 f fd ["m", "b"] (spStrs K) := by
  refine F.ok scStr (fun vs H Q E h => ?_) (fun cdv A outer s H vs Q E hr h => ?_)
  · obtain ⟨m, b, rfl, _⟩ := h
    rfl
  obtain ⟨m, b, rfl, b1, b2, m2, q⟩ := h
  refine ⟨_, pss_one (ps_ret (pe_lc (own := [("begin", 2)]) (g := gName 2) (tt := tYes) rfl scStr.nd (pi_range3 (by rfl) mr (pa_cons pe_int (pa_cons (pv 0) (pa_cons (pv 1) pa_nil))))
    (blkOk_by (N := ["m", "b", "begin"]) (sc := defScope sStr) (by decide +kernel)) (fun _ _ _ _ _ => pg_name (i := 2) scStr.nd rfl (Or.inl rfl)) (fun _ _ _ _ _ => pts_nil)
    (fun _ _ _ _ _ => pe_tup (pa_cons (pv 2) (pa_cons (pe_callB (call_min2 rfl) (by rfl) mm boot_min (pa_cons (pe_op op_add (pv 2) (pv 1)) (pa_cons (pv 0) pa_nil))) pa_nil))))), ?_⟩
  refine ⟨_, rfl, _, rfl, 0, m, b, cnt m b, rfl, rg_up b1 b2 m2, fun D hD => ?_⟩
  refine lc_it walk_rangeC (fun i H' => Same H H' ∧ ∃ ys, H' D = some (.lst ys) ∧ PrVs K H' ((strc m b).take i) ys) ⟨snew hD _, [], upd_same, .nil⟩ (fun _ _ _ _ => True.intro) (fun i x H1 H2 hi hP y => ?_) (fun H1 hP => ?_)
  · obtain ⟨rfl, rfl⟩ := y
    obtain ⟨g, ys, eD, hA⟩ := hP
    refine ⟨rfl, tyes ?_⟩
    refine ⟨_, rfl, _, rfl, _, rfl, _, _, rfl, rfl, _, rfl, _, _, rfl, Nat.le_of_lt (line_small (show 2 ≤ 100000 by decide)), fun p hp => ?_⟩
    have ne : D ≠ p := ne_of_none eD hp
    have s1 := snew hp (.tup [V.int (0 + (i : Int) * b), V.int (if (m : Int) < 0 + (i : Int) * b + b then (m : Int) else 0 + (i : Int) * b + b)])
    have hl : ys.length ≤ cnt m b := by
      rw [hA.1, List.length_take]
      exact Nat.le_trans (Nat.min_le_left _ _) (Nat.le_of_lt hi)
    have hc : cnt m b ≤ m + b - 1 := Nat.div_le_self _ _
    refine ⟨ys, by rw [upd_ne ne]; exact eD, line_small (by omega), sput (g.trans s1) hD _, _, upd_same, ?_⟩
    rw [take_strs hi]
    have s2 : TS (upd H2 p (.tup [V.int (0 + (i : Int) * b), V.int (if (m : Int) < 0 + (i : Int) * b + b then (m : Int) else 0 + (i : Int) * b + b)])) (upd (upd H2 p (.tup [V.int (0 + (i : Int) * b), V.int (if (m : Int) < 0 + (i : Int) * b + b then (m : Int) else 0 + (i : Int) * b + b)])) D (.lst (ys ++ [.ref p]))) := ts_lst (by rw [upd_ne ne]; exact eD)
    refine Al.snoc (hA.imp fun _ _ z => z.mono ((ts_of s1).trans s2)) ⟨p, rfl, s2.sqT (SqT.of ?_)⟩
    rw [upd_same]
    have e1 : (0 : Int) + (i : Int) * b = ((i * b : Nat) : Int) := by rw [Int.natCast_mul]; omega
    have e2 : (if (m : Int) < ((i * b : Nat) : Int) + b then (m : Int) else ((i * b : Nat) : Int) + b) = ((fin m b i : Nat) : Int) := by
      unfold fin
      split <;> omega
    rw [e1, e2]
  · obtain ⟨g, ys, eD, hA⟩ := hP
    rw [List.take_of_length_le (by rw [strs_length]; exact Nat.le_refl _)] at hA
    exact q D ys _ g hD eD hA
end
end Lp

set_option maxRecDepth 100000
/-! The parts of a shape, the shape above, the look at the stretches. -/
namespace Lp
open PySem PySem.Spec PyProof.Rows L2

abbrev sPut : Stmt := topS 11
abbrev sParts : Stmt := topS 12
abbrev sWrong : Stmt := topS 14
abbrev sAbv : Stmt := topS 15
abbrev sSab : Stmt := topS 16
theorem scPut : FnScope ["shape", "begin", "found", "end"] ["shape", "begin", "found"] (defScope sPut) := ⟨rfl, rfl, rfl, by decide +kernel, rfl, by decide +kernel, by decide +kernel⟩
theorem scParts : FnScope ["shape", "found"] ["shape"] (defScope sParts) := ⟨rfl, rfl, rfl, by decide +kernel, rfl, by decide +kernel, by decide +kernel⟩
theorem scWrong : FnScope ["table", "b", "m", "parts", "number", "begin", "end"] ["table", "b", "m"] (defScope sWrong) := ⟨rfl, rfl, rfl, by decide +kernel, rfl, by decide +kernel, by decide +kernel⟩
theorem scAbv : FnScope ["shape", "pairs", "begin", "left", "middle", "right", "end"] ["shape", "pairs", "begin"] (defScope sAbv) := ⟨rfl, rfl, rfl, by decide +kernel, rfl, by decide +kernel, by decide +kernel⟩
theorem scSab : FnScope ["table", "b", "m"] ["table", "b", "m"] (defScope sSab) := ⟨rfl, rfl, rfl, by decide +kernel, rfl, by decide +kernel, by decide +kernel⟩

/-! ### a dict by pairs -/
def ky (k : Nat × Nat) : List Key := [Sum.inl (k.1 : Int), Sum.inl (k.2 : Int)]
theorem ky_inj {a b : Nat × Nat} (h : ky a = ky b) : a = b := by
  unfold ky at h
  obtain ⟨a1, a2⟩ := a
  obtain ⟨b1, b2⟩ := b
  simp only [List.cons.injEq, Sum.inl.injEq, and_true] at h
  exact Prod.ext (by show a1 = b1; omega) (by show a2 = b2; omega)
/-- what the dict tells of a pair: the part there, or what was told before -/
def Says (K : PySem.W.Frag) (H : Hp) (kvs : List (List Key × V)) (k : Nat × Nat) (old : Option V) : Option Sh → Prop
  | some t => ∃ v, valV kvs (ky k) = some v ∧ ShV K H t v
  | none => valV kvs (ky k) = old
theorem Says.mono {K : PySem.W.Frag} {H H' : Hp} (h : TS H H') {kvs : List (List Key × V)} {k : Nat × Nat} {old : Option V} : ∀ {o : Option Sh}, Says K H kvs k old o → Says K H' kvs k old o
  | some _, ⟨v, e, q⟩ => ⟨v, e, q.mono h⟩
  | none, e => e
/-- all but d as it was -/
def But (d : Addr) (H H' : Hp) : Prop := ∀ q o, q ≠ d → H q = some o → H' q = some o
theorem But.refl {d : Addr} {H : Hp} : But d H H := fun _ _ _ h => h
theorem But.trans {d : Addr} {H H1 H2 : Hp} (a : But d H H1) (b : But d H1 H2) : But d H H2 := fun q o n h => b q o n (a q o n h)
theorem But.of {d : Addr} {H H' : Hp} (h : Same H H') : But d H H' := fun q o _ e => h q o e
theorem But.upd {d : Addr} {H : Hp} {o : HO} : But d H (upd H d o) := fun q u n h => by
  rw [upd_ne n]
  exact h
theorem But.ts {d : Addr} {H H' : Hp} {kvs : List (List Key × V)} (h : But d H H') (e : H d = some (.dT kvs)) : TS H H' := fun a ys r => by
  have ne : a ≠ d := fun z => by
    subst z
    rcases r with r | ⟨u, r⟩ <;> (rw [e] at r; cases r)
  rcases r with r | ⟨u, r⟩
  · exact .inl (h _ _ ne r)
  · exact .inr ⟨u, h _ _ ne r⟩
/-- a new dict: to its maker all stays -/
theorem But.same {d : Addr} {H H1 H' : Hp} (s : Same H H1) (n : H d = none) (h : But d H1 H') : Same H H' := fun q o e => h q o (ne_of_none e n) (s q o e)

section
variable {P : Program} {w : World} {K : PySem.W.Frag} {mg : Str → Option Value} {base : Heap}
/-! ### put_parts -/
def spPut (K : PySem.W.Frag) (n : Nat) : Sp := fun vs H Q _ => ∃ (s : Sh) (x : V) (b : Nat) (d : Addr) (kvs : List (List Key × V)), vs = [x, .int b, .ref d] ∧ ShV K H s x ∧ s.size ≤ n ∧ H d = some (.dT kvs) ∧ kvs.length + 2 * s.size ≤ 1000 ∧
  ∀ kvs' H', But d H H' → H' d = some (.dT kvs') → kvs'.length ≤ kvs.length + (2 * s.size - 1) → (∀ k, Says K H' kvs' k (valV kvs (ky k)) (part s b k)) → Q (.int ((b + s.size : Nat) : Int)) H'
theorem ok_put {f : Addr} {fd : FuncData} (D : Df K mg "put_parts" sPut ["shape", "begin", "found"] f fd) : ∀ n, n ≤ 60 → FnOk P w K mg base CX0 n f fd ["shape", "begin", "found"] (spPut K n)
  | 0, _ => none_left fun vs H Q E h => by
    obtain ⟨s, x, b, d, kvs, _, _, h1, _⟩ := h
    have := s.size_pos
    omega
  | n + 1, hn => by
    have G := ok_put D n (by omega)
    refine D.F.ok scPut (fun vs H Q E h => ?_) (fun cdv A outer s H vs Q E hr h => ?_)
    · obtain ⟨s, x, b, d, kvs, rfl, _⟩ := h
      rfl
    obtain ⟨s, x, b, d, kvs, rfl, hs, hz, hd, hk, q⟩ := h
    refine ⟨_, pss_cons (ps_set (i := 3) scPut.nd rfl (.inl rfl) (pe_op op_add (pv 1) pe_int))
      (pss_cons (ps_if (pt_cmpR (op_neD hr.units) (pv 0) (pe_tup pa_nil) (nomark _))
        (pss_one (ps_set (i := 3) scPut.nd rfl (.inl rfl) (pcall D G hr (pa_cons (pe_ix ix_tup (pv 0) pe_int (fun _ _ => rfl)) (pa_cons (pcall D G hr (pa_cons (pe_ix ix_tup (pv 0) pe_int (fun _ _ => rfl)) (pa_cons (pv 1) (pa_cons (pv 2) pa_nil)))) (pa_cons (pv 2) pa_nil))))))
        pss_nil)
      (pss_cons (ps_dput (hu_of hr) (pv 2) (pe_tup (pa_cons (pv 1) (pa_cons (pv 3) pa_nil))) (pv 0) rfl)
      (pss_one (ps_ret (pv 3))))), ?_⟩
    refine ⟨_, rfl, _, _, rfl, rfl, _, rfl, Nat.zero_le _, fun p hp => neO (hs.same (snew hp _)) (by omega) upd_same ⟨_, rfl, ite2 (fun c => ?_) (fun c => ?_)⟩⟩
    · -- two parts
      cases s with
      | o => exact absurd c (by simp)
      | p l r =>
        have hz : l.size + r.size ≤ n + 1 := hz
        have hk : kvs.length + 2 * (l.size + r.size) ≤ 1000 := hk
        have l1 := l.size_pos
        have r1 := r.size_pos
        have s1 := snew hp (.tup [])
        obtain ⟨a, xl, xr, rfl, hq, hl, hr'⟩ := hs.same s1
        refine ⟨_, rfl, a, _, 1, xr, rfl, rfl, hq, atI_nat (j := 1) rfl, ?_⟩
        refine ⟨_, rfl, a, _, 0, xl, rfl, rfl, hq, atI_nat (j := 0) rfl, _, rfl, _, rfl, l, xl, b, d, kvs, rfl, hl, by omega, s1 _ _ hd, by omega, fun kvs1 H1 g1 e1 z1 a1 => ?_⟩
        have t1 := g1.ts (s1 _ _ hd)
        refine ⟨_, rfl, r, xr, b + l.size, d, kvs1, rfl, hr'.mono t1, by omega, e1, by omega, fun kvs2 H2 g2 e2 z2 a2 => ?_⟩
        have t2 := g2.ts e1
        refine ⟨_, rfl, _, rfl, _, rfl, _, rfl, Nat.le_of_lt (line_small (show 2 ≤ 100000 by decide)), fun p2 hp2 => ?_⟩
        have s3 := snew hp2 (.tup [V.int (b : Int), V.int ((b + l.size + r.size : Nat) : Int)])
        have ey : (upd H2 p2 (.tup [V.int (b : Int), V.int ((b + l.size + r.size : Nat) : Int)])) p2 = some (.tup ((ky (b, b + (l.size + r.size))).map kV)) := by
          rw [upd_same, show b + (l.size + r.size) = b + l.size + r.size by omega]
          rfl
        refine ⟨d, _, rfl, DPut.t (s3 _ _ e2) ey (line_small (by omega)), _, rfl, ?_⟩
        have t3 := ts_of s3
        have t4 := But.ts (But.upd (d := d) (o := HO.dT (putK kvs2 (ky (b, b + (l.size + r.size))) (.ref a)))) (s3 _ _ e2)
        refine qint (Q := Q) (q _ _ ((But.of s1).trans (g1.trans (g2.trans ((But.of s3).trans But.upd)))) upd_same ?_ fun k => ?_) ?_
        · have := length_putK kvs2 (ky (b, b + (l.size + r.size))) (V.ref a)
          show _ ≤ kvs.length + (2 * (l.size + r.size) - 1)
          omega
        · unfold part
          by_cases ek : k = (b, b + (l.size + r.size))
          · rw [if_pos ek]
            subst ek
            exact ⟨.ref a, by rw [valV_put, if_pos rfl], ((((hs.same s1).mono t1).mono t2).mono t3).mono t4⟩
          · rw [if_neg ek]
            have ev : valV (putK kvs2 (ky (b, b + (l.size + r.size))) (.ref a)) (ky k) = valV kvs2 (ky k) := by
              rw [valV_put, if_neg fun z => ek (ky_inj z)]
            have b2 := (a2 k).mono (t3.trans t4)
            cases e : part r (b + l.size) k with
            | some t =>
              rw [e] at b2
              obtain ⟨v, v1, v2⟩ := b2
              exact ⟨v, ev.trans v1, v2⟩
            | none =>
              rw [e] at b2
              have b2 : valV kvs2 (ky k) = valV kvs1 (ky k) := b2
              have b1 := (a1 k).mono (t2.trans (t3.trans t4))
              show Says K _ _ k _ (part l b k)
              cases e' : part l b k with
              | some t =>
                rw [e'] at b1
                obtain ⟨v, v1, v2⟩ := b1
                exact ⟨v, (ev.trans b2).trans v1, v2⟩
              | none =>
                rw [e'] at b1
                exact (ev.trans b2).trans b1
        · show ((b + l.size + r.size : Nat) : Int) = ((b + (l.size + r.size) : Nat) : Int)
          omega
    · -- one lump
      cases s with
      | p l r => exact absurd (by simp) c
      | o =>
        have s1 := snew hp (.tup [])
        have hk : kvs.length + 2 * 1 ≤ 1000 := hk
        refine ⟨_, rfl, _, rfl, _, rfl, _, rfl, Nat.le_of_lt (line_small (show 2 ≤ 100000 by decide)), fun p2 hp2 => ?_⟩
        have s3 := snew hp2 (.tup [V.int (b : Int), V.int ((b : Int) + 1)])
        have ey : (upd (upd H p (.tup [])) p2 (.tup [V.int (b : Int), V.int ((b : Int) + 1)])) p2 = some (.tup ((ky (b, b + 1)).map kV)) := by
          rw [upd_same]
          rfl
        refine ⟨d, _, rfl, DPut.t (s3 _ _ (s1 _ _ hd)) ey (line_small (by omega)), _, rfl, ?_⟩
        have t4 := But.ts (But.upd (d := d) (o := HO.dT (putK kvs (ky (b, b + 1)) x))) (s3 _ _ (s1 _ _ hd))
        refine q _ _ ((But.of s1).trans ((But.of s3).trans But.upd)) upd_same (length_putK _ _ _) fun k => ?_
        unfold part
        by_cases ek : k = (b, b + 1)
        · rw [if_pos ek]
          subst ek
          exact ⟨x, by rw [valV_put, if_pos rfl], ((hs.same s1).same s3).mono t4⟩
        · rw [if_neg ek]
          show valV _ _ = _
          rw [valV_put, if_neg fun z => ek (ky_inj z)]

/-! ### parts_of -/
def spParts (K : PySem.W.Frag) : Sp := fun vs H Q _ => ∃ (s : Sh) (x : V), vs = [x] ∧ ShV K H s x ∧ s.size ≤ 60 ∧
  ∀ d kvs H', Same H H' → H d = none → H' d = some (.dT kvs) → (∀ k, Says K H' kvs k none (part s 0 k)) → Q (.ref d) H'
theorem ok_parts {f fP : Addr} {fd fdP : FuncData} (F : Fun K "parts_of" "parts_of" sParts f fd) (DP : Df K mg "put_parts" sPut ["shape", "begin", "found"] fP fdP) : FnOk P w K mg base CX0 61 f fd ["shape"] (spParts K) := by
  have G := ok_put (P := P) (w := w) (base := base) DP 60 (Nat.le_refl _)
  refine F.ok scParts (fun vs H Q E h => ?_) (fun cdv A outer s H vs Q E hr h => ?_)
  · obtain ⟨s, x, rfl, _⟩ := h
    rfl
  obtain ⟨s, x, rfl, hs, hz, q⟩ := h
  refine ⟨_, pss_cons (ps_set (i := 1) scParts.nd rfl (.inl rfl) pe_dnewT) (pss_cons (ps_expr (pcall DP G hr (pa_cons (pv 0) (pa_cons pe_int (pa_cons (pv 1) pa_nil))))) (pss_one (ps_ret (pv 1)))), ?_⟩
  intro d hd
  have s1 := snew hd (.dT [])
  refine ⟨_, rfl, _, rfl, s, x, 0, d, [], rfl, hs.same s1, hz, upd_same, by show 0 + _ ≤ _; omega, fun kvs' H' g e z a => ?_⟩
  exact ⟨_, rfl, q d kvs' H' (But.same s1 hd g) hd e fun k => a k⟩

/-! ### pairs as data -/
def prd (x : Nat × Nat) : PyData := .tuple [.int x.1, .int x.2]
theorem prd_lays : ∀ ps : List (Nat × Nat), PyData.canLayAll0 (ps.map prd) = true
  | [] => by simp [PyData.canLayAll0]
  | x :: ps => by simp [PyData.canLayAll0, PyData.canLay0, prd, prd_lays ps]
theorem prd_deep : ∀ ps : List (Nat × Nat), PyData.depthAll (ps.map prd) ≤ 1
  | [] => by simp [PyData.depthAll]
  | x :: ps => by
    have := prd_deep ps
    simp only [List.map_cons, PyData.depthAll, prd, PyData.depth]
    omega
theorem prd_eqv (x y : Nat × Nat) : PyData.eqv (prd x) (prd y) = decide (x = y) := by
  obtain ⟨a, b⟩ := x
  obtain ⟨c, d⟩ := y
  have e : PyData.eqv (prd (a, b)) (prd (c, d)) = (((a : Int) == (c : Int)) && (((b : Int) == (d : Int)) && true)) := by simp only [prd, PyData.eqv, PyData.eqvAll]
  rw [e]
  by_cases h1 : a = c <;> by_cases h2 : b = d <;> simp [h1, h2] <;> omega
theorem prd_any (k : Nat × Nat) : ∀ ps : List (Nat × Nat), ((ps.map prd).any fun z => PyData.eqv z (prd k)) = decide (k ∈ ps)
  | [] => by simp
  | x :: ps => by
    rw [List.map_cons, List.any_cons, prd_any k ps, prd_eqv]
    by_cases h : x = k
    · subst h; simp
    · have h' : k ≠ x := fun e => h e.symm
      simp [h, h']
theorem PrVs.dp {K : PySem.W.Frag} {H : Hp} : ∀ {ps : List (Nat × Nat)} {vs : List V}, PrVs K H ps vs → DpAll K H vs (ps.map prd)
  | [], [], _ => .nil
  | [], _ :: _, q => absurd q.1 (by simp)
  | _ :: _, [], q => absurd q.1 (by simp)
  | _ :: _, _ :: _, q => by
    obtain ⟨⟨a, e, h⟩, q2⟩ := q.tail
    subst e
    exact .cons (.tup h (.cons (.int _) (.cons (.int _) .nil))) (PrVs.dp q2)
/-- (i, j) in pairs -/
theorem inPr {K : PySem.W.Frag} {H : Hp} {k : Nat × Nat} {x : V} {pa : Addr} {ps : List (Nat × Nat)} {ys : List V} {Q : VK} (hx : PrV K H k x) (hl : SqL K H pa ys) (ha : PrVs K H ps ys) (q : Q (.bl (decide (k ∈ ps))) H) : rInD K x (.ref pa) H Q := by
  obtain ⟨a, rfl, hq⟩ := hx
  refine ⟨prd k, ps.map prd, .tup hq (.cons (.int _) (.cons (.int _) .nil)), .lst hl (PrVs.dp ha), shaped_of ?_ ?_, shaped_of ?_ ?_, ?_⟩
  · simp [prd, PyData.canLay0, PyData.canLayAll0]
  · simp only [prd, PyData.depth, PyData.depthAll]
    omega
  · simp only [PyData.canLay0]
    exact prd_lays ps
  · have := prd_deep ps
    simp only [PyData.depth]
    omega
  · rw [prd_any]
    exact q
/-- two shapes compared -/
theorem neS {K : PySem.W.Frag} {H : Hp} {s t : Sh} {x y : V} {Q : VK} (hs : ShV K H s x) (ht : ShV K H t y) (zs : s.size ≤ 60) (zt : t.size ≤ 60) (q : Q (.bl (!decide (s = t))) H) : rNeD K x y H Q := by
  refine ⟨s.data, t.data, hs.dp, ht.dp, Sh.shaped zs, Sh.shaped zt, ?_⟩
  rw [Sh.eqv]
  exact q
theorem room65 {k : Nat} {A : Around} (r : Room k A) : A.units + 65 < cLine := by
  have := r.un
  omega

/-! ### wrong_stretch -/
def spWrong (K : PySem.W.Frag) : Sp := fun vs H Q _ => ∃ (t : Tb) (v : V) (b m : Nat), vs = [v, .int b, .int m] ∧ TbV K H t v ∧ Ok t ∧ tsz t ≤ 60 ∧ 1 ≤ b ∧ b ≤ 60 ∧ 1 ≤ m ∧ m ≤ tsz t ∧
  (∀ H', Same H H' → OkStr t b m → Q .non H') ∧ ∀ a H', Same H H' → ¬ OkStr t b m → Q (.ref a) H'
theorem ok_wrong {f fP fE fS : Addr} {fd fdP fdE fdS : FuncData} (F : Fun K "wrong_stretch" "wrong_stretch" sWrong f fd) (DP : Df K mg "parts_of" sParts ["shape"] fP fdP) (GP : FnOk P w K mg base CX0 61 fP fdP ["shape"] (spParts K))
    (DE : Df K mg "entry" sEnt ["table", "m"] fE fdE) (DS : Df K mg "stretches" sStr ["m", "b"] fS fdS) (me : mg "enumerate" = none) (mr : mg "range" = none) (mm : mg "min" = none) : FnOk P w K mg base CX0 62 f fd ["table", "b", "m"] (spWrong K) := by
  have GE : FnOk P w K mg base CX0 1 fE fdE ["table", "m"] (spEnt K) := ok_ent DE.F
  have GS : FnOk P w K mg base CX0 1 fS fdS ["m", "b"] (spStrs K) := ok_str DS.F mr mm
  refine F.ok scWrong (fun vs H Q E h => ?_) (fun cdv A outer s H vs Q E hr h => ?_)
  · obtain ⟨t, v, b, m, rfl, _⟩ := h
    rfl
  obtain ⟨t, v, b, m, rfl, hT, ok, t60, b1, b60, m1, m2, qN, qR⟩ := h
  refine ⟨_, pss_cons (ps_set (i := 3) scWrong.nd rfl (.inl rfl) (pcall DP GP hr (pa_cons (pcall DE GE (hr.mono (by decide)) (pa_cons (pv 0) (pa_cons (pv 2) pa_nil))) pa_nil)))
    (pss_cons (ps_for PassesOwn.never rfl (pi_enum (by rfl) me (pa_cons (pcall DS GS (hr.mono (by decide)) (pa_cons (pv 2) (pa_cons (pv 1) pa_nil))) pa_nil))
        (pg_tup rfl (pgs_cons (pg_name (i := 4) scWrong.nd rfl (.inl rfl)) (pgs_cons (pg_tup rfl (pgs_cons (pg_name (i := 5) scWrong.nd rfl (.inl rfl)) (pgs_cons (pg_name (i := 6) scWrong.nd rfl (.inl rfl)) pgs_nil))) pgs_nil)))
      (pss_cons (ps_if (pt_cmp (pc_dnotin (hu_of hr) (pe_tup (pa_cons (pv 5) (pa_cons (pv 6) pa_nil))) (pv 3)) rfl) (pss_one (ps_ret (pe_tup (pa_cons pe_str (pa_cons (pv 2) (pa_cons (pv 4) pa_nil)))))) pss_nil)
      (pss_one (ps_if (pt_cmpR (op_neD hr.units) (pe_dget (hu_of hr) (pv 3) (pe_tup (pa_cons (pv 5) (pa_cons (pv 6) pa_nil))) (fun _ _ => rfl)) (pcall DE GE (hr.mono (by decide)) (pa_cons (pv 0) (pa_cons (pe_op op_sub (pv 6) (pv 5)) pa_nil))) (nomark _))
        (pss_one (ps_ret (pe_tup (pa_cons pe_str (pa_cons (pv 2) (pa_cons (pv 4) pa_nil)))))) pss_nil))))
    (pss_one (ps_ret pe_non))), ?_⟩
  -- parts = parts_of(entry(table, m))
  refine ⟨_, rfl, _, rfl, t, v, m, rfl, hT, m1, m2, fun x H1 g1 hx => ?_⟩
  have zm : (ent t m).size = m := ok.size m1 m2
  refine ⟨ent t m, x, rfl, hx, by omega, fun d kvs H2 g2 nd ed hp => ?_⟩
  -- the stretches
  refine ⟨_, rfl, _, rfl, m, b, rfl, b1, by omega, by omega, fun p ys H3 g3 np ep hy => ?_⟩
  have ed3 := g3 _ _ ed
  have gH := (g1.trans g2).trans g3
  have ly : ys.length = cnt m b := by rw [hy.1, strs_length]
  refine ⟨p, ys, rfl, SqL.of ep, ?_⟩
  refine for_it walk_enum (fun i σ H' => Same H3 H' ∧ (∃ y4 y5 y6, σ = [some v, some (.int b), some (.int m), some (.ref d), y4, y5, y6]) ∧ ∀ k, k < i → part (ent t m) 0 (k * b, fin m b k) = some (ent t (wid m b k)))
    ⟨Same.refl _, ⟨none, none, none, rfl⟩, fun k hk => absurd hk (Nat.not_lt_zero _)⟩ (fun i σ H' _ hP => hP.1.seq (SqL.of ep)) (fun i y σ H4 H5 hi hP hY => ?_) (fun σ H4 hP => ?_)
  · obtain ⟨g4, ⟨y4, y5, y6, rfl⟩, hk⟩ := hP
    obtain ⟨T, z1, z2, rfl, nT, rfl, e1, e2⟩ := hY
    obtain rfl : V.int (i : Nat) = z1 := Option.some.inj e1
    have ic : i < cnt m b := by omega
    obtain ⟨s0, es0, a0, rfl, ha0⟩ := hy.at e2
    rw [strs_get ic] at es0
    obtain rfl : (i * b, fin m b i) = s0 := Option.some.inj es0
    have sT := snew nT (.tup [V.int (i : Nat), .ref a0])
    have gT := g4.trans sT
    have i1 := fin_gt (m := m) (b := b) (k := i) b1 ic
    have i2 := fin_wid (m := m) (b := b) (k := i) b1 ic
    refine ⟨T, _, rfl, SqT.of upd_same, rfl, _, _, rfl, _, _, rfl, a0, _, rfl, Same.sqT gT ha0, rfl, _, _, rfl, _, _, rfl, rfl, rfl, ?_⟩
    -- (begin, end) not in parts
    refine ⟨_, rfl, _, rfl, Nat.le_of_lt (line_small (show 2 ≤ 100000 by decide)), fun p2 hp2 => ?_⟩
    have s2 := snew hp2 (.tup [V.int ((i * b : Nat) : Int), V.int ((fin m b i : Nat) : Int)])
    have gd := (gT.trans s2) _ _ ed3
    have says := (hp (i * b, fin m b i)).mono (ts_of (g3.trans (gT.trans s2)))
    refine ⟨_, rfl, d, _, rfl, DGet.t (k := ky (i * b, fin m b i)) gd upd_same, _, rfl, ?_⟩
    cases ep1 : part (ent t m) 0 (i * b, fin m b i) with
    | none =>
      rw [ep1] at says
      have says : valV kvs (ky (i * b, fin m b i)) = none := says
      rw [says]
      refine iteT ⟨_, rfl, _, rfl, Nat.le_of_lt (line_small (show 3 ≤ 100000 by decide)), fun p3 hp3 => ?_⟩
      refine qR p3 _ ((gH.trans (gT.trans s2)).trans (snew hp3 _)) fun z => ?_
      have := z i ic
      rw [ep1] at this
      cases this
    | some t0 =>
      rw [ep1] at says
      obtain ⟨v0, ev, hv⟩ := says
      rw [ev]
      refine iteF ?_
      -- parts[begin, end] != entry(table, end - begin)
      refine ⟨_, rfl, _, rfl, _, rfl, Nat.le_of_lt (line_small (show 2 ≤ 100000 by decide)), fun p3 hp3 => ?_⟩
      have s3 := snew hp3 (.tup [V.int ((i * b : Nat) : Int), V.int ((fin m b i : Nat) : Int)])
      refine ⟨d, v0, rfl, by rw [← ev]; exact DGet.t (k := ky (i * b, fin m b i)) (s3 _ _ gd) upd_same, ?_⟩
      have w1 := wid_pos (m := m) (b := b) (k := i) b1 ic
      have w2 := wid_le' m b i
      refine ⟨_, rfl, _, rfl, _, rfl, _, _, rfl, rfl, t, v, wid m b i, ?_, hT.same (gH.trans ((gT.trans s2).trans s3)), w1, by omega, fun x2 H6 g6 hx2 => ?_⟩
      · show [v, V.int (((fin m b i : Nat) : Int) - ((i * b : Nat) : Int))] = _
        rw [show ((fin m b i : Nat) : Int) - ((i * b : Nat) : Int) = ((wid m b i : Nat) : Int) by omega]
      have pin := part_in _ _ _ _ ep1
      have sz0 : t0.size ≤ 60 := by
        have q0 := part_size _ _ _ _ ep1
        omega
      refine neS ((hv.same s3).same g6) hx2 sz0 (by rw [ok.size w1 (by omega)]; omega) ⟨_, rfl, ?_⟩
      by_cases et : t0 = ent t (wid m b i)
      · rw [decide_eq_true et]
        refine iteF ⟨gT.trans (s2.trans (s3.trans g6)), ⟨_, _, _, rfl⟩, fun k hk1 => ?_⟩
        rcases Nat.lt_or_ge k i with z | z
        · exact hk k z
        · obtain rfl : k = i := by omega
          rw [ep1, et]
      · rw [decide_eq_false et]
        refine iteT ⟨_, rfl, _, rfl, Nat.le_of_lt (line_small (show 3 ≤ 100000 by decide)), fun p4 hp4 => ?_⟩
        refine qR p4 _ ((gH.trans (gT.trans (s2.trans (s3.trans g6)))).trans (snew hp4 _)) fun z => ?_
        have := z i ic
        rw [ep1] at this
        exact et (Option.some.inj this)
  · obtain ⟨g4, ⟨y4, y5, y6, rfl⟩, hk⟩ := hP
    exact qN _ (gH.trans g4) fun k hk1 => hk k (by omega)

/-! ### above -/
def spAbv (K : PySem.W.Frag) (n : Nat) : Sp := fun vs H Q _ => ∃ (s : Sh) (x : V) (pa : Addr) (ps : List (Nat × Nat)) (ys : List V) (b : Nat), vs = [x, .ref pa, .int b] ∧ ShV K H s x ∧ s.size ≤ n ∧ SqL K H pa ys ∧ PrVs K H ps ys ∧
  ∀ a v H', Same H H' → H' a = some (.tup [v, .int ((b + s.size : Nat) : Int)]) → ShV K H' (abv s b ps) v → Q (.ref a) H'
theorem ok_abv {f : Addr} {fd : FuncData} (D : Df K mg "above" sAbv ["shape", "pairs", "begin"] f fd) : ∀ n, n ≤ 60 → FnOk P w K mg base CX0 n f fd ["shape", "pairs", "begin"] (spAbv K n)
  | 0, _ => none_left fun vs H Q E h => by
    obtain ⟨s, x, pa, ps, ys, b, _, _, h1, _⟩ := h
    have := s.size_pos
    omega
  | n + 1, hn => by
    have G := ok_abv D n (by omega)
    refine D.F.ok scAbv (fun vs H Q E h => ?_) (fun cdv A outer s H vs Q E hr h => ?_)
    · obtain ⟨s, x, pa, ps, ys, b, rfl, _⟩ := h
      rfl
    obtain ⟨s, x, pa, ps, ys, b, rfl, hs, hz, hl, hy, q⟩ := h
    refine ⟨_, pss_cons (ps_if (pt_cmpR (op_eqD hr.units) (pv 0) (pe_tup pa_nil) (nomark _)) (pss_one (ps_ret (pe_tup (pa_cons (pe_tup pa_nil) (pa_cons (pe_op op_add (pv 2) pe_int) pa_nil))))) pss_nil)
      (pss_cons (ps_asg (pcall D G hr (pa_cons (pe_ix ix_tup (pv 0) pe_int (fun _ _ => rfl)) (pa_cons (pv 1) (pa_cons (pv 2) pa_nil))))
        (pg_tup rfl (pgs_cons (pg_name (i := 3) scAbv.nd rfl (.inl rfl)) (pgs_cons (pg_name (i := 4) scAbv.nd rfl (.inl rfl)) pgs_nil))))
      (pss_cons (ps_asg (pcall D G hr (pa_cons (pe_ix ix_tup (pv 0) pe_int (fun _ _ => rfl)) (pa_cons (pv 1) (pa_cons (pv 4) pa_nil))))
        (pg_tup rfl (pgs_cons (pg_name (i := 5) scAbv.nd rfl (.inl rfl)) (pgs_cons (pg_name (i := 6) scAbv.nd rfl (.inl rfl)) pgs_nil))))
      (pss_one (ps_ret (pe_tup (pa_cons (pe_ifExp (pt_cmpR (op_inD (room65 hr)) (pe_tup (pa_cons (pv 2) (pa_cons (pv 6) pa_nil))) (pv 1) rfl) (pe_tup pa_nil) (pe_tup (pa_cons (pv 3) (pa_cons (pv 5) pa_nil)))) (pa_cons (pv 6) pa_nil)))))))
      , ?_⟩
    refine ⟨_, rfl, Nat.zero_le _, fun p hp => eqO (hs.same (snew hp _)) (by omega) upd_same ⟨_, rfl, ite2 (fun c => ?_) (fun c => ?_)⟩⟩
    · have c' : s = .o := of_decide_eq_true c
      subst c'
      have s1 := snew hp (.tup [])
      refine ⟨Nat.zero_le _, fun p1 hp1 => ?_⟩
      have s2 := snew hp1 (.tup [])
      refine ⟨_, rfl, _, _, rfl, rfl, Nat.le_of_lt (line_small (show 2 ≤ 100000 by decide)), fun p2 hp2 => ?_⟩
      have s3 := snew hp2 (.tup [V.ref p1, V.int ((b : Int) + 1)])
      exact q p2 (.ref p1) _ ((s1.trans s2).trans s3) upd_same ⟨p1, rfl, Same.sqT s3 (SqT.of upd_same)⟩
    · cases s with
      | o => exact absurd (decide_eq_true rfl) c
      | p l r =>
        have hz : l.size + r.size ≤ n + 1 := hz
        have l1 := l.size_pos
        have r1 := r.size_pos
        have s1 := snew hp (.tup [])
        obtain ⟨a, xl, xr, rfl, hq, hl', hr'⟩ := hs.same s1
        refine ⟨_, rfl, a, _, 0, xl, rfl, rfl, hq, atI_nat (j := 0) rfl, _, rfl, _, rfl, l, xl, pa, ps, ys, b, rfl, hl', by omega, s1.seq hl, PrVs.same s1 hy, fun a1 v1 H1 g1 e1 q1 => ?_⟩
        refine ⟨a1, _, rfl, SqT.of e1, rfl, _, _, rfl, _, _, rfl, rfl, ?_⟩
        have t1 := s1.trans g1
        refine ⟨_, rfl, a, _, 1, xr, rfl, rfl, Same.sqT g1 hq, atI_nat (j := 1) rfl, _, rfl, _, rfl, r, xr, pa, ps, ys, b + l.size, rfl, hr'.same g1, by omega, t1.seq hl, PrVs.same t1 hy, fun a2 v2 H2 g2 e2 q2 => ?_⟩
        refine ⟨a2, _, rfl, SqT.of e2, rfl, _, _, rfl, _, _, rfl, rfl, ?_⟩
        have t2 := t1.trans g2
        refine ⟨_, rfl, _, rfl, Nat.le_of_lt (line_small (show 2 ≤ 100000 by decide)), fun p3 hp3 => ⟨_, rfl, ?_⟩⟩
        have s3 := snew hp3 (.tup [V.int (b : Int), V.int ((b + l.size + r.size : Nat) : Int)])
        have t3 := t2.trans s3
        have hpr : PrV K (upd H2 p3 (.tup [V.int (b : Int), V.int ((b + l.size + r.size : Nat) : Int)])) (b, b + (l.size + r.size)) (.ref p3) := ⟨p3, rfl, SqT.of (by
          rw [upd_same, show b + (l.size + r.size) = b + l.size + r.size by omega])⟩
        have ea : ∀ v, (V.ref v, V.int ((b + l.size + r.size : Nat) : Int)) = (V.ref v, V.int ((b + (Sh.p l r).size : Nat) : Int)) := fun v => by
          show _ = (V.ref v, V.int ((b + (l.size + r.size) : Nat) : Int))
          rw [show b + (l.size + r.size) = b + l.size + r.size by omega]
        refine inPr hpr (t3.seq hl) (PrVs.same t3 hy) ⟨_, rfl, ite2 (fun c2 => ?_) (fun c2 => ?_)⟩
        · have c3 := of_decide_eq_true c2
          refine ⟨Nat.zero_le _, fun p4 hp4 => ⟨_, rfl, Nat.le_of_lt (line_small (show 2 ≤ 100000 by decide)), fun p5 hp5 => ?_⟩⟩
          have s4 := snew hp4 (.tup [])
          have s5 := snew hp5 (.tup [V.ref p4, V.int ((b + l.size + r.size : Nat) : Int)])
          refine q p5 (.ref p4) _ ((t3.trans s4).trans s5) (by rw [upd_same, show b + (Sh.p l r).size = b + l.size + r.size from (Nat.add_assoc _ _ _).symm]) ?_
          unfold abv
          rw [if_pos c3]
          exact ⟨p4, rfl, Same.sqT s5 (SqT.of upd_same)⟩
        · have c3 : ¬ (b, b + (l.size + r.size)) ∈ ps := of_decide_eq_false (Bool.eq_false_iff.mpr c2)
          refine ⟨_, rfl, _, rfl, Nat.le_of_lt (line_small (show 2 ≤ 100000 by decide)), fun p4 hp4 => ⟨_, rfl, Nat.le_of_lt (line_small (show 2 ≤ 100000 by decide)), fun p5 hp5 => ?_⟩⟩
          have s4 := snew hp4 (.tup [v1, v2])
          have s5 := snew hp5 (.tup [V.ref p4, V.int ((b + l.size + r.size : Nat) : Int)])
          refine q p5 (.ref p4) _ ((t3.trans s4).trans s5) (by rw [upd_same, show b + (Sh.p l r).size = b + l.size + r.size from (Nat.add_assoc _ _ _).symm]) ?_
          unfold abv
          rw [if_neg c3]
          exact ⟨p4, v1, v2, rfl, Same.sqT s5 (SqT.of upd_same), q1.same (g2.trans (s3.trans (s4.trans s5))), q2.same (s3.trans (s4.trans s5))⟩

/-! ### shape_above -/
def spSab (K : PySem.W.Frag) : Sp := fun vs H Q _ => ∃ (t : Tb) (v : V) (b m : Nat), vs = [v, .int b, .int m] ∧ TbV K H t v ∧ Ok t ∧ tsz t ≤ 60 ∧ 1 ≤ b ∧ b ≤ 60 ∧ 1 ≤ m ∧ m ≤ tsz t ∧ ∀ x H', Same H H' → ShV K H' (sa t b m) x → Q x H'
theorem ok_sab {f fA fE fS : Addr} {fd fdA fdE fdS : FuncData} (F : Fun K "shape_above" "shape_above" sSab f fd) (DA : Df K mg "above" sAbv ["shape", "pairs", "begin"] fA fdA)
    (DE : Df K mg "entry" sEnt ["table", "m"] fE fdE) (DS : Df K mg "stretches" sStr ["m", "b"] fS fdS) (mr : mg "range" = none) (mm : mg "min" = none) : FnOk P w K mg base CX0 61 f fd ["table", "b", "m"] (spSab K) := by
  have GA := ok_abv (P := P) (w := w) (base := base) DA 60 (Nat.le_refl _)
  have GE : FnOk P w K mg base CX0 1 fE fdE ["table", "m"] (spEnt K) := ok_ent DE.F
  have GS : FnOk P w K mg base CX0 1 fS fdS ["m", "b"] (spStrs K) := ok_str DS.F mr mm
  refine F.ok scSab (fun vs H Q E h => ?_) (fun cdv A outer s H vs Q E hr h => ?_)
  · obtain ⟨t, v, b, m, rfl, _⟩ := h
    rfl
  obtain ⟨t, v, b, m, rfl, hT, ok, t60, b1, b60, m1, m2, q⟩ := h
  refine ⟨_, pss_one (ps_ret (pe_ix ix_tup (pcall DA GA hr (pa_cons (pcall DE GE (hr.mono (by decide)) (pa_cons (pv 0) (pa_cons (pv 2) pa_nil))) (pa_cons (pcall DS GS (hr.mono (by decide)) (pa_cons (pv 2) (pa_cons (pv 1) pa_nil))) (pa_cons pe_int pa_nil)))) pe_int (fun _ _ => rfl))), ?_⟩
  refine ⟨_, rfl, _, rfl, t, v, m, rfl, hT, m1, m2, fun x H1 g1 hx => ?_⟩
  have zm : (ent t m).size = m := ok.size m1 m2
  refine ⟨_, rfl, _, rfl, m, b, rfl, b1, by omega, by omega, fun p ys H3 g3 np ep hy => ?_⟩
  refine ⟨ent t m, x, p, strc m b, ys, 0, rfl, hx.same g3, by omega, SqL.of ep, hy, fun a y H4 g4 e4 q4 => ?_⟩
  exact ⟨a, _, 0, y, rfl, rfl, SqT.of e4, atI_nat (j := 0) rfl, q y H4 ((g1.trans g3).trans g4) q4⟩
end
end Lp

set_option maxRecDepth 100000
/-! Counters, cuts, what is behind a cut. -/
namespace Lp
open PySem PySem.Spec PyProof.Rows L2

abbrev sIsI : Stmt := topS 4
abbrev sIsN : Stmt := topS 5
abbrev sCnt : Stmt := topS 17
abbrev sIsc : Stmt := topS 18
abbrev sCuts : Stmt := topS 19
abbrev sBeh : Stmt := topS 20
theorem scIsI : FnScope ["value"] ["value"] (defScope sIsI) := ⟨rfl, rfl, rfl, by decide +kernel, rfl, by decide +kernel, by decide +kernel⟩
theorem scIsN : FnScope ["value"] ["value"] (defScope sIsN) := ⟨rfl, rfl, rfl, by decide +kernel, rfl, by decide +kernel, by decide +kernel⟩
theorem scCnt : FnScope ["table", "b", "first", "m", "wrong", "told"] ["table", "b"] (defScope sCnt) := ⟨rfl, rfl, rfl, by decide +kernel, rfl, by decide +kernel, by decide +kernel⟩
theorem scIsc : FnScope ["table", "b"] ["table", "b"] (defScope sIsc) := ⟨rfl, rfl, rfl, by decide +kernel, rfl, by decide +kernel, by decide +kernel⟩
theorem scCuts : FnScope ["table", "b"] ["table"] (defScope sCuts) := ⟨rfl, rfl, rfl, by decide +kernel, rfl, by decide +kernel, by decide +kernel⟩
theorem scBeh : FnScope ["table", "b", "found", "m"] ["table", "b"] (defScope sBeh) := ⟨rfl, rfl, rfl, by decide +kernel, rfl, by decide +kernel, by decide +kernel⟩

section
variable {P : Program} {w : World} {K : PySem.W.Frag} {mg : Str → Option Value} {base : Heap}
/-! ### is_integer, is_number: of a number -/
def spIsI : Sp := fun vs H Q _ => ∃ n : Nat, vs = [.int n] ∧ Q (.bl true) H
theorem ok_isI {f : Addr} {fd : FuncData} (F : Fun K "is_integer" "is_integer" sIsI f fd) (m1 : mg "isinstance" = none) (m2 : mg "int" = none) (m3 : mg "bool" = none) : FnOk P w K mg base CX0 1 f fd ["value"] spIsI := by
  refine F.ok scIsI (fun vs H Q E h => ?_) (fun cdv A outer s H vs Q E hr h => ?_)
  · obtain ⟨n, rfl, _⟩ := h
    rfl
  obtain ⟨n, rfl, q⟩ := h
  refine ⟨_, pss_one (ps_ret (pe_and (pe_callB call_isi (by rfl) m1 boot_isinstance (pa_cons (pv 0) (pa_cons (pe_bltn (v := .ty "int") (by rfl) m2 PyProof.Rows.boot_int rfl) pa_nil)))
    (pe_one (pe_not (pe_callB call_isi (by rfl) m1 boot_isinstance (pa_cons (pv 0) (pa_cons (pe_bltn (v := .ty "bool") (by rfl) m3 PyProof.Rows.boot_bool rfl) pa_nil))))))), ?_⟩
  refine ⟨_, rfl, _, _, .type "int", .type "int", true, rfl, .ty _, .base (.int _), kit_ty (by decide +kernel), _, rfl, iteT ?_⟩
  exact ⟨_, rfl, _, _, .type "int", .type "bool", false, rfl, .ty _, .base (.int _), kit_ty (by decide +kernel), _, rfl, q⟩
theorem ok_isN {f fI : Addr} {fd fdI : FuncData} (F : Fun K "is_number" "is_number" sIsN f fd) (DI : Df K mg "is_integer" sIsI ["value"] fI fdI) (m1 : mg "isinstance" = none) (m2 : mg "int" = none) (m3 : mg "bool" = none) : FnOk P w K mg base CX0 2 f fd ["value"] spIsI := by
  have GI : FnOk P w K mg base CX0 1 fI fdI ["value"] spIsI := ok_isI DI.F m1 m2 m3
  refine F.ok scIsN (fun vs H Q E h => ?_) (fun cdv A outer s H vs Q E hr h => ?_)
  · obtain ⟨n, rfl, _⟩ := h
    rfl
  obtain ⟨n, rfl, q⟩ := h
  refine ⟨_, pss_one (ps_ret (pe_and (pcall DI GI hr (pa_cons (pv 0) pa_nil)) (pe_one (pe_cmpR op_ge (pv 0) pe_int (nomark _))))), ?_⟩
  refine ⟨_, rfl, n, rfl, _, rfl, iteT ⟨_, rfl, _, _, rfl, rfl, qbl (Q := Q) q ?_⟩⟩
  exact decide_eq_true (by omega)

/-! ### counter -/
theorem abv_size_le : ∀ (s : Sh) (b : Nat) (ps : List (Nat × Nat)), (abv s b ps).size ≤ s.size
  | .o, _, _ => Nat.le_refl _
  | .p l r, b, ps => by
    have h1 := abv_size_le l b ps
    have h2 := abv_size_le r (b + l.size) ps
    have l1 := l.size_pos
    unfold abv
    split
    · show 1 ≤ l.size + r.size
      omega
    · show (abv l _ _).size + (abv r _ _).size ≤ l.size + r.size
      omega
def spCnt (K : PySem.W.Frag) : Sp := fun vs H Q _ => ∃ (t : Tb) (v : V) (b : Nat), vs = [v, .int b] ∧ TbV K H t v ∧ Ok t ∧ tsz t ≤ 60 ∧ 2 ≤ b ∧ b < tsz t ∧
  (∀ H', Same H H' → IsCut t b → Q .non H') ∧ ∀ a H', Same H H' → ¬ IsCut t b → Q (.ref a) H'
theorem told_self {b m : Nat} (hb : 2 ≤ b) (hm : 2 ≤ m) (h : ∀ m', 2 ≤ m' → m' < m → cnt m' b ≠ cnt m b) : told b m = m := by
  obtain ⟨t1, t2, t3⟩ := told_cnt hb hm
  rcases Nat.lt_or_ge (told b m) m with z | z
  · exact absurd t1 (h _ t2 z)
  · omega
/-- a dict may change -/
theorem ts_dk {H : Hp} {p : Addr} {kvs : List (Key × V)} {o : HO} (h : H p = some (.dK kvs)) : TS H (upd H p o) := fun a ys r => by
  have ne : a ≠ p := fun e => by
    subst e
    rcases r with r | ⟨u, r⟩ <;> (rw [h] at r; cases r)
  rcases r with r | ⟨u, r⟩
  · exact .inl (by rw [upd_ne ne]; exact r)
  · exact .inr ⟨u, by rw [upd_ne ne]; exact r⟩
/-- the turn's last statement -/
theorem cnt_tail {K : PySem.W.Frag} {H : Hp} {D : Ends} {t : Tb} {v : V} {b m m0 : Nat} {y2 y4 : Option V} (hT : TbV K H t v) (ok : Ok t) (t60 : tsz t ≤ 60) (b1 : 1 ≤ b) (b60 : b ≤ 60) (h1 : 2 ≤ m0) (h2 : m0 ≤ tsz t) (h3 : 2 ≤ m) (h4 : m ≤ tsz t)
    (qn : ∀ H', Same H H' → sa t b m0 = sa t b m → D.nx [some v, some (.int b), y2, some (.int m), y4, some (.int m0)] H') (qr : ∀ a H', Same H H' → sa t b m0 ≠ sa t b m → D.rt (.ref a) H') :
    tIfS (tTest (tOp (rNeD K) (tCall (spSab K) [] E0 (tCons (tVar 0) (tCons (tVar 1) (tCons (tVar 5) tNil)))) (tCall (spSab K) [] E0 (tCons (tVar 0) (tCons (tVar 1) (tCons (tVar 3) tNil))))))
      (tRet (tTup (tCons (tC (.str "above")) (tCons (tVar 5) (tCons (tVar 3) tNil))))) tNext D [some v, some (.int b), y2, some (.int m), y4, some (.int m0)] H := by
  refine ⟨_, rfl, _, rfl, _, rfl, t, v, b, m0, rfl, hT, ok, t60, b1, b60, by omega, h2, fun x H1 g1 hx => ?_⟩
  refine ⟨_, rfl, _, rfl, _, rfl, t, v, b, m, rfl, hT.same g1, ok, t60, b1, b60, by omega, h4, fun y H2 g2 hy => ?_⟩
  have z1 := abv_size_le (ent t m0) 0 (strc m0 b)
  have z2 := abv_size_le (ent t m) 0 (strc m b)
  have e1 := ok.size (m := m0) (by omega) h2
  have e2 := ok.size (m := m) (by omega) h4
  refine neS (hx.same g2) hy (by unfold sa; omega) (by unfold sa; omega) ⟨_, rfl, ?_⟩
  by_cases e : sa t b m0 = sa t b m
  · rw [decide_eq_true e]
    exact iteF (qn _ (g1.trans g2) e)
  · rw [decide_eq_false e]
    refine iteT ⟨_, rfl, _, rfl, Nat.le_of_lt (line_small (show 3 ≤ 100000 by decide)), fun p hp => ?_⟩
    exact qr p _ ((g1.trans g2).trans (snew hp _)) e
theorem ok_cnt {f fT fW fS fA : Addr} {fd fdT fdW fdS fdA : FuncData} (F : Fun K "counter" "counter" sCnt f fd) (DT : Df K mg "table_size" sTsz ["table"] fT fdT) (DW : Df K mg "wrong_stretch" sWrong ["table", "b", "m"] fW fdW)
    (DS : Df K mg "stretches" sStr ["m", "b"] fS fdS) (DA : Df K mg "shape_above" sSab ["table", "b", "m"] fA fdA) (GW : FnOk P w K mg base CX0 62 fW fdW ["table", "b", "m"] (spWrong K)) (GA : FnOk P w K mg base CX0 61 fA fdA ["table", "b", "m"] (spSab K))
    (ml : mg "len" = none) (mr : mg "range" = none) (mm : mg "min" = none) : FnOk P w K mg base CX0 63 f fd ["table", "b"] (spCnt K) := by
  have GT : FnOk P w K mg base CX0 1 fT fdT ["table"] (spTsz K) := ok_tsz DT.F ml
  have GS : FnOk P w K mg base CX0 1 fS fdS ["m", "b"] (spStrs K) := ok_str DS.F mr mm
  refine F.ok scCnt (fun vs H Q E h => ?_) (fun cdv A outer s H vs Q E hr h => ?_)
  · obtain ⟨t, v, b, rfl, _⟩ := h
    rfl
  obtain ⟨t, v, b, rfl, hT, ok, t60, b2, bn, qN, qR⟩ := h
  refine ⟨_, pss_cons (ps_if (pt_cmpR op_ne (pe_op op_mod (pcall DT GT (hr.mono (by decide)) (pa_cons (pv 0) pa_nil)) (pv 1)) pe_int (nomark _)) (pss_one (ps_ret (pe_tup (pa_cons pe_str pa_nil)))) pss_nil)
    (pss_cons (ps_set (i := 2) scCnt.nd rfl (.inl rfl) pe_dnewK)
    (pss_cons (ps_for PassesOwn.never rfl (pi_range2 (by rfl) mr (pa_cons pe_int (pa_cons (pe_op op_add (pcall DT GT (hr.mono (by decide)) (pa_cons (pv 0) pa_nil)) pe_int) pa_nil))) (pg_name (i := 3) scCnt.nd rfl (.inl rfl))
      (pss_cons (ps_set (i := 4) scCnt.nd rfl (.inl rfl) (pcall DW GW hr (pa_cons (pv 0) (pa_cons (pv 1) (pa_cons (pv 3) pa_nil)))))
      (pss_cons (ps_if (pt_cmp (pc_notN (pv 4)) rfl) (pss_one (ps_ret (pv 4))) pss_nil)
      (pss_cons (ps_set (i := 5) scCnt.nd rfl (.inl rfl) (pe_dsetd (pv 2) (pe_callB call_len_seq (by rfl) ml PySem.boot_len (pa_cons (pcall DS GS (hr.mono (by decide)) (pa_cons (pv 3) (pa_cons (pv 1) pa_nil))) pa_nil)) (pv 3) ⟨rfl, by rfl, by rfl, by rfl⟩))
      (pss_one (ps_if (pt_cmpR (op_neD hr.units) (pcall DA GA (hr.mono (by decide)) (pa_cons (pv 0) (pa_cons (pv 1) (pa_cons (pv 5) pa_nil)))) (pcall DA GA (hr.mono (by decide)) (pa_cons (pv 0) (pa_cons (pv 1) (pa_cons (pv 3) pa_nil)))) (nomark _))
        (pss_one (ps_ret (pe_tup (pa_cons pe_str (pa_cons (pv 5) (pa_cons (pv 3) pa_nil)))))) pss_nil))))))
    (pss_one (ps_ret pe_non)))), ?_⟩
  -- table_size(table) % b != 0
  refine ⟨_, rfl, t, v, rfl, hT, _, rfl, _, _, rfl, rfl, (by show (0 : Int) < b; omega), rfl, _, rfl, ite2 (fun c => ?_) (fun c => ?_)⟩
  · refine ⟨Nat.le_of_lt (line_small (show 1 ≤ 100000 by decide)), fun p hp => qR p _ (snew hp _) fun z => ?_⟩
    have z0 := z.1
    have e : V.int (((tsz t : Nat) : Int) % (b : Int)) = V.int 0 := by
      rw [← Int.natCast_emod, z0]
      rfl
    have c' : (!decide (V.int (((tsz t : Nat) : Int) % (b : Int)) = V.int 0)) = true := c
    rw [decide_eq_true e] at c'
    cases c'
  have h0 : tsz t % b = 0 := by
    have c' : ¬ (!decide (V.int (((tsz t : Nat) : Int) % (b : Int)) = V.int 0)) = true := c
    by_cases e : V.int (((tsz t : Nat) : Int) % (b : Int)) = V.int 0
    · have := V.int.inj e
      rw [← Int.natCast_emod] at this
      omega
    · rw [decide_eq_false e] at c'
      exact absurd rfl c'
  -- first = {}
  intro d hd
  have s1 := snew hd (.dK [])
  refine ⟨_, rfl, t, v, rfl, hT.same s1, _, _, rfl, rfl, 2, ((tsz t : Nat) : Int) + 1, rfl, ⟨by decide, by decide, by omega, by omega⟩, ?_⟩
  refine for_range (lo := 2) (n := (((tsz t : Nat) : Int) + 1 - 2).toNat) (fun i σ H' => Same H H' ∧ (∃ y3 y4 y5, σ = [some v, some (.int b), some (.ref d), y3, y4, y5]) ∧ (∃ kvs : List (Key × V), H' d = some (.dK kvs) ∧ kvs.length ≤ i ∧
      (∀ m, 2 ≤ m → m < 2 + i → valV kvs (Sum.inl ((cnt m b : Nat) : Int)) = some (.int ((told b m : Nat) : Int))) ∧ (∀ c : Nat, (∀ m, 2 ≤ m → m < 2 + i → cnt m b ≠ c) → valV kvs (Sum.inl (c : Int)) = none)) ∧
      ∀ m, 2 ≤ m → m < 2 + i → OkStr t b m ∧ sa t b (told b m) = sa t b m)
    ⟨s1, ⟨none, none, none, rfl⟩, ⟨[], upd_same, Nat.le_refl _, fun m m1 m2 => absurd m2 (by omega), fun _ _ => rfl⟩, fun m m1 m2 => absurd m2 (by omega)⟩ (fun i σ H1 hi hP => ?_) (fun σ H1 hP => ?_)
  · obtain ⟨g1, ⟨y3, y4, y5, rfl⟩, ⟨kvs, ed, lk, dA, dB⟩, hok⟩ := hP
    have em : (2 : Int) + ((i : Nat) : Int) = (((2 + i : Nat)) : Int) := by omega
    have mN : 2 + i ≤ tsz t := by omega
    generalize hm : 2 + i = m at *
    rw [em]
    -- wrong
    refine ⟨_, rfl, _, rfl, _, rfl, t, v, b, m, rfl, hT.same g1, ok, t60, by omega, by omega, by omega, mN, fun H2 g2 oks => ?_, fun a H2 g2 nok => ?_⟩
    · refine ⟨_, rfl, _, rfl, iteNS rfl ?_⟩
      have ed2 := g2 _ _ ed
      have g12 := g1.trans g2
      -- told
      refine ⟨_, rfl, d, rfl, .inl ⟨kvs, .inl ed2⟩, _, rfl, _, rfl, m, b, rfl, by omega, by omega, by omega, fun p ys H3 g3 np ep hy => ?_⟩
      have ed3 := g3 _ _ ed2
      have g13 := g12.trans g3
      have ly : ys.length = cnt m b := by rw [hy.1, strs_length]
      refine ⟨p, ys, rfl, .inl (SqL.of ep), _, rfl, kvs, Sum.inl ((cnt m b : Nat) : Int), ed3, by rw [ly]; rfl, line_small (by omega), fun y hv => ?_, fun hv => ?_⟩
      · -- there is one
        obtain ⟨m', m1', m2', e'⟩ : ∃ m', 2 ≤ m' ∧ m' < m ∧ cnt m' b = cnt m b := by
          refine Classical.byContradiction fun no => ?_
          have := dB (cnt m b) fun m' a1 a2 a3 => no ⟨m', a1, a2, a3⟩
          rw [hv] at this
          cases this
        have ey : y = V.int ((told b m : Nat) : Int) := by
          have := dA m' m1' m2'
          rw [e', hv] at this
          rw [Option.some.inj this, told_eq e']
        subst ey
        obtain ⟨t1, t2, t3⟩ := told_cnt b2 (show 2 ≤ m by omega)
        refine cnt_tail (hT.same g13) ok t60 (by omega) (by omega) t2 (by omega) (by omega) mN (fun H4 g4 e4 => ?_) (fun a H4 g4 n4 => qR a _ (g13.trans g4) fun z => n4 (z.2 m (by omega) mN).2)
        refine ⟨g13.trans g4, ⟨_, _, _, rfl⟩, ⟨kvs, g4 _ _ ed3, by omega, fun c c1 c2 => ?_, fun c hc => dB c fun m'' a1 a2 => hc m'' a1 (by omega)⟩, fun c c1 c2 => ?_⟩
        · rcases Nat.lt_or_ge c m with z | z
          · exact dA c c1 z
          · obtain rfl : c = m := by omega
            exact hv
        · rcases Nat.lt_or_ge c m with z | z
          · exact hok c c1 z
          · obtain rfl : c = m := by omega
            exact ⟨oks, e4⟩
      · -- m is the first one
        have es : told b m = m := told_self b2 (by omega) fun m' a1 a2 a3 => by
          have := dA m' a1 a2
          rw [a3, hv] at this
          cases this
        have s3 : Same H (upd H3 d (.dK (putK kvs (Sum.inl ((cnt m b : Nat) : Int)) (.int (m : Int))))) := sput g13 hd _
        have t3 : TS H3 (upd H3 d (.dK (putK kvs (Sum.inl ((cnt m b : Nat) : Int)) (.int (m : Int))))) := ts_dk ed3
        refine cnt_tail ((hT.same g13).mono t3) ok t60 (by omega) (by omega) (by omega) mN (by omega) mN (fun H4 g4 e4 => ?_) (fun a H4 g4 n4 => absurd rfl n4)
        refine ⟨s3.trans g4, ⟨_, _, _, rfl⟩, ⟨_, g4 _ _ upd_same, by have := length_putK kvs (Sum.inl ((cnt m b : Nat) : Int)) (V.int (m : Int)); omega, fun c c1 c2 => ?_, fun c hc => ?_⟩, fun c c1 c2 => ?_⟩
        · rw [valV_put]
          by_cases ec : cnt c b = cnt m b
          · rw [if_pos (by rw [ec]), told_eq ec, es]
          · rw [if_neg (fun z => ec (by have := Sum.inl.inj z; omega))]
            rcases Nat.lt_or_ge c m with z | z
            · exact dA c c1 z
            · obtain rfl : c = m := by omega
              exact absurd rfl ec
        · rw [valV_put, if_neg (fun z => hc m (by omega) (by omega) (by have := Sum.inl.inj z; omega))]
          exact dB c fun m'' a1 a2 => hc m'' a1 (by omega)
        · rcases Nat.lt_or_ge c m with z | z
          · exact hok c c1 z
          · obtain rfl : c = m := by omega
            exact ⟨oks, by rw [es]⟩
    · refine ⟨_, rfl, _, rfl, ?_⟩
      rw [decide_eq_false (by intro z; cases z)]
      exact iteT ⟨_, rfl, qR a _ (g1.trans g2) fun z => nok (z.2 m (by omega) mN).1⟩
  · obtain ⟨g1, ⟨y3, y4, y5, rfl⟩, ⟨kvs, ed, lk, dA, dB⟩, hok⟩ := hP
    exact qN _ g1 ⟨h0, fun m m1 m2 => hok m m1 (by omega)⟩

/-! ### is_cut -/
def spIsc (K : PySem.W.Frag) : Sp := fun vs H Q _ => ∃ (t : Tb) (v : V) (b : Nat), vs = [v, .int b] ∧ TbV K H t v ∧ Ok t ∧ tsz t ≤ 60 ∧ 2 ≤ b ∧ b < tsz t ∧ ∀ c H', Same H H' → (c = true ↔ IsCut t b) → Q (.bl c) H'
theorem ok_isc {f fN fT fC : Addr} {fd fdN fdT fdC : FuncData} (F : Fun K "is_cut" "is_cut" sIsc f fd) (DN : Df K mg "is_number" sIsN ["value"] fN fdN) (DT : Df K mg "table_size" sTsz ["table"] fT fdT) (DC : Df K mg "counter" sCnt ["table", "b"] fC fdC)
    (GN : FnOk P w K mg base CX0 2 fN fdN ["value"] spIsI) (GC : FnOk P w K mg base CX0 63 fC fdC ["table", "b"] (spCnt K)) (ml : mg "len" = none) : FnOk P w K mg base CX0 64 f fd ["table", "b"] (spIsc K) := by
  have GT : FnOk P w K mg base CX0 1 fT fdT ["table"] (spTsz K) := ok_tsz DT.F ml
  refine F.ok scIsc (fun vs H Q E h => ?_) (fun cdv A outer s H vs Q E hr h => ?_)
  · obtain ⟨t, v, b, rfl, _⟩ := h
    rfl
  obtain ⟨t, v, b, rfl, hT, ok, t60, b2, bn, q⟩ := h
  refine ⟨_, pss_one (ps_ret (pe_and (pcall DN GN (hr.mono (by decide)) (pa_cons (pv 1) pa_nil)) (pe_and (pe_chain op_lt op_lt pe_int (pv 1) (pcall DT GT (hr.mono (by decide)) (pa_cons (pv 0) pa_nil)))
    (pe_one (pe_cmp (pc_isN (pcall DC GC hr (pa_cons (pv 0) (pa_cons (pv 1) pa_nil)))) rfl))))), ?_⟩
  refine ⟨_, rfl, b, rfl, _, rfl, iteT ?_⟩
  have c1 : decide ((1 : Int) < (b : Int)) = true := decide_eq_true (by omega)
  have c2 : decide (((b : Nat) : Int) < ((tsz t : Nat) : Int)) = true := decide_eq_true (by omega)
  refine ⟨_, rfl, _, _, rfl, rfl, _, rfl, ?_⟩
  rw [c1]
  refine iteT ⟨_, rfl, t, v, rfl, hT, _, _, rfl, rfl, _, rfl, ?_⟩
  rw [c2]
  refine iteT ⟨_, rfl, _, rfl, t, v, b, rfl, hT, ok, t60, b2, bn, fun H1 g1 z => ?_, fun a H1 g1 z => ?_⟩
  · exact q _ H1 g1 ⟨fun _ => z, fun _ => decide_eq_true rfl⟩
  · refine q _ H1 g1 ⟨fun e => ?_, fun y => absurd y z⟩
    have e2 := of_decide_eq_true e
    cases e2

/-! ### cuts -/
def spCuts (K : PySem.W.Frag) : Sp := fun vs H Q _ => ∃ (t : Tb) (v : V), vs = [v] ∧ TbV K H t v ∧ Ok t ∧ tsz t ≤ 60 ∧ ∀ p H', Same H H' → H p = none → H' p = some (.lst ((cuts t).map fun (b : Nat) => V.int b)) → Q (.ref p) H'
open Classical in
theorem cuts_eq (t : Tb) : cuts t = (List.range' 2 (tsz t - 2)).filter fun b => decide (IsCut t b) := by
  unfold cuts
  exact List.filter_congr fun b _ => by simp
open Classical in
theorem filter_next {p : Nat → Bool} {k i : Nat} : (List.range' k (i + 1)).filter p = (List.range' k i).filter p ++ (if p (k + i) = true then [k + i] else []) := by
  rw [List.range'_concat, List.filter_append, Nat.one_mul]
  congr 1
  by_cases h : p (k + i) = true
  · rw [if_pos h, List.filter_cons, if_pos h]
    rfl
  · rw [if_neg h, List.filter_cons, if_neg h]
    rfl
open Classical in
theorem ok_cuts {f fT fC : Addr} {fd fdT fdC : FuncData} (F : Fun K "cuts" "cuts" sCuts f fd) (DT : Df K mg "table_size" sTsz ["table"] fT fdT) (DC : Df K mg "is_cut" sIsc ["table", "b"] fC fdC)
    (GC : FnOk P w K mg base CX0 64 fC fdC ["table", "b"] (spIsc K)) (ml : mg "len" = none) (mr : mg "range" = none) : FnOk P w K mg base CX0 65 f fd ["table"] (spCuts K) := by
  have GT : FnOk P w K mg base CX0 1 fT fdT ["table"] (spTsz K) := ok_tsz DT.F ml
  refine F.ok scCuts (fun vs H Q E h => ?_) (fun cdv A outer s H vs Q E hr h => ?_)
  · obtain ⟨t, v, rfl, _⟩ := h
    rfl
  obtain ⟨t, v, rfl, hT, ok, t60, q⟩ := h
  refine ⟨_, pss_one (ps_ret (pe_lc (own := [("b", 1)]) (g := gName 1) rfl scCuts.nd (pi_range2 (by rfl) mr (pa_cons pe_int (pa_cons (pcall DT GT (hr.mono (by decide)) (pa_cons (pv 0) pa_nil)) pa_nil)))
    (blkOk_by (N := ["table", "b"]) (sc := defScope sCuts) (by decide +kernel)) (fun _ _ _ _ _ => pg_name (i := 1) scCuts.nd rfl (Or.inl rfl)) (fun _ _ _ _ _ => pts_one (pt_val (pcall DC GC hr (pa_cons (pv 0) (pa_cons (pv 1) pa_nil)))))
    (fun _ _ _ _ _ => pv 1))), ?_⟩
  refine ⟨_, rfl, t, v, rfl, hT, 2, _, rfl, ⟨by decide, by decide, by omega, by omega⟩, fun D hD => ?_⟩
  have t2 := ok.ne
  have en : (((tsz t : Nat) : Int) - 2).toNat = tsz t - 2 := by omega
  rw [en]
  refine lc_range (lo := 2) (n := tsz t - 2) (fun i H' => Same H H' ∧ H' D = some (.lst (((List.range' 2 i).filter fun b => decide (IsCut t b)).map fun (b : Nat) => V.int b))) ⟨snew hD _, upd_same⟩ (fun i H1 hi hP => ?_) (fun H1 hP => ?_)
  · obtain ⟨g1, eD⟩ := hP
    have em : (2 : Int) + ((i : Nat) : Int) = (((2 + i : Nat)) : Int) := by omega
    rw [em]
    refine ⟨rfl, _, rfl, _, rfl, t, v, 2 + i, rfl, hT.same g1, ok, t60, by omega, by omega, fun c H2 g2 hc => ⟨c, rfl, ?_⟩⟩
    have eD2 := g2 _ _ eD
    cases c with
    | true =>
      refine iteT ⟨_, rfl, _, eD2, ?_, sput (g1.trans g2) hD _, ?_⟩
      · rw [List.length_map]
        have := List.length_filter_le (fun b => decide (IsCut t b)) (List.range' 2 i)
        rw [List.length_range'] at this
        exact line_small (by omega)
      · rw [upd_same, filter_next, if_pos (decide_eq_true (hc.mp rfl)), List.map_append]
        rfl
    | false =>
      refine iteF ⟨g1.trans g2, ?_⟩
      rw [eD2, filter_next, if_neg (by rw [decide_eq_true_iff]; exact fun z => absurd (hc.mpr z) (by decide)), List.append_nil]
  · obtain ⟨g1, eD⟩ := hP
    refine q D H1 g1 hD ?_
    rw [eD, cuts_eq]

/-! ### behind -/
def spBeh (K : PySem.W.Frag) : Sp := fun vs H Q _ => ∃ (t : Tb) (v : V) (b : Nat), vs = [v, .int b] ∧ TbV K H t v ∧ Ok t ∧ tsz t ≤ 60 ∧ b ∈ cuts t ∧ ∀ x H', Same H H' → TbV K H' (behind t b) x → Q x H'
theorem ok_beh {f fT fC fA : Addr} {fd fdT fdC fdA : FuncData} (F : Fun K "behind" "behind" sBeh f fd) (DT : Df K mg "table_size" sTsz ["table"] fT fdT) (DC : Df K mg "counter" sCnt ["table", "b"] fC fdC) (DA : Df K mg "shape_above" sSab ["table", "b", "m"] fA fdA)
    (GC : FnOk P w K mg base CX0 63 fC fdC ["table", "b"] (spCnt K)) (GA : FnOk P w K mg base CX0 61 fA fdA ["table", "b", "m"] (spSab K)) (ml : mg "len" = none) (mr : mg "range" = none) (mt : mg "tuple" = none) : FnOk P w K mg base CX0 64 f fd ["table", "b"] (spBeh K) := by
  have GT : FnOk P w K mg base CX0 1 fT fdT ["table"] (spTsz K) := ok_tsz DT.F ml
  refine F.ok scBeh (fun vs H Q E h => ?_) (fun cdv A outer s H vs Q E hr h => ?_)
  · obtain ⟨t, v, b, rfl, _⟩ := h
    rfl
  obtain ⟨t, v, b, rfl, hT, ok, t60, hb, q⟩ := h
  obtain ⟨b2, bn, hc⟩ := mem_cuts.mp hb
  obtain ⟨q2, qe, _⟩ := quot_two b2 bn hc.1
  refine ⟨_, pss_cons (ps_set (i := 2) scBeh.nd rfl (.inl rfl) (pcall DC GC hr (pa_cons (pv 0) (pa_cons (pv 1) pa_nil))))
    (pss_cons (ps_if (pt_cmp (pc_notN (pv 2)) rfl) pss_never pss_nil)
    (pss_one (ps_ret (pe_callTy call_tuple_of (by rfl) mt PyProof.Rows.boot_tuple (pa_cons (pe_lc (own := [("m", 3)]) (g := gName 3) (tt := tYes) rfl scBeh.nd
      (pi_range2 (by rfl) mr (pa_cons pe_int (pa_cons (pe_op op_add (pe_op op_fdiv (pcall DT GT (hr.mono (by decide)) (pa_cons (pv 0) pa_nil)) (pv 1)) pe_int) pa_nil)))
      (blkOk_by (N := ["table", "b", "found", "m"]) (sc := defScope sBeh) (by decide +kernel)) (fun _ _ _ _ _ => pg_name (i := 3) scBeh.nd rfl (Or.inl rfl)) (fun _ _ _ _ _ => pts_nil)
      (fun _ _ _ _ _ => pcall DA GA (hr.mono (by decide)) (pa_cons (pv 0) (pa_cons (pv 1) (pa_cons (pe_op op_mul (pv 3) (pv 1)) pa_nil))))) pa_nil))))), ?_⟩
  refine ⟨_, rfl, _, rfl, t, v, b, rfl, hT, ok, t60, b2, bn, fun H1 g1 _ => ?_, fun a H1 g1 z => absurd hc z⟩
  refine ⟨_, rfl, _, rfl, iteNS rfl ?_⟩
  have eq : ((tsz t : Nat) : Int) / ((b : Nat) : Int) = ((tsz t / b : Nat) : Int) := (Int.natCast_ediv _ _).symm
  have bz := behind_tsz (t := t) (b := b) (by omega)
  have q60 : tsz t / b ≤ 60 := Nat.le_trans (Nat.div_le_self _ _) t60
  refine ⟨_, rfl, t, v, rfl, hT.same g1, _, rfl, _, _, rfl, rfl, ⟨by omega, by omega⟩, _, _, rfl, rfl, 2, _, rfl, ?_, fun D hD => ?_⟩
  · rw [eq]
    exact ⟨by decide, by decide, by omega, by omega⟩
  have en : (((tsz t : Nat) : Int) / ((b : Nat) : Int) + 1 - 2).toNat = tsz t / b - 1 := by
    rw [eq]
    omega
  rw [en]
  refine lc_range (lo := 2) (n := tsz t / b - 1) (fun i H' => Same H H' ∧ ∃ xs, H' D = some (.lst xs) ∧ ShVs K H' ((behind t b).take i) xs) ⟨sput g1 (g1.free hD) _, [], upd_same, .nil⟩ (fun i H2 hi hP => ?_) (fun H2 hP => ?_)
  · obtain ⟨g2, xs, eD, hA⟩ := hP
    have em : (2 : Int) + ((i : Nat) : Int) = (((2 + i : Nat)) : Int) := by omega
    rw [em]
    have w2 := Nat.mul_le_mul_right b (show 2 + i ≤ tsz t / b by omega)
    have w1 := Nat.mul_le_mul_right b (show 2 ≤ 2 + i by omega)
    refine ⟨rfl, tyes ?_⟩
    refine ⟨_, rfl, _, rfl, _, rfl, _, rfl, _, _, rfl, rfl, .inr ⟨by omega, by omega⟩, t, v, b, (2 + i) * b, ?_, hT.same g2, ok, t60, by omega, by omega, by omega, by omega, fun x H3 g3 hx => ?_⟩
    · show [v, V.int b, V.int (((2 + i : Nat) : Int) * ((b : Nat) : Int))] = _
      rw [← Int.natCast_mul]
    have eD3 := g3 _ _ eD
    have ts := ts_lst (o := HO.lst (xs ++ [x])) eD3
    have hD0 := g1.free hD
    have lx : xs.length ≤ tsz t / b := by
      rw [hA.1, List.length_take]
      omega
    refine ⟨xs, eD3, line_small (by omega), sput (g2.trans g3) hD0 _, _, upd_same, ?_⟩
    have en2 : (behind t b).take (i + 1) = (behind t b).take i ++ [sa t b ((2 + i) * b)] := by
      have hg := ent_get (t := behind t b) (m := 2 + i) (by omega) (by rw [bz]; omega)
      rw [show 2 + i - 2 = i by omega, behind_ent (by omega) (by omega)] at hg
      rw [List.take_add_one, hg]
      rfl
    rw [en2]
    exact (ShVs.mono ts (ShVs.same g3 hA)).snoc (hx.mono ts)
  · obtain ⟨g2, xs, eD, hA⟩ := hP
    refine ⟨D, xs, rfl, .inl ⟨SqL.of eD, fun l hl => ?_⟩⟩
    have lb : (behind t b).length = tsz t / b - 1 := by
      unfold tsz at bz ⊢
      omega
    rw [List.take_of_length_le (by omega)] at hA
    have s3 := snew hl (.tup xs)
    exact q _ _ (g2.trans s3) ⟨l, xs, rfl, SqT.of upd_same, ShVs.same s3 hA⟩
end
end Lp

set_option maxRecDepth 100000
/-! Tables as data, slices of tables, prime tables, primes. -/
namespace Lp
open PySem PySem.Spec PyProof.Rows L2

abbrev sPri : Stmt := topS 22
abbrev sPrimes : Stmt := topS 23
theorem scPri : FnScope ["table"] ["table"] (defScope sPri) := ⟨rfl, rfl, rfl, by decide +kernel, rfl, by decide +kernel, by decide +kernel⟩
theorem scPrimes : FnScope ["table", "found", "left", "first"] ["table"] (defScope sPrimes) := ⟨rfl, rfl, rfl, by decide +kernel, rfl, by decide +kernel, by decide +kernel⟩

/-! ### lists as data -/
theorem eqv_map {α : Type} [DecidableEq α] {f : α → PyData} (h : ∀ a b, PyData.eqv (f a) (f b) = decide (a = b)) : ∀ xs ys : List α, PyData.eqvAll (xs.map f) (ys.map f) = decide (xs = ys)
  | [], [] => by simp [PyData.eqvAll]
  | [], _ :: _ => by simp [PyData.eqvAll]
  | _ :: _, [] => by simp [PyData.eqvAll]
  | x :: xs, y :: ys => by
    rw [List.map_cons, List.map_cons]
    simp only [PyData.eqvAll]
    rw [h, eqv_map h xs ys]
    by_cases h1 : x = y <;> by_cases h2 : xs = ys <;> simp [h1, h2]
theorem lay_map {α : Type} {f : α → PyData} (h : ∀ a, (f a).canLay0 = true) : ∀ xs : List α, PyData.canLayAll0 (xs.map f) = true
  | [] => by simp [PyData.canLayAll0]
  | x :: xs => by simp [PyData.canLayAll0, h x, lay_map h xs]
theorem deep_map {α : Type} {f : α → PyData} {n : Nat} : ∀ {xs : List α}, (∀ a ∈ xs, (f a).depth ≤ n) → PyData.depthAll (xs.map f) ≤ n
  | [], _ => by simp [PyData.depthAll]
  | x :: xs, h => by
    have h1 := h x List.mem_cons_self
    have h2 := deep_map (xs := xs) fun a ha => h a (List.mem_cons_of_mem _ ha)
    rw [List.map_cons]
    simp only [PyData.depthAll]
    omega
theorem Al.dp {α : Type} {R : α → V → Prop} {K : PySem.W.Frag} {H : Hp} {f : α → PyData} (h : ∀ a v, R a v → Dp K H v (f a)) : ∀ {xs : List α} {vs : List V}, Al R xs vs → DpAll K H vs (xs.map f)
  | [], [], _ => .nil
  | [], _ :: _, q => absurd q.1 (by simp)
  | _ :: _, [], q => absurd q.1 (by simp)
  | _ :: _, _ :: _, q => .cons (h _ _ q.tail.1) (Al.dp h q.tail.2)
/-- a table -/
def tbd (t : Tb) : PyData := .tuple (t.map Sh.data)
theorem tbd_eqv (t u : Tb) : PyData.eqv (tbd t) (tbd u) = decide (t = u) := by
  unfold tbd
  simp only [PyData.eqv]
  exact eqv_map Sh.eqv t u
theorem tbd_lay (t : Tb) : (tbd t).canLay0 = true := by
  unfold tbd
  simp only [PyData.canLay0]
  exact lay_map Sh.lay t
theorem mem_size {t : Tb} (ok : Ok t) {s : Sh} (h : s ∈ t) : s.size ≤ tsz t := by
  obtain ⟨i, hi⟩ := List.mem_iff_getElem?.mp h
  have il : i < t.length := (List.getElem?_eq_some_iff.mp hi).1
  have e := ent_get (t := t) (m := i + 2) (by omega) (by unfold tsz; omega)
  rw [show i + 2 - 2 = i by omega, hi] at e
  rw [Option.some.inj e, ok.sz (i + 2) (by omega) (by unfold tsz; omega)]
  unfold tsz
  omega
theorem tbd_deep {t : Tb} (ok : Ok t) (h : tsz t ≤ 60) : (tbd t).depth ≤ 61 := by
  have := deep_map (f := Sh.data) (n := 60) (xs := t) fun s hs => by
    have h1 := s.deep
    have h2 := mem_size ok hs
    omega
  unfold tbd
  simp only [PyData.depth]
  omega
/-- a list of tables -/
def tbl (ts : List Tb) : PyData := .list (ts.map tbd)
theorem tbl_eqv (t u : List Tb) : PyData.eqv (tbl t) (tbl u) = decide (t = u) := by
  unfold tbl
  simp only [PyData.eqv]
  exact eqv_map tbd_eqv t u
theorem tbl_lay (t : List Tb) : (tbl t).canLay0 = true := by
  unfold tbl
  simp only [PyData.canLay0]
  exact lay_map tbd_lay t
theorem tbl_deep {ts : List Tb} (h : ∀ t ∈ ts, Ok t ∧ tsz t ≤ 60) : (tbl ts).depth ≤ 62 := by
  have := deep_map (f := tbd) (n := 61) (xs := ts) fun t ht => tbd_deep (h t ht).1 (h t ht).2
  unfold tbl
  simp only [PyData.depth]
  omega
abbrev TbVs (K : PySem.W.Frag) (H : Hp) : List Tb → List V → Prop := Al (TbV K H)
theorem TbVs.mono {K : PySem.W.Frag} {H H' : Hp} (h : TS H H') {ss : List Tb} {vs : List V} (q : TbVs K H ss vs) : TbVs K H' ss vs := q.imp fun _ _ z => z.mono h
theorem TbVs.same {K : PySem.W.Frag} {H H' : Hp} (h : Same H H') {ss : List Tb} {vs : List V} (q : TbVs K H ss vs) : TbVs K H' ss vs := TbVs.mono (ts_of h) q
theorem TbVs.dp {K : PySem.W.Frag} {H : Hp} {a : Addr} {ts : List Tb} {ws : List V} (h : SqL K H a ws) (q : TbVs K H ts ws) : Dp K H (.ref a) (tbl ts) := .lst h (Al.dp (fun _ _ z => z.dp) q)
/-- a list of numbers is compared with [] -/
theorem eqNil {K : PySem.W.Frag} {H : Hp} {p a : Addr} {ns : List Nat} {Q : VK} (h : SqL K H p (ns.map fun (b : Nat) => V.int b)) (ha : H a = some (.lst [])) (q : Q (.bl (decide (ns = []))) H) : rEqD K (.ref p) (.ref a) H Q := by
  have hd : ∀ ns : List Nat, DpAll K H (ns.map fun (b : Nat) => V.int b) (ns.map fun (b : Nat) => PyData.int b) := fun ns => by
    induction ns with
    | nil => exact .nil
    | cons n ns ih => exact .cons (.int _) ih
  refine ⟨.list (ns.map fun (b : Nat) => PyData.int b), .list (([] : List Nat).map fun (b : Nat) => PyData.int b), .lst h (hd ns), .lst (SqL.of ha) .nil, shaped_of ?_ ?_, shaped_of ?_ ?_, ?_⟩
  · simp only [PyData.canLay0]
    exact lay_map (fun a => by simp [PyData.canLay0]) ns
  · have := deep_map (f := fun (b : Nat) => PyData.int b) (n := 0) (xs := ns) fun a _ => by simp [PyData.depth]
    simp only [PyData.depth]
    omega
  · simp [PyData.canLay0, PyData.canLayAll0]
  · simp [PyData.depth, PyData.depthAll]
  · rw [show PyData.eqv (.list (ns.map fun (b : Nat) => PyData.int b)) (.list (([] : List Nat).map fun (b : Nat) => PyData.int b)) = decide (ns = []) by
      simp only [PyData.eqv]
      exact eqv_map (fun a b => by
        simp only [PyData.eqv]
        by_cases e : a = b
        · subst e; simp
        · have : ¬ (a : Int) = (b : Int) := by omega
          rw [decide_eq_false e]
          exact beq_eq_false_iff_ne.mpr this) ns []]
    exact q

/-! ### slices of tables -/
theorem cut_to (xs : List V) {n : Nat} (h : n ≤ xs.length) : cutV xs none (some (n : Int)) = xs.take n := by
  unfold cutV
  rw [HT.sIx_none, HT.sIx_nat, List.drop_zero, Nat.sub_zero, Nat.min_eq_left h]
theorem cut_from (xs : List V) {n : Nat} (h : n ≤ xs.length) : cutV xs (some (n : Int)) none = xs.drop n := by
  unfold cutV
  rw [HT.sIx_none, HT.sIx_nat, Nat.min_eq_left h]
  exact List.take_of_length_le (by rw [List.length_drop]; exact Nat.le_refl _)
theorem sl_to {K : PySem.W.Frag} {H : Hp} {t : Tb} {v : V} {n : Nat} {Q : VK} (hT : TbV K H t v) (hn : n ≤ t.length) (q : ∀ x H', Same H H' → TbV K H' (t.take n) x → Q x H') : rSlA K v none (some (n : Int)) H Q := by
  obtain ⟨a, xs, rfl, hS, hA⟩ := hT
  have hl : n ≤ xs.length := by rw [hA.1]; exact hn
  refine ⟨a, xs, rfl, hS, fun z => ?_, fun _ p hp => ?_⟩
  · have e : n = xs.length := by
      have := z.2
      rw [HT.sIx_nat, Nat.min_eq_left hl] at this
      exact this
    refine q _ _ (Same.refl _) ⟨a, xs, rfl, hS, ?_⟩
    rw [List.take_of_length_le (by rw [← hA.1]; omega)]
    exact hA
  · rw [cut_to xs hl]
    have s1 := snew hp (.tup (xs.take n))
    exact q _ _ s1 ⟨p, _, rfl, SqT.of upd_same, (ShVs.same s1 hA).take n⟩
theorem sl_from {K : PySem.W.Frag} {H : Hp} {t : Tb} {v : V} {n : Nat} {Q : VK} (hT : TbV K H t v) (hn : n ≤ t.length) (q : ∀ x H', Same H H' → TbV K H' (t.drop n) x → Q x H') : rSlA K v (some (n : Int)) none H Q := by
  obtain ⟨a, xs, rfl, hS, hA⟩ := hT
  have hl : n ≤ xs.length := by rw [hA.1]; exact hn
  refine ⟨a, xs, rfl, hS, fun z => ?_, fun _ p hp => ?_⟩
  · have e : n = 0 := by
      have := z.1
      rw [HT.sIx_nat, Nat.min_eq_left hl] at this
      exact this
    subst e
    exact q _ _ (Same.refl _) ⟨a, xs, rfl, hS, hA⟩
  · rw [cut_from xs hl]
    have s1 := snew hp (.tup (xs.drop n))
    exact q _ _ s1 ⟨p, _, rfl, SqT.of upd_same, (ShVs.same s1 hA).drop n⟩

section
variable {P : Program} {w : World} {K : PySem.W.Frag} {mg : Str → Option Value} {base : Heap}
/-! ### is_prime_table -/
def spPri (K : PySem.W.Frag) : Sp := fun vs H Q _ => ∃ (t : Tb) (v : V), vs = [v] ∧ TbV K H t v ∧ Ok t ∧ tsz t ≤ 60 ∧ ∀ H', Same H H' → Q (.bl (decide (cuts t = []))) H'
theorem ok_pri {f fC : Addr} {fd fdC : FuncData} (F : Fun K "is_prime_table" "is_prime_table" sPri f fd) (DC : Df K mg "cuts" sCuts ["table"] fC fdC) (GC : FnOk P w K mg base CX0 65 fC fdC ["table"] (spCuts K)) : FnOk P w K mg base CX0 66 f fd ["table"] (spPri K) := by
  refine F.ok scPri (fun vs H Q E h => ?_) (fun cdv A outer s H vs Q E hr h => ?_)
  · obtain ⟨t, v, rfl, _⟩ := h
    rfl
  obtain ⟨t, v, rfl, hT, ok, t60, q⟩ := h
  refine ⟨_, pss_one (ps_ret (pe_cmpR (op_eqD hr.units) (pcall DC GC hr (pa_cons (pv 0) pa_nil)) (pe_lst pa_nil) (nomark _))), ?_⟩
  refine ⟨_, rfl, t, v, rfl, hT, ok, t60, fun p H1 g1 np ep => ⟨Nat.zero_le _, fun l hl => ?_⟩⟩
  have s2 := snew hl (.lst [])
  exact eqNil (SqL.of (s2 _ _ ep)) upd_same (q _ (g1.trans s2))

/-! ### primes -/
def spPrimes (K : PySem.W.Frag) : Sp := fun vs H Q _ => ∃ (t : Tb) (v : V), vs = [v] ∧ TbV K H t v ∧ Ok t ∧ tsz t ≤ 60 ∧ ∀ p ws H', Same H H' → H p = none → H' p = some (.lst ws) → TbVs K H' (primesF 58 t) ws → Q (.ref p) H'
theorem ok_primes {f fP fC fB : Addr} {fd fdP fdC fdB : FuncData} (F : Fun K "primes" "primes" sPrimes f fd) (DP : Df K mg "is_prime_table" sPri ["table"] fP fdP) (DC : Df K mg "cuts" sCuts ["table"] fC fdC) (DB : Df K mg "behind" sBeh ["table", "b"] fB fdB)
    (GP : FnOk P w K mg base CX0 66 fP fdP ["table"] (spPri K)) (GC : FnOk P w K mg base CX0 65 fC fdC ["table"] (spCuts K)) (GB : FnOk P w K mg base CX0 64 fB fdB ["table", "b"] (spBeh K)) : FnOk P w K mg base CX0 67 f fd ["table"] (spPrimes K) := by
  refine F.ok scPrimes (fun vs H Q E h => ?_) (fun cdv A outer s H vs Q E hr h => ?_)
  · obtain ⟨t, v, rfl, _⟩ := h
    rfl
  obtain ⟨t, v, rfl, hT, ok, t60, q⟩ := h
  refine ⟨_, pss_cons (ps_par (i := 1) (j := 2) rfl scPrimes.nd rfl rfl (by decide) rfl rfl (pa_cons (pe_lst pa_nil) (pa_cons (pv 0) pa_nil)) (by rfl))
    (pss_cons (ps_while PassesOwn.never (pt_not (pt_val (pcall DP GP hr (pa_cons (pv 2) pa_nil))))
      (pss_cons (ps_set (i := 3) scPrimes.nd rfl (.inl rfl) (pe_ix ix_list (pcall DC GC (hr.mono (by decide)) (pa_cons (pv 2) pa_nil)) pe_int (fun _ _ => rfl)))
      (pss_cons (ps_expr (pe_bm PySem.F.plainAttrs_list PySem.F.slot_list_append PySem.F.type_list_append mt_append (pv 1) (pa_cons (pe_slice sl_tupA (pv 2) po_none (po_some (pe_op op_sub (pv 3) pe_int))) pa_nil)))
      (pss_one (ps_set (i := 2) scPrimes.nd rfl (.inl rfl) (pcall DB GB (hr.mono (by decide)) (pa_cons (pv 2) (pa_cons (pv 3) pa_nil))))))))
    (pss_one (ps_ret (pe_lst (StX.pa_star (pv 1) (pa_cons (pv 2) pa_nil)))))), ?_⟩
  refine ⟨Nat.zero_le _, fun d hd => ⟨_, rfl, _, _, rfl, ?_⟩⟩
  have s1 := snew hd (.lst [])
  refine ⟨fun m σ H' => ∃ y3 vl left done ws n, σ = [some v, some (.ref d), some vl, y3] ∧ Same H H' ∧ H' d = some (.lst ws) ∧ TbVs K H' done ws ∧ TbV K H' left vl ∧ Ok left ∧ tsz left = m ∧ done.length + tsz left ≤ 60 ∧ tsz left ≤ n + 2 ∧ done ++ primesF n left = primesF 58 t,
    ⟨tsz t, none, v, t, [], [], 58, rfl, s1, upd_same, .nil, hT.same s1, ok, rfl, by show 0 + _ ≤ _; omega, by omega, rfl⟩, fun m σ H1 hW => ?_⟩
  obtain ⟨y3, vl, left, done, ws, n, rfl, g1, ed, hD, hL, okl, em, ld, ln, ep⟩ := hW
  refine ⟨_, rfl, left, vl, rfl, hL, okl, by omega, fun H2 g2 => ⟨_, rfl, ?_⟩⟩
  have ed2 := g2 _ _ ed
  cases hc : cuts left with
  | nil =>
    rw [decide_eq_true rfl]
    refine iteF ?_
    refine ⟨_, rfl, d, ws, rfl, .inr (SqL.of ed2), _, rfl, ?_, fun p hp => ?_⟩
    · rw [List.length_append, hD.1]
      exact Nat.le_of_lt (line_small (by show _ + 1 ≤ _; omega))
    · have s3 := snew hp (.lst (ws ++ [vl]))
      have s4 := g2.trans s3
      refine q p _ _ (g1.trans s4) ((g1.trans g2).free hp) upd_same ?_
      rw [← ep, primesF_nil hc]
      exact (TbVs.same s4 hD).snoc (hL.same s4)
  | cons b r =>
    rw [decide_eq_false (by intro z; cases z)]
    refine iteT ?_
    have hb : b ∈ cuts left := by rw [hc]; exact List.mem_cons_self
    obtain ⟨b2, bn, k1, k2, k3, k4, k5⟩ := cut_facts okl hb
    match n, ln, ep with
    | 0, ln, _ => omega
    | n + 1, ln, ep =>
      refine ⟨fun σ' H' => ∃ y3 vl' ws', σ' = [some v, some (.ref d), some vl', y3] ∧ Same H H' ∧ H' d = some (.lst ws') ∧ TbVs K H' (done ++ [left.take (b - 1)]) ws' ∧ TbV K H' (behind left b) vl', fun σ' H' hN => ?_, ?_⟩
      · obtain ⟨z3, vl', ws', rfl, g3, ed3, hD3, hL3⟩ := hN
        refine ⟨tsz (behind left b), by omega, z3, vl', behind left b, _, ws', n, rfl, g3, ed3, hD3, hL3, k3, rfl, ?_, by omega, ?_⟩
        · rw [List.length_append]
          show done.length + 1 + _ ≤ 60
          omega
        · rw [← ep, primesF_cons hc, List.append_assoc]
          rfl
      · refine ⟨_, rfl, left, vl, rfl, hL.same g2, okl, by omega, fun p H3 g3 np e3 => ?_⟩
        rw [hc] at e3
        refine ⟨p, _, 0, .int (b : Nat), rfl, rfl, SqL.of e3, atI_nat (j := 0) rfl, ?_⟩
        have g23 := g2.trans g3
        have ed3 := g23 _ _ ed
        refine ⟨.ref d, rfl, .inl ⟨rfl, _, .inl (.inl ed3)⟩, _, rfl, _, rfl, _, _, rfl, rfl, _, rfl, ?_⟩
        have eb : ((b : Nat) : Int) - 1 = ((b - 1 : Nat) : Int) := by omega
        rw [eb]
        have ll : b - 1 ≤ left.length := by unfold tsz at bn; omega
        refine sl_to (hL.same g23) ll fun x H4 g4 hx => ?_
        have ed4 := g4 _ _ ed3
        refine ⟨d, ws, x, rfl, rfl, ed4, line_small (by rw [hD.1]; omega), ?_⟩
        have ts := ts_lst (o := HO.lst (ws ++ [x])) ed4
        have g24 := g23.trans g4
        have gE : Same H (upd H4 d (.lst (ws ++ [x]))) := sput (g1.trans g24) hd _
        have hLe := (hL.same g24).mono ts
        refine ⟨_, rfl, _, rfl, left, vl, b, rfl, hLe, okl, by omega, hb, fun y H5 g5 hy => ?_⟩
        exact ⟨_, y, _, rfl, gE.trans g5, g5 _ _ upd_same, TbVs.same g5 ((TbVs.mono ts (TbVs.same g24 hD)).snoc (hx.mono ts)), hy⟩
end
end Lp

set_option maxRecDepth 100000
/-! The law's own gluing. -/
namespace Lp
open PySem PySem.Spec PyProof.Rows L2

abbrev sFill : Stmt := topS 33
abbrev sGlue : Stmt := topS 34
abbrev NLstr : List Str := ["_law_m", "_law_b", "_law_found", "_law_begin", "_law_lap"]
abbrev NGlue : List Str := ["_law_s", "_law_t", "_law_found", "_law_m", "_law_parts", "_law_begin", "_law_end"]
theorem scFill : FnScope ["_law_shape_here", "_law_parts", "_law_at"] ["_law_shape_here", "_law_parts"] (defScope sFill) := ⟨rfl, rfl, rfl, by decide +kernel, rfl, by decide +kernel, by decide +kernel⟩
theorem scGlue : FnScope NGlue ["_law_s", "_law_t"] (defScope sGlue) := ⟨rfl, rfl, rfl, by decide +kernel, rfl, by decide +kernel, by decide +kernel⟩

section
variable {P : Program} {w : World} {K : PySem.W.Frag} {mg : Str → Option Value} {base : Heap}
/-! ### _law_stretches -/
theorem take_all {m b i : Nat} (h : cnt m b ≤ i) : (strc m b).take i = strc m b := List.take_of_length_le (by rw [strs_length]; exact h)
theorem ok_lstr {f : Addr} {fd : FuncData} (F : Fun K "_law_stretches" "_law_stretches" sLstr f fd) (mr : mg "range" = none) (mm : mg "min" = none) : FnOk P w K mg base CX0 1 f fd ["_law_m", "_law_b"] (spStrs K) := by
  refine F.ok scLstr (fun vs H Q E h => ?_) (fun cdv A outer s H vs Q E hr h => ?_)
  · obtain ⟨m, b, rfl, _⟩ := h
    rfl
  obtain ⟨m, b, rfl, b1, b2, m2, q⟩ := h
  refine ⟨_, pss_cons (ps_par (i := 2) (j := 3) rfl scLstr.nd rfl rfl (by decide) rfl rfl (pa_cons (pe_lst pa_nil) (pa_cons pe_int pa_nil)) (by rfl))
    (pss_cons (ps_for PassesOwn.never rfl (pi_range1 (by rfl) mr (pa_cons (pv 0) pa_nil)) (pg_name (i := 4) scLstr.nd rfl (.inl rfl))
      (pss_cons (ps_if (pt_cmpR op_lt (pv 3) (pv 0) (nomark _)) (pss_one (ps_expr (pe_bm PySem.F.plainAttrs_list PySem.F.slot_list_append PySem.F.type_list_append mt_append (pv 2)
        (pa_cons (pe_tup (pa_cons (pv 3) (pa_cons (pe_callB (call_min2 rfl) (by rfl) mm boot_min (pa_cons (pe_op op_add (pv 3) (pv 1)) (pa_cons (pv 0) pa_nil))) pa_nil))) pa_nil)))) pss_nil)
      (pss_one (ps_set (i := 3) scLstr.nd rfl (.inl rfl) (pe_op op_add (pv 3) (pv 1))))))
    (pss_one (ps_ret (pv 2)))), ?_⟩
  refine ⟨Nat.zero_le _, fun D hD => ⟨_, _, rfl, ?_⟩⟩
  refine ⟨_, rfl, m, rfl, by omega, by omega, ?_⟩
  refine for_range (lo := 0) (n := (m : Int).toNat) (fun i σ H' => Same H H' ∧ (∃ y, σ = [some (.int m), some (.int b), some (.ref D), some (.int ((i * b : Nat) : Int)), y]) ∧ ∃ ys, H' D = some (.lst ys) ∧ PrVs K H' ((strc m b).take i) ys)
    ⟨snew hD _, ⟨none, by rw [Nat.zero_mul]; rfl⟩, [], upd_same, .nil⟩ (fun i σ H1 hi hP => ?_) (fun σ H1 hP => ?_)
  · obtain ⟨g, ⟨y, rfl⟩, ys, eD, hA⟩ := hP
    refine ⟨_, rfl, _, rfl, _, _, rfl, rfl, _, rfl, ite2 (fun c => ?_) (fun c => ?_)⟩
    · have c' : i * b < m := by
        have := of_decide_eq_true c
        omega
      have ic : i < cnt m b := (lt_cnt b1).mpr c'
      refine ⟨_, rfl, .inl ⟨rfl, _, .inl (.inl eD)⟩, _, rfl, _, rfl, _, rfl, _, _, rfl, rfl, _, rfl, _, _, rfl, Nat.le_of_lt (line_small (show 2 ≤ 100000 by decide)), fun p hp => ?_⟩
      have ne : D ≠ p := ne_of_none eD hp
      have hl : ys.length ≤ 4000 := by
        rw [hA.1, List.length_take]
        omega
      refine ⟨D, ys, _, rfl, rfl, by rw [upd_ne ne]; exact eD, line_small (by omega), ?_⟩
      have e2 : (if (m : Int) < ((i * b : Nat) : Int) + b then (m : Int) else ((i * b : Nat) : Int) + b) = ((fin m b i : Nat) : Int) := by
        unfold fin
        split <;> omega
      have s1 := snew hp (.tup [V.int ((i * b : Nat) : Int), V.int (if (m : Int) < ((i * b : Nat) : Int) + b then (m : Int) else ((i * b : Nat) : Int) + b)])
      have eD1 := s1 _ _ eD
      have ts := ts_lst (o := HO.lst (ys ++ [.ref p])) eD1
      refine ⟨_, rfl, _, rfl, _, _, rfl, rfl, sput (g.trans s1) hD _, ⟨some (V.int (0 + ((i : Nat) : Int))), ?_⟩, _, upd_same, ?_⟩
      · show _ = [some (V.int m), some (V.int b), some (V.ref D), some (V.int (((i + 1) * b : Nat) : Int)), _]
        rw [show (((i + 1) * b : Nat) : Int) = ((i * b : Nat) : Int) + (b : Int) by rw [Nat.add_mul, Nat.one_mul]; omega]
        rfl
      · rw [take_strs ic]
        refine Al.snoc (hA.imp fun _ _ z => z.mono ((ts_of s1).trans ts)) ⟨p, rfl, ts.sqT (SqT.of ?_)⟩
        rw [upd_same, e2]
    · have c' : ¬ i * b < m := by
        have := of_decide_eq_false (Bool.eq_false_iff.mpr c)
        omega
      have ic : cnt m b ≤ i := (cnt_le b1).mpr (by omega)
      refine ⟨_, rfl, _, rfl, _, _, rfl, rfl, g, ⟨some (V.int (0 + ((i : Nat) : Int))), ?_⟩, ys, eD, ?_⟩
      · show _ = [some (V.int m), some (V.int b), some (V.ref D), some (V.int (((i + 1) * b : Nat) : Int)), _]
        rw [show (((i + 1) * b : Nat) : Int) = ((i * b : Nat) : Int) + (b : Int) by rw [Nat.add_mul, Nat.one_mul]; omega]
        rfl
      · rw [take_all (by omega)]
        rw [take_all ic] at hA
        exact hA
  · obtain ⟨g, ⟨y, rfl⟩, ys, eD, hA⟩ := hP
    have cm : cnt m b ≤ m := (cnt_le b1).mpr (Nat.le_mul_of_pos_right _ (by omega))
    rw [take_all (by omega)] at hA
    exact ⟨_, rfl, q D ys _ g hD eD hA⟩

/-! ### _law_filled -/
def spFill (K : PySem.W.Frag) (n : Nat) : Sp := fun vs H Q _ => ∃ (s : Sh) (x : V) (pa : Addr) (ss : List Sh) (ys : List V), vs = [x, .ref pa] ∧ ShV K H s x ∧ s.size ≤ n ∧ SqL K H pa ys ∧ ShVs K H ss ys ∧ ss.length = s.size ∧
  ∀ v H', Same H H' → ShV K H' (fill s ss) v → Q v H'
theorem ok_fill {f fS : Addr} {fd fdS : FuncData} (D : Df K mg "_law_filled" sFill ["_law_shape_here", "_law_parts"] f fd) (DS : Df K mg "_law_size" sLsz ["_law_shape_here"] fS fdS) : ∀ n, n ≤ 60 → FnOk P w K mg base CX0 (60 + n) f fd ["_law_shape_here", "_law_parts"] (spFill K n)
  | 0, _ => FnOk.mono (j := 0) (none_left fun vs H Q E h => by
    obtain ⟨s, x, pa, ss, ys, _, _, h1, _⟩ := h
    have := s.size_pos
    omega) (by omega)
  | n + 1, hn => by
    have G := ok_fill D DS n (by omega)
    have GS := ok_lsz (P := P) (w := w) (base := base) DS 60 (Nat.le_refl _)
    refine D.F.ok scFill (fun vs H Q E h => ?_) (fun cdv A outer s H vs Q E hr h => ?_)
    · obtain ⟨s, x, pa, ss, ys, rfl, _⟩ := h
      rfl
    obtain ⟨s, x, pa, ss, ys, rfl, hs, hz, hl, hy, hlen, q⟩ := h
    refine ⟨_, pss_cons (ps_if (pt_cmpR (op_eqD hr.units) (pv 0) (pe_tup pa_nil) (nomark _)) (pss_one (ps_ret (pe_ix ix_list (pv 1) pe_int (fun _ _ => rfl)))) pss_nil)
      (pss_cons (ps_set (i := 2) scFill.nd rfl (.inl rfl) (pcall DS GS (hr.mono (Nat.le_add_right 60 n)) (pa_cons (pe_ix ix_tup (pv 0) pe_int (fun _ _ => rfl)) pa_nil)))
      (pss_one (ps_ret (pe_tup (pa_cons (pcall D G hr (pa_cons (pe_ix ix_tup (pv 0) pe_int (fun _ _ => rfl)) (pa_cons (pe_slice sl_list (pv 1) po_none (po_some (pv 2))) pa_nil)))
        (pa_cons (pcall D G hr (pa_cons (pe_ix ix_tup (pv 0) pe_int (fun _ _ => rfl)) (pa_cons (pe_slice sl_list (pv 1) (po_some (pv 2)) po_none) pa_nil))) pa_nil)))))), ?_⟩
    refine ⟨_, rfl, Nat.zero_le _, fun p hp => eqO (hs.same (snew hp _)) (by omega) upd_same ⟨_, rfl, ite2 (fun c => ?_) (fun c => ?_)⟩⟩
    · have c' : s = .o := of_decide_eq_true c
      subst c'
      have s1 := snew hp (.tup [])
      match ss, hlen, hy with
      | [s0], _, hy =>
        obtain ⟨v0, e0, h0⟩ := hy.2 0 s0 rfl
        exact ⟨_, rfl, pa, ys, 0, v0, rfl, rfl, s1.seq hl, atI_nat (j := 0) e0, q v0 _ s1 (h0.same s1)⟩
    · cases s with
      | o => exact absurd (decide_eq_true rfl) c
      | p l r =>
        have hz : l.size + r.size ≤ n + 1 := hz
        have hlen : ss.length = l.size + r.size := hlen
        have l1 := l.size_pos
        have r1 := r.size_pos
        have s1 := snew hp (.tup [])
        obtain ⟨a, xl, xr, rfl, hq, hl', hr'⟩ := hs.same s1
        refine ⟨_, rfl, a, _, 0, xl, rfl, rfl, hq, atI_nat (j := 0) rfl, l, xl, rfl, hl', by omega, fun H1 g1 => ?_⟩
        have t1 := s1.trans g1
        have ly : l.size ≤ ys.length := by rw [hy.1]; omega
        -- the left part
        refine ⟨_, rfl, a, _, 0, xl, rfl, rfl, Same.sqT g1 hq, atI_nat (j := 0) rfl, _, rfl, _, rfl, _, rfl, pa, ys, rfl, t1.seq hl, fun p1 hp1 => ?_⟩
        have s2 := snew hp1 (.lst (cutV ys none (some ((l.size : Nat) : Int))))
        have t2 := t1.trans s2
        rw [cut_to ys ly] at s2 t2
        rw [cut_to ys ly]
        refine ⟨l, xl, p1, ss.take l.size, ys.take l.size, rfl, (hl'.same g1).same s2, by omega, SqL.of upd_same, (ShVs.same t2 hy).take _, by rw [List.length_take]; omega, fun v1 H2 g2 q1 => ?_⟩
        have t3 := t2.trans g2
        -- the right part
        refine ⟨_, rfl, a, _, 1, xr, rfl, rfl, Same.sqT ((g1.trans s2).trans g2) hq, atI_nat (j := 1) rfl, _, rfl, _, rfl, _, rfl, pa, ys, rfl, t3.seq hl, fun p2 hp2 => ?_⟩
        have s4 := snew hp2 (.lst (cutV ys (some ((l.size : Nat) : Int)) none))
        have t4 := t3.trans s4
        rw [cut_from ys ly] at s4 t4
        rw [cut_from ys ly]
        refine ⟨r, xr, p2, ss.drop l.size, ys.drop l.size, rfl, hr'.same (((g1.trans s2).trans g2).trans s4), by omega, SqL.of upd_same, (ShVs.same t4 hy).drop _, by rw [List.length_drop]; omega, fun v2 H3 g3 q2 => ?_⟩
        refine ⟨Nat.le_of_lt (line_small (show 2 ≤ 100000 by decide)), fun p3 hp3 => ?_⟩
        have s5 := snew hp3 (.tup [v1, v2])
        exact q (.ref p3) _ ((t4.trans g3).trans s5) ⟨p3, v1, v2, rfl, SqT.of upd_same, q1.same ((s4.trans g3).trans s5), q2.same s5⟩

/-! ### _law_glued -/
def spGlue (K : PySem.W.Frag) : Sp := fun vs H Q _ => ∃ (s t : Tb) (x y : V), vs = [x, y] ∧ TbV K H s x ∧ TbV K H t y ∧ Ok s ∧ Ok t ∧ tsz s * tsz t ≤ 60 ∧ ∀ v H', Same H H' → TbV K H' (glue s t) v → Q v H'
theorem glue_next {s t : Tb} {i : Nat} (h : i < tsz s * tsz t - 1) : (glue s t).take (i + 1) = (glue s t).take i ++ [glueE s t (i + 2)] := by
  rw [List.take_add_one]
  congr 1
  unfold glue
  rw [List.getElem?_map, List.getElem?_range h]
  rfl
theorem press_next {s : Tb} {m b i : Nat} (h : i < cnt m b) : (press s m b).take (i + 1) = (press s m b).take i ++ [ent s (wid m b i)] := by
  rw [List.take_add_one, press_get h]
  rfl
theorem ok_glue {f fE fS fF : Addr} {fd fdE fdS fdF : FuncData} (F : Fun K "_law_glued" "_law_glued" sGlue f fd) (DE : Df K mg "_law_entry" sLent ["_law_table_here", "_law_m"] fE fdE) (DS : Df K mg "_law_stretches" sLstr ["_law_m", "_law_b"] fS fdS)
    (DF : Df K mg "_law_filled" sFill ["_law_shape_here", "_law_parts"] fF fdF) (GF : FnOk P w K mg base CX0 120 fF fdF ["_law_shape_here", "_law_parts"] (spFill K 60)) (ml : mg "len" = none) (mr : mg "range" = none) (mm : mg "min" = none) (mt : mg "tuple" = none) :
    FnOk P w K mg base CX0 121 f fd ["_law_s", "_law_t"] (spGlue K) := by
  have GE : FnOk P w K mg base CX0 1 fE fdE ["_law_table_here", "_law_m"] (spEnt K) := ok_lent DE.F
  have GS : FnOk P w K mg base CX0 1 fS fdS ["_law_m", "_law_b"] (spStrs K) := ok_lstr DS.F mr mm
  refine F.ok scGlue (fun vs H Q E h => ?_) (fun cdv A outer s0 H vs Q E hr h => ?_)
  · obtain ⟨s, t, x, y, rfl, _⟩ := h
    rfl
  obtain ⟨s, t, x, y, rfl, hS, hT, os, ot, h60, q⟩ := h
  have z1 := os.ne
  have z2 := ot.ne
  have zs : tsz s ≤ tsz s * tsz t := Nat.le_mul_of_pos_right _ (by omega)
  have zt : tsz t ≤ tsz s * tsz t := Nat.le_mul_of_pos_left _ (by omega)
  refine ⟨_, pss_cons (ps_set (i := 2) scGlue.nd rfl (.inl rfl) (pe_lst pa_nil))
    (pss_cons (ps_for PassesOwn.never rfl (pi_range2 (by rfl) mr (pa_cons pe_int (pa_cons (pe_op op_add (pe_op op_mul (pe_op op_add (pe_callB call_len_seq (by rfl) ml PySem.boot_len (pa_cons (pv 0) pa_nil)) pe_int)
          (pe_op op_add (pe_callB call_len_seq (by rfl) ml PySem.boot_len (pa_cons (pv 1) pa_nil)) pe_int)) pe_int) pa_nil))) (pg_name (i := 3) scGlue.nd rfl (.inl rfl))
      (pss_cons (ps_setLc (i := 4) (own := [("_law_begin", 5), ("_law_end", 6)]) (g := gTup K 2 (gCons (gName 5) (gCons (gName 6) gNil))) (tt := tYes) rfl scGlue.nd rfl rfl (sw_true rfl rfl rfl (by decide +kernel))
        (pi_list (pcall DS GS (hr.mono (by decide)) (pa_cons (pv 3) (pa_cons (pe_op op_add (pe_callB call_len_seq (by rfl) ml PySem.boot_len (pa_cons (pv 0) pa_nil)) pe_int) pa_nil))))
        (blkOk_by (N := NGlue) (sc := defScope sGlue) (by decide +kernel))
        (fun _ _ _ _ _ => pg_tup rfl (pgs_cons (pg_name (i := 5) scGlue.nd rfl (.inl rfl)) (pgs_cons (pg_name (i := 6) scGlue.nd rfl (.inl rfl)) pgs_nil))) (fun _ _ _ _ _ => pts_nil)
        (fun _ _ _ _ _ => pcall DE GE (hr.mono (by decide)) (pa_cons (pv 0) (pa_cons (pe_op op_sub (pv 6) (pv 5)) pa_nil))))
      (pss_one (ps_expr (pe_bm PySem.F.plainAttrs_list PySem.F.slot_list_append PySem.F.type_list_append mt_append (pv 2) (pa_cons (pcall DF GF hr (pa_cons (pcall DE GE (hr.mono (by decide)) (pa_cons (pv 1)
        (pa_cons (pe_callB call_len_seq (by rfl) ml PySem.boot_len (pa_cons (pv 4) pa_nil)) pa_nil))) (pa_cons (pv 4) pa_nil))) pa_nil))))))
    (pss_one (ps_ret (pe_callTy call_tuple_of (by rfl) mt PyProof.Rows.boot_tuple (pa_cons (pv 2) pa_nil))))), ?_⟩
  refine ⟨Nat.zero_le _, fun D hD => ?_⟩
  have s1 := snew hD (.lst [])
  obtain ⟨as, xs, rfl, hqs, hAs⟩ := id hS
  obtain ⟨at', xt, rfl, hqt, hAt⟩ := id hT
  have es : ((xs.length : Nat) : Int) + 1 = ((tsz s : Nat) : Int) := by rw [hAs.1]; unfold tsz; omega
  have et : ((xt.length : Nat) : Int) + 1 = ((tsz t : Nat) : Int) := by rw [hAt.1]; unfold tsz; omega
  refine ⟨_, rfl, as, xs, rfl, .inr (Same.sqT s1 hqs), _, _, rfl, rfl, _, rfl, at', xt, rfl, .inr (Same.sqT s1 hqt), _, _, rfl, rfl, _, _, rfl, rfl, .inl ⟨by omega, by omega⟩, _, _, rfl, rfl, 2, _, rfl, ?_, ?_⟩
  · rw [es, et, ← Int.natCast_mul]
    exact ⟨by decide, by decide, by omega, by omega⟩
  have en : ((((xs.length : Nat) : Int) + 1) * (((xt.length : Nat) : Int) + 1) + 1 - 2).toNat = tsz s * tsz t - 1 := by
    rw [es, et, ← Int.natCast_mul]
    omega
  rw [en]
  refine for_range (lo := 2) (n := tsz s * tsz t - 1) (fun i σ H' => Same H H' ∧ (∃ y3 y4 y5 y6, σ = [some (.ref as), some (.ref at'), some (.ref D), y3, y4, y5, y6]) ∧ ∃ zs, H' D = some (.lst zs) ∧ ShVs K H' ((glue s t).take i) zs)
    ⟨s1, ⟨none, none, none, none, rfl⟩, [], upd_same, .nil⟩ (fun i σ H1 hi hP => ?_) (fun σ H1 hP => ?_)
  · obtain ⟨g1, ⟨y3, y4, y5, y6, rfl⟩, zs', eD, hA⟩ := hP
    have em : (2 : Int) + ((i : Nat) : Int) = (((i + 2 : Nat)) : Int) := by omega
    rw [em]
    have m1 : 1 ≤ i + 2 := by omega
    have c1 := cnt_pos (m := i + 2) (b := tsz s) (by omega) m1
    have c2 := cnt_le_of (m := i + 2) (b := tsz s) (c := tsz t) (by omega) (by omega)
    -- the parts
    refine ⟨_, rfl, _, rfl, as, xs, rfl, .inr (Same.sqT g1 hqs), _, _, rfl, rfl, i + 2, tsz s, ?_, by omega, by omega, by omega, fun p ys H2 g2 np ep hy => ?_⟩
    · show [V.int ((i + 2 : Nat) : Int), V.int (((xs.length : Nat) : Int) + 1)] = _
      rw [es]
    have ly : ys.length = cnt (i + 2) (tsz s) := by rw [hy.1, strs_length]
    have g12 := g1.trans g2
    refine ⟨p, rfl, ⟨ys, SqL.of ep⟩, fun D2 hD2 => ?_⟩
    refine lc_list (K := K) (a := p) (xs := ys) (fun j H' => Same H2 H' ∧ ∃ ws, H' D2 = some (.lst ws) ∧ ShVs K H' ((press s (i + 2) (tsz s)).take j) ws) ⟨snew hD2 _, [], upd_same, .nil⟩ (fun j H3 _ hP => hP.1.seq (SqL.of ep)) (fun j v H3 hj hP => ?_) (fun H3 hP => ?_)
    · obtain ⟨g3, ws, eD2, hW⟩ := hP
      have jc : j < cnt (i + 2) (tsz s) := by
        rw [← ly]
        exact (List.getElem?_eq_some_iff.mp hj).1
      obtain ⟨pr, e1, a0, rfl, ha0⟩ := hy.at hj
      rw [strs_get jc] at e1
      obtain rfl : (j * tsz s, fin (i + 2) (tsz s) j) = pr := Option.some.inj e1
      have w1 := wid_pos (m := i + 2) (b := tsz s) (k := j) (by omega) jc
      have w2 := wid_le (i + 2) (tsz s) j
      have w3 := fin_wid (m := i + 2) (b := tsz s) (k := j) (by omega) jc
      refine ⟨a0, _, rfl, Same.sqT g3 ha0, rfl, _, _, rfl, _, _, rfl, rfl, rfl, tyes ?_⟩
      refine ⟨_, rfl, _, rfl, _, rfl, _, _, rfl, rfl, s, .ref as, wid (i + 2) (tsz s) j, ?_, hS.same (g12.trans g3), w1, w2, fun z H4 g4 hz => ?_⟩
      · show [V.ref as, V.int (((fin (i + 2) (tsz s) j : Nat) : Int) - ((j * tsz s : Nat) : Int))] = _
        rw [show ((fin (i + 2) (tsz s) j : Nat) : Int) - ((j * tsz s : Nat) : Int) = ((wid (i + 2) (tsz s) j : Nat) : Int) by omega]
      have eD4 := g4 _ _ eD2
      have ts := ts_lst (o := HO.lst (ws ++ [z])) eD4
      have lw : ws.length ≤ cnt (i + 2) (tsz s) := by
        rw [hW.1, List.length_take, press_length]
        omega
      refine ⟨ws, eD4, line_small (by omega), sput (g3.trans g4) hD2 _, _, upd_same, ?_⟩
      rw [press_next jc]
      exact (ShVs.mono ts (ShVs.same g4 hW)).snoc (hz.mono ts)
    · obtain ⟨g3, ws, eD2, hW⟩ := hP
      rw [List.take_of_length_le (by rw [press_length]; omega)] at hW
      have g13 := g12.trans g3
      have lw : ws.length = cnt (i + 2) (tsz s) := by rw [hW.1, press_length]
      have eD3 := (g2.trans g3) _ _ eD
      -- found.append(filled(entry(t, len(parts)), parts))
      refine ⟨_, rfl, .inl ⟨rfl, _, .inl (.inl eD3)⟩, _, rfl, _, rfl, D2, ws, rfl, .inl (SqL.of eD2), t, .ref at', cnt (i + 2) (tsz s), ?_, hT.same g13, c1, c2, fun z H4 g4 hz => ?_⟩
      · show [V.ref at', V.int ((ws.length : Nat) : Int)] = _
        rw [lw]
      have eD24 := g4 _ _ eD2
      have zc := ot.size c1 c2
      refine ⟨_, rfl, ent t (cnt (i + 2) (tsz s)), z, D2, press s (i + 2) (tsz s), ws, rfl, hz, by omega, SqL.of eD24, ShVs.same g4 hW, by rw [press_length, zc], fun v H5 g5 hv => ?_⟩
      have eD5 := (g4.trans g5) _ _ eD3
      have lz : zs'.length ≤ 60 := by
        rw [hA.1, List.length_take]
        have := glue_tsz (s := s) (t := t)
        unfold tsz at this h60
        unfold tsz at hi
        omega
      refine ⟨D, zs', v, rfl, rfl, eD5, line_small (by omega), ?_⟩
      have ts := ts_lst (o := HO.lst (zs' ++ [v])) eD5
      refine ⟨sput (g13.trans (g4.trans g5)) hD _, ⟨_, _, _, _, rfl⟩, _, upd_same, ?_⟩
      rw [glue_next (by omega)]
      exact (ShVs.mono ts (ShVs.same ((g2.trans g3).trans (g4.trans g5)) hA)).snoc (hv.mono ts)
  · obtain ⟨g1, ⟨y3, y4, y5, y6, rfl⟩, zs', eD, hA⟩ := hP
    refine ⟨_, rfl, D, zs', rfl, .inl ⟨SqL.of eD, fun l hl => ?_⟩⟩
    have lg : (glue s t).length = tsz s * tsz t - 1 := by
      have := glue_tsz (s := s) (t := t)
      unfold tsz at this ⊢
      omega
    rw [List.take_of_length_le (by omega)] at hA
    have s3 := snew hl (.tup zs')
    exact q _ _ (g1.trans s3) ⟨l, zs', rfl, SqT.of upd_same, ShVs.same s3 hA⟩
end
end Lp

set_option maxRecDepth 100000
/-! The law's own lumps, shapes above, cuts, primes. -/
namespace Lp
open PySem PySem.Spec PyProof.Rows L2

abbrev sLum : Stmt := topS 35
abbrev sLab : Stmt := topS 36
abbrev sLbe : Stmt := topS 37
abbrev sLcu : Stmt := topS 38
abbrev sLpr : Stmt := topS 39
abbrev NLbe : List Str := ["_law_table_here", "_law_b", "_law_size_here", "_law_found", "_law_m", "_law_lumps_here", "_law_pairs", "_law_i", "_law_j", "_law_part", "_law_pair"]
theorem scLum : FnScope ["_law_shape_here", "_law_begin", "_law_left", "_law_right"] ["_law_shape_here", "_law_begin"] (defScope sLum) := ⟨rfl, rfl, rfl, by decide +kernel, rfl, by decide +kernel, by decide +kernel⟩
theorem scLab : FnScope ["_law_shape_here", "_law_begin", "_law_pairs", "_law_end", "_law_at"] ["_law_shape_here", "_law_begin", "_law_pairs"] (defScope sLab) := ⟨rfl, rfl, rfl, by decide +kernel, rfl, by decide +kernel, by decide +kernel⟩
theorem scLbe : FnScope NLbe ["_law_table_here", "_law_b"] (defScope sLbe) := ⟨rfl, rfl, rfl, by decide +kernel, rfl, by decide +kernel, by decide +kernel⟩
theorem scLcu : FnScope ["_law_table_here", "_law_b"] ["_law_table_here"] (defScope sLcu) := ⟨rfl, rfl, rfl, by decide +kernel, rfl, by decide +kernel, by decide +kernel⟩
theorem scLpr : FnScope ["_law_table_here", "_law_some"] ["_law_table_here"] (defScope sLpr) := ⟨rfl, rfl, rfl, by decide +kernel, rfl, by decide +kernel, by decide +kernel⟩

/-! ### lumps with their parts -/
def LuV (K : PySem.W.Frag) (H : Hp) (y : Nat × Nat × Sh) (v : V) : Prop := ∃ a z, v = .ref a ∧ SqT K H a [.int y.1, .int y.2.1, z] ∧ ShV K H y.2.2 z
theorem LuV.mono {K : PySem.W.Frag} {H H' : Hp} (h : TS H H') {y : Nat × Nat × Sh} {v : V} : LuV K H y v → LuV K H' y v := fun ⟨a, z, e, q, q1⟩ => ⟨a, z, e, h.sqT q, q1.mono h⟩
abbrev LuVs (K : PySem.W.Frag) (H : Hp) : List (Nat × Nat × Sh) → List V → Prop := Al (LuV K H)
theorem LuVs.same {K : PySem.W.Frag} {H H' : Hp} (h : Same H H') {ss : List (Nat × Nat × Sh)} {vs : List V} (q : LuVs K H ss vs) : LuVs K H' ss vs := q.imp fun _ _ z => z.mono (ts_of h)
theorem lumps_first (s : Sh) (b : Nat) : ∃ r, lumps s b = (b, b + s.size, s) :: r := by
  cases s with
  | o => exact ⟨[], rfl⟩
  | p l r => exact ⟨_, rfl⟩
theorem lumps_length : ∀ (s : Sh) (b : Nat), (lumps s b).length + 1 = 2 * s.size
  | .o, _ => rfl
  | .p l r, b => by
    have h1 := lumps_length l b
    have h2 := lumps_length r (b + l.size)
    show ((lumps l b ++ lumps r (b + l.size)).length + 1) + 1 = 2 * (l.size + r.size)
    rw [List.length_append]
    omega

section
variable {P : Program} {w : World} {K : PySem.W.Frag} {mg : Str → Option Value} {base : Heap}
/-! ### _law_lumps -/
def spLum (K : PySem.W.Frag) (n : Nat) : Sp := fun vs H Q _ => ∃ (s : Sh) (x : V) (b : Nat), vs = [x, .int b] ∧ ShV K H s x ∧ s.size ≤ n ∧ ∀ p ws H', Same H H' → H p = none → H' p = some (.lst ws) → LuVs K H' (lumps s b) ws → Q (.ref p) H'
theorem ok_lum {f : Addr} {fd : FuncData} (D : Df K mg "_law_lumps" sLum ["_law_shape_here", "_law_begin"] f fd) : ∀ n, n ≤ 60 → FnOk P w K mg base CX0 n f fd ["_law_shape_here", "_law_begin"] (spLum K n)
  | 0, _ => none_left fun vs H Q E h => by
    obtain ⟨s, x, b, _, _, h1, _⟩ := h
    have := s.size_pos
    omega
  | n + 1, hn => by
    have G := ok_lum D n (by omega)
    refine D.F.ok scLum (fun vs H Q E h => ?_) (fun cdv A outer s H vs Q E hr h => ?_)
    · obtain ⟨s, x, b, rfl, _⟩ := h
      rfl
    obtain ⟨s, x, b, rfl, hs, hz, q⟩ := h
    refine ⟨_, pss_cons (ps_if (pt_cmpR (op_eqD hr.units) (pv 0) (pe_tup pa_nil) (nomark _)) (pss_one (ps_ret (pe_lst (pa_cons (pe_tup (pa_cons (pv 1) (pa_cons (pe_op op_add (pv 1) pe_int) (pa_cons (pe_tup pa_nil) pa_nil)))) pa_nil)))) pss_nil)
      (pss_cons (ps_set (i := 2) scLum.nd rfl (.inl rfl) (pcall D G hr (pa_cons (pe_ix ix_tup (pv 0) pe_int (fun _ _ => rfl)) (pa_cons (pv 1) pa_nil))))
      (pss_cons (ps_set (i := 3) scLum.nd rfl (.inl rfl) (pcall D G hr (pa_cons (pe_ix ix_tup (pv 0) pe_int (fun _ _ => rfl)) (pa_cons (pe_ix ix_tup (pe_ix ix_list (pv 2) pe_int (fun _ _ => rfl)) pe_int (fun _ _ => rfl)) pa_nil))))
      (pss_one (ps_ret (pe_op op_cat (pe_op op_cat (pe_lst (pa_cons (pe_tup (pa_cons (pv 1) (pa_cons (pe_ix ix_tup (pe_ix ix_list (pv 3) pe_int (fun _ _ => rfl)) pe_int (fun _ _ => rfl)) (pa_cons (pv 0) pa_nil)))) pa_nil)) (pv 2)) (pv 3)))))), ?_⟩
    refine ⟨_, rfl, Nat.zero_le _, fun p hp => eqO (hs.same (snew hp _)) (by omega) upd_same ⟨_, rfl, ite2 (fun c => ?_) (fun c => ?_)⟩⟩
    · have c' : s = .o := of_decide_eq_true c
      subst c'
      have s1 := snew hp (.tup [])
      refine ⟨_, rfl, _, rfl, _, _, rfl, rfl, Nat.zero_le _, fun p1 hp1 => ⟨Nat.le_of_lt (line_small (show 3 ≤ 100000 by decide)), fun p2 hp2 => ⟨Nat.le_of_lt (line_small (show 1 ≤ 100000 by decide)), fun p3 hp3 => ?_⟩⟩⟩
      have s2 := snew hp1 (.tup [])
      have s3 := snew hp2 (.tup [V.int (b : Int), V.int ((b : Int) + 1), V.ref p1])
      have s4 := snew hp3 (.lst [V.ref p2])
      refine q p3 _ _ (((s1.trans s2).trans s3).trans s4) (((s1.trans s2).trans s3).free hp3) upd_same ?_
      exact Al.cons ⟨p2, .ref p1, rfl, Same.sqT s4 (SqT.of upd_same), ⟨p1, rfl, Same.sqT (s3.trans s4) (SqT.of upd_same)⟩⟩ .nil
    · cases s with
      | o => exact absurd (decide_eq_true rfl) c
      | p l r =>
        have hz : l.size + r.size ≤ n + 1 := hz
        have l1 := l.size_pos
        have r1 := r.size_pos
        have s1 := snew hp (.tup [])
        obtain ⟨a, xl, xr, rfl, hq, hl', hr'⟩ := hs.same s1
        refine ⟨_, rfl, a, _, 0, xl, rfl, rfl, hq, atI_nat (j := 0) rfl, _, rfl, l, xl, b, rfl, hl', by omega, fun pl wl H1 g1 nl el al => ?_⟩
        have t1 := s1.trans g1
        -- left[0][1]
        obtain ⟨rl, el1⟩ := lumps_first l b
        obtain ⟨vl, e0, al0, zl, rfl, ql, _⟩ := al.2 0 (b, b + l.size, l) (by rw [el1]; rfl)
        refine ⟨_, rfl, a, _, 1, xr, rfl, rfl, Same.sqT g1 hq, atI_nat (j := 1) rfl, _, rfl, pl, wl, 0, _, rfl, rfl, SqL.of el, atI_nat (j := 0) e0, al0, _, 1, _, rfl, rfl, ql, atI_nat (j := 1) rfl, ?_⟩
        refine ⟨r, xr, b + l.size, rfl, hr'.same g1, by omega, fun pr wr H2 g2 nr er ar => ?_⟩
        have t2 := t1.trans g2
        -- right[0][1]
        obtain ⟨rr, er1⟩ := lumps_first r (b + l.size)
        obtain ⟨vr, f0, ar0, zr, rfl, qr, _⟩ := ar.2 0 (b + l.size, b + l.size + r.size, r) (by rw [er1]; rfl)
        refine ⟨_, rfl, _, rfl, pr, wr, 0, _, rfl, rfl, SqL.of er, atI_nat (j := 0) f0, ar0, _, 1, _, rfl, rfl, qr, atI_nat (j := 1) rfl, _, rfl, Nat.le_of_lt (line_small (show 3 ≤ 100000 by decide)), fun p3 hp3 => ⟨Nat.le_of_lt (line_small (show 1 ≤ 100000 by decide)), fun p4 hp4 => ?_⟩⟩
        have s3 := snew hp3 (.tup [V.int (b : Int), V.int ((b + l.size + r.size : Nat) : Int), V.ref a])
        have s4 := snew hp4 (.lst [V.ref p3])
        have el2 := (g2.trans (s3.trans s4)) _ _ el
        have er2 := (s3.trans s4) _ _ er
        have ll := lumps_length l b
        have lr := lumps_length r (b + l.size)
        have lwl : wl.length ≤ 200 := by rw [al.1]; omega
        have lwr : wr.length ≤ 200 := by rw [ar.1]; omega
        refine ⟨_, rfl, p4, pl, [V.ref p3], wl, rfl, rfl, upd_same, el2, Nat.le_of_lt (line_small (by show 1 + _ ≤ _; omega)), fun p5 hp5 => ?_⟩
        have s5 := snew hp5 (.lst ([V.ref p3] ++ wl))
        refine ⟨_, rfl, p5, pr, [V.ref p3] ++ wl, wr, rfl, rfl, upd_same, s5 _ _ er2, Nat.le_of_lt (line_small (by rw [List.length_append]; show 1 + _ + _ ≤ _; omega)), fun p6 hp6 => ?_⟩
        have s6 := snew hp6 (.lst ([V.ref p3] ++ wl ++ wr))
        have u := ((s3.trans s4).trans s5).trans s6
        refine q p6 _ _ (t2.trans u) ((t2.trans ((s3.trans s4).trans s5)).free hp6) upd_same ?_
        rw [List.append_assoc]
        refine Al.cons ⟨p3, .ref a, rfl, Same.sqT ((s4.trans s5).trans s6) (SqT.of ?_), hs.same (t2.trans u)⟩ ((LuVs.same (g2.trans u) al).append (LuVs.same u ar))
        rw [upd_same, show b + (l.size + r.size) = b + l.size + r.size by omega]

/-! ### _law_above -/
def spLab (K : PySem.W.Frag) (n : Nat) : Sp := fun vs H Q _ => ∃ (s : Sh) (x : V) (b : Nat) (pa : Addr) (ps : List (Nat × Nat)) (ys : List V), vs = [x, .int b, .ref pa] ∧ ShV K H s x ∧ s.size ≤ n ∧ SqL K H pa ys ∧ PrVs K H ps ys ∧
  ∀ v H', Same H H' → ShV K H' (abv s b ps) v → Q v H'
theorem ok_lab {f fS : Addr} {fd fdS : FuncData} (D : Df K mg "_law_above" sLab ["_law_shape_here", "_law_begin", "_law_pairs"] f fd) (DS : Df K mg "_law_size" sLsz ["_law_shape_here"] fS fdS) : ∀ n, n ≤ 60 → FnOk P w K mg base CX0 (60 + n) f fd ["_law_shape_here", "_law_begin", "_law_pairs"] (spLab K n)
  | 0, _ => FnOk.mono (j := 0) (none_left fun vs H Q E h => by
    obtain ⟨s, x, b, pa, ps, ys, _, _, h1, _⟩ := h
    have := s.size_pos
    omega) (by omega)
  | n + 1, hn => by
    have G := ok_lab D DS n (by omega)
    have GS := ok_lsz (P := P) (w := w) (base := base) DS 60 (Nat.le_refl _)
    have h60 : 60 ≤ 60 + n := Nat.le_add_right 60 n
    refine D.F.ok scLab (fun vs H Q E h => ?_) (fun cdv A outer s H vs Q E hr h => ?_)
    · obtain ⟨s, x, b, pa, ps, ys, rfl, _⟩ := h
      rfl
    obtain ⟨s, x, b, pa, ps, ys, rfl, hs, hz, hl, hy, q⟩ := h
    refine ⟨_, pss_cons (ps_set (i := 3) scLab.nd rfl (.inl rfl) (pe_op op_add (pv 1) (pcall DS GS (hr.mono h60) (pa_cons (pv 0) pa_nil))))
      (pss_cons (ps_if (PW.pt (pw_or (pt_cmpR (op_eqD hr.units) (pv 0) (pe_tup pa_nil) (nomark _)) (pw_or1 (pt_cmpR (op_inD (room65 hr)) (pe_tup (pa_cons (pv 1) (pa_cons (pv 3) pa_nil))) (pv 2) rfl)))) (pss_one (ps_ret (pe_tup pa_nil))) pss_nil)
      (pss_cons (ps_set (i := 4) scLab.nd rfl (.inl rfl) (pe_op op_add (pv 1) (pcall DS GS (hr.mono h60) (pa_cons (pe_ix ix_tup (pv 0) pe_int (fun _ _ => rfl)) pa_nil))))
      (pss_one (ps_ret (pe_tup (pa_cons (pcall D G hr (pa_cons (pe_ix ix_tup (pv 0) pe_int (fun _ _ => rfl)) (pa_cons (pv 1) (pa_cons (pv 2) pa_nil))))
        (pa_cons (pcall D G hr (pa_cons (pe_ix ix_tup (pv 0) pe_int (fun _ _ => rfl)) (pa_cons (pv 4) (pa_cons (pv 2) pa_nil)))) pa_nil))))))), ?_⟩
    refine ⟨_, rfl, _, rfl, s, x, rfl, hs, by omega, fun H1 g1 => ⟨_, _, rfl, rfl, ?_⟩⟩
    have ee : ((b : Nat) : Int) + ((s.size : Nat) : Int) = ((b + s.size : Nat) : Int) := by omega
    refine ⟨_, rfl, Nat.zero_le _, fun p hp => eqO (hs.same (g1.trans (snew hp _))) (by omega) upd_same ⟨_, rfl, ite2 (fun c => ?_) (fun c => ?_)⟩⟩
    · have c' : s = .o := of_decide_eq_true c
      subst c'
      have s1 := snew hp (.tup [])
      refine iteT ⟨Nat.zero_le _, fun p1 hp1 => q _ _ ((g1.trans s1).trans (snew hp1 _)) ⟨p1, rfl, SqT.of upd_same⟩⟩
    · have s1 := snew hp (.tup [])
      have t1 := g1.trans s1
      refine ⟨_, rfl, _, rfl, Nat.le_of_lt (line_small (show 2 ≤ 100000 by decide)), fun p2 hp2 => ⟨_, rfl, ?_⟩⟩
      have s2 := snew hp2 (.tup [V.int (b : Int), V.int (((b : Nat) : Int) + ((s.size : Nat) : Int))])
      have t2 := t1.trans s2
      have hpr : PrV K (upd (upd H1 p (.tup [])) p2 (.tup [V.int (b : Int), V.int (((b : Nat) : Int) + ((s.size : Nat) : Int))])) (b, b + s.size) (.ref p2) := ⟨p2, rfl, SqT.of (by rw [upd_same, ee])⟩
      refine inPr hpr (t2.seq hl) (PrVs.same t2 hy) ⟨_, rfl, ite2 (fun c2 => ?_) (fun c2 => ?_)⟩
      · have c3 : (b, b + s.size) ∈ ps := of_decide_eq_true c2
        refine ⟨Nat.zero_le _, fun p3 hp3 => q _ _ (t2.trans (snew hp3 _)) ?_⟩
        rw [abv_mem c3]
        exact ⟨p3, rfl, SqT.of upd_same⟩
      · have c3 : ¬ (b, b + s.size) ∈ ps := of_decide_eq_false (Bool.eq_false_iff.mpr c2)
        cases s with
        | o => exact absurd (decide_eq_true rfl) c
        | p l r =>
          have hz : l.size + r.size ≤ n + 1 := hz
          have l1 := l.size_pos
          have r1 := r.size_pos
          obtain ⟨a, xl, xr, rfl, hq, hl', hr'⟩ := hs.same t2
          refine ⟨_, rfl, _, rfl, a, _, 0, xl, rfl, rfl, hq, atI_nat (j := 0) rfl, l, xl, rfl, hl', by omega, fun H2 g2 => ⟨_, _, rfl, rfl, ?_⟩⟩
          have t3 := t2.trans g2
          refine ⟨_, rfl, a, _, 0, xl, rfl, rfl, Same.sqT g2 hq, atI_nat (j := 0) rfl, _, rfl, _, rfl, l, xl, b, pa, ps, ys, rfl, hl'.same g2, by omega, t3.seq hl, PrVs.same t3 hy, fun v1 H3 g3 q1 => ?_⟩
          have t4 := t3.trans g3
          refine ⟨_, rfl, a, _, 1, xr, rfl, rfl, Same.sqT (g2.trans g3) hq, atI_nat (j := 1) rfl, _, rfl, _, rfl, r, xr, b + l.size, pa, ps, ys, ?_, hr'.same (g2.trans g3), by omega, t4.seq hl, PrVs.same t4 hy, fun v2 H4 g4 q2 => ?_⟩
          · show [xr, V.int (((b : Nat) : Int) + ((l.size : Nat) : Int)), V.ref pa] = _
            rw [show ((b : Nat) : Int) + ((l.size : Nat) : Int) = ((b + l.size : Nat) : Int) by omega]
          refine ⟨Nat.le_of_lt (line_small (show 2 ≤ 100000 by decide)), fun p5 hp5 => ?_⟩
          have s5 := snew hp5 (.tup [v1, v2])
          refine q _ _ ((t4.trans g4).trans s5) ?_
          have c4 : ¬ (b, b + (l.size + r.size)) ∈ ps := c3
          unfold abv
          rw [if_neg c4]
          exact ⟨p5, v1, v2, rfl, SqT.of upd_same, q1.same (g4.trans s5), q2.same s5⟩
end
end Lp

set_option maxRecDepth 100000
/-! The law's own cuts and primes. -/
namespace Lp
open PySem PySem.Spec PyProof.Rows L2

section
variable {P : Program} {w : World} {K : PySem.W.Frag} {mg : Str → Option Value} {base : Heap}
/-! ### _law_behind -/
def spLbe (K : PySem.W.Frag) : Sp := fun vs H Q _ => ∃ (t : Tb) (v : V) (b : Nat), vs = [v, .int b] ∧ TbV K H t v ∧ Ok t ∧ tsz t ≤ 60 ∧ 2 ≤ b ∧ b < tsz t ∧
  (∀ H', Same H H' → ¬ IsCut t b → Q .non H') ∧ ∀ x H', Same H H' → IsCut t b → TbV K H' (behind t b) x → Q x H'
/-- the lumps without their parts -/
abbrev lpr (s : Sh) : List (Nat × Nat) := (lumps s 0).map fun y => (y.1, y.2.1)
theorem all_map {α : Type} (p : α → Bool) : ∀ xs : List α, ((xs.map p).all id) = xs.all p
  | [] => rfl
  | x :: xs => by
    rw [List.map_cons, List.all_cons, List.all_cons, all_map p xs]
    rfl
theorem neT {K : PySem.W.Frag} {H : Hp} {t u : Tb} {x y : V} {Q : VK} (hs : TbV K H t x) (ht : TbV K H u y) (o1 : Ok t) (o2 : Ok u) (z1 : tsz t ≤ 60) (z2 : tsz u ≤ 60) (q : Q (.bl (decide (t = u))) H) : rEqD K x y H Q := by
  refine ⟨tbd t, tbd u, hs.dp, ht.dp, shaped_of (tbd_lay t) (by have := tbd_deep o1 z1; omega), shaped_of (tbd_lay u) (by have := tbd_deep o2 z2; omega), ?_⟩
  rw [tbd_eqv]
  exact q
theorem ok_lbe {f fL fS fA fG : Addr} {fd fdL fdS fdA fdG : FuncData} (F : Fun K "_law_behind" "_law_behind" sLbe f fd) (DL : Df K mg "_law_lumps" sLum ["_law_shape_here", "_law_begin"] fL fdL) (DS : Df K mg "_law_stretches" sLstr ["_law_m", "_law_b"] fS fdS)
    (DA : Df K mg "_law_above" sLab ["_law_shape_here", "_law_begin", "_law_pairs"] fA fdA) (DG : Df K mg "_law_glued" sGlue ["_law_s", "_law_t"] fG fdG)
    (GL : FnOk P w K mg base CX0 60 fL fdL ["_law_shape_here", "_law_begin"] (spLum K 60)) (GA : FnOk P w K mg base CX0 120 fA fdA ["_law_shape_here", "_law_begin", "_law_pairs"] (spLab K 60)) (GG : FnOk P w K mg base CX0 121 fG fdG ["_law_s", "_law_t"] (spGlue K))
    (ml : mg "len" = none) (mr : mg "range" = none) (mm : mg "min" = none) (mt : mg "tuple" = none) (ma : mg "all" = none) : FnOk P w K mg base CX0 122 f fd ["_law_table_here", "_law_b"] (spLbe K) := by
  have GS : FnOk P w K mg base CX0 1 fS fdS ["_law_m", "_law_b"] (spStrs K) := ok_lstr DS.F mr mm
  refine F.ok scLbe (fun vs H Q E h => ?_) (fun cdv A outer s0 H vs Q E hr h => ?_)
  · obtain ⟨t, v, b, rfl, _⟩ := h
    rfl
  obtain ⟨t, v, b, rfl, hT, ok, t60, b2, bn, qN, qS⟩ := h
  refine ⟨_, pss_cons (ps_par (i := 2) (j := 3) rfl scLbe.nd rfl rfl (by decide) rfl rfl (pa_cons (pe_op op_add (pe_callB call_len_seq (by rfl) ml PySem.boot_len (pa_cons (pv 0) pa_nil)) pe_int) (pa_cons (pe_lst pa_nil) pa_nil)) (by rfl))
    (pss_cons (ps_if (pt_cmpR op_ne (pe_op op_mod (pv 2) (pv 1)) pe_int (nomark _)) (pss_one (ps_ret pe_non)) pss_nil)
    (pss_cons (ps_for PassesOwn.never rfl (pi_range2 (by rfl) mr (pa_cons pe_int (pa_cons (pe_op op_add (pe_op op_fdiv (pv 2) (pv 1)) pe_int) pa_nil))) (pg_name (i := 4) scLbe.nd rfl (.inl rfl))
      (pss_cons (ps_set (i := 5) scLbe.nd rfl (.inr rfl) (pe_lc (own := [("_law_i", 7), ("_law_j", 8), ("_law_part", 9)]) (g := gTup K 3 (gCons (gName 7) (gCons (gName 8) (gCons (gName 9) gNil)))) (tt := tYes) rfl scLbe.nd
          (pi_list (pcall DL GL (hr.mono (by decide)) (pa_cons (pe_ix ix_tup (pv 0) (pe_op op_sub (pe_op op_mul (pv 4) (pv 1)) pe_int) (fun _ _ => rfl)) (pa_cons pe_int pa_nil))))
          (blkOk_by (N := NLbe) (sc := defScope sLbe) (by decide +kernel))
          (fun _ _ _ _ _ => pg_tup rfl (pgs_cons (pg_name (i := 7) scLbe.nd rfl (.inl rfl)) (pgs_cons (pg_name (i := 8) scLbe.nd rfl (.inl rfl)) (pgs_cons (pg_name (i := 9) scLbe.nd rfl (.inl rfl)) pgs_nil)))) (fun _ _ _ _ _ => pts_nil)
          (fun _ _ _ _ _ => pe_tup (pa_cons (pv 7) (pa_cons (pv 8) pa_nil)))))
      (pss_cons (ps_set (i := 6) scLbe.nd rfl (.inl rfl) (pcall DS GS (hr.mono (by decide)) (pa_cons (pe_op op_mul (pv 4) (pv 1)) (pa_cons (pv 1) pa_nil))))
      (pss_cons (ps_if (pt_not (pt_val (pe_callB (cr_all rfl) (by rfl) ma boot_all (pa_cons (pe_lc (own := [("_law_pair", 10)]) (g := gName 10) (tt := tYes) rfl scLbe.nd (pi_list (pv 6))
          (blkOk_by (N := NLbe) (sc := defScope sLbe) (by decide +kernel)) (fun _ _ _ _ _ => pg_name (i := 10) scLbe.nd rfl (.inl rfl)) (fun _ _ _ _ _ => pts_nil)
          (fun _ _ _ _ _ => pe_cmpR (show OpR _ (compareOp .In) (rInD K) from op_inD (room65 hr)) (pv 10) (pv 5) rfl)) pa_nil)))) (pss_one (ps_ret pe_non)) pss_nil)
      (pss_one (ps_expr (pe_bm PySem.F.plainAttrs_list PySem.F.slot_list_append PySem.F.type_list_append mt_append (pv 3) (pa_cons (pcall DA GA (hr.mono (by decide)) (pa_cons (pe_ix ix_tup (pv 0) (pe_op op_sub (pe_op op_mul (pv 4) (pv 1)) pe_int) (fun _ _ => rfl))
          (pa_cons pe_int (pa_cons (pv 6) pa_nil)))) pa_nil))))))))
    (pss_one (ps_ret (pe_ifExp (pt_cmpR (op_eqD hr.units) (pcall DG GG hr (pa_cons (pe_slice sl_tupA (pv 0) po_none (po_some (pe_op op_sub (pv 1) pe_int))) (pa_cons (pe_callTy call_tuple_of (by rfl) mt PyProof.Rows.boot_tuple (pa_cons (pv 3) pa_nil)) pa_nil))) (pv 0) (nomark _))
      (pe_callTy call_tuple_of (by rfl) mt PyProof.Rows.boot_tuple (pa_cons (pv 3) pa_nil)) pe_non))))), ?_⟩
  obtain ⟨ad, xs, rfl, hq, hA⟩ := id hT
  have es : ((xs.length : Nat) : Int) + 1 = ((tsz t : Nat) : Int) := by rw [hA.1]; unfold tsz; omega
  refine ⟨_, rfl, ad, xs, rfl, .inr hq, _, _, rfl, rfl, Nat.zero_le _, fun D hD => ⟨_, _, rfl, ?_⟩⟩
  have s1 := snew hD (.lst [])
  refine ⟨_, rfl, _, rfl, _, _, rfl, rfl, (by show (0 : Int) < b; omega), rfl, _, rfl, ?_⟩
  have em : (((xs.length : Nat) : Int) + 1) % ((b : Nat) : Int) = ((tsz t % b : Nat) : Int) := by rw [es, Int.natCast_emod]
  show if (!decide (V.int ((((xs.length : Nat) : Int) + 1) % ((b : Nat) : Int)) = V.int 0)) = true then _ else _
  rw [em]
  by_cases h0 : tsz t % b = 0
  · rw [decide_eq_true (by rw [h0]; rfl)]
    refine iteF ?_
    obtain ⟨q2, qe, _⟩ := quot_two b2 bn h0
    have ed : (((xs.length : Nat) : Int) + 1) / ((b : Nat) : Int) = ((tsz t / b : Nat) : Int) := by rw [es, Int.natCast_ediv]
    have q60 : tsz t / b ≤ 60 := Nat.le_trans (Nat.div_le_self _ _) t60
    have bz := behind_tsz (t := t) (b := b) (by omega)
    refine ⟨_, rfl, _, rfl, _, _, rfl, rfl, ⟨by omega, by omega⟩, _, _, rfl, rfl, 2, _, rfl, ?_, ?_⟩
    · rw [ed]
      exact ⟨by decide, by decide, by omega, by omega⟩
    have en : ((((xs.length : Nat) : Int) + 1) / ((b : Nat) : Int) + 1 - 2).toNat = tsz t / b - 1 := by
      rw [ed]
      omega
    rw [en]
    refine for_range (lo := 2) (n := tsz t / b - 1) (fun i σ H' => Same H H' ∧ (∃ y4 y5 y6, σ = [some (.ref ad), some (.int b), some (.int (((xs.length : Nat) : Int) + 1)), some (.ref D), y4, y5, y6, none, none, none, none]) ∧
        (∃ zs, H' D = some (.lst zs) ∧ ShVs K H' ((behind t b).take i) zs) ∧ ∀ m, 2 ≤ m → m < 2 + i → ∀ k, k < cnt (m * b) b → (part (ent t (m * b)) 0 (k * b, fin (m * b) b k)).isSome = true)
      ⟨s1, ⟨none, none, none, rfl⟩, ⟨[], upd_same, .nil⟩, fun m m1 m2 => absurd m2 (by omega)⟩ (fun i σ H1 hi hP => ?_) (fun σ H1 hP => ?_)
    · obtain ⟨g1, ⟨y4, y5, y6, rfl⟩, ⟨zs, eD, hZ⟩, hall⟩ := hP
      have emi : (2 : Int) + ((i : Nat) : Int) = (((2 + i : Nat)) : Int) := by omega
      rw [emi]
      have w2 := Nat.mul_le_mul_right b (show 2 + i ≤ tsz t / b by omega)
      have w1 := Nat.mul_le_mul_right b (show 2 ≤ 2 + i by omega)
      have hsz : (ent t ((2 + i) * b)).size = (2 + i) * b := ok.size (by omega) (by omega)
      have cc : cnt ((2 + i) * b) b = 2 + i := cnt_mul (by omega)
      have mulE : (((2 + i : Nat) : Int) * ((b : Nat) : Int)) = (((2 + i) * b : Nat) : Int) := by rw [← Int.natCast_mul]
      -- lumps_here
      obtain ⟨z, ez, hz⟩ := tb_item hA (m := (2 + i) * b) (by omega) (by omega)
      refine ⟨_, rfl, _, rfl, _, rfl, _, _, rfl, rfl, .inr ⟨by omega, by omega⟩, _, _, rfl, rfl, ad, xs, _, z, rfl, rfl, Same.sqT g1 hq, by rw [mulE]; exact ez, ent t ((2 + i) * b), z, 0, rfl, hz.same g1, by omega, fun pl wl H2 g2 nl el al => ?_⟩
      have g12 := g1.trans g2
      refine ⟨pl, rfl, ⟨wl, SqL.of el⟩, fun D2 hD2 => ?_⟩
      have lwl : wl.length + 1 = 2 * ((2 + i) * b) := by
        have := lumps_length (ent t ((2 + i) * b)) 0
        rw [al.1]
        omega
      refine lc_list (K := K) (a := pl) (xs := wl) (fun j H' => Same H2 H' ∧ ∃ ws, H' D2 = some (.lst ws) ∧ PrVs K H' ((lpr (ent t ((2 + i) * b))).take j) ws) ⟨snew hD2 _, [], upd_same, .nil⟩ (fun j H3 _ hP => hP.1.seq (SqL.of el)) (fun j y H3 hj hP => ?_) (fun H3 hP => ?_)
      · obtain ⟨g3, ws, eD2, hW⟩ := hP
        obtain ⟨yl, e1, a0, zz, rfl, qa, _⟩ := al.at hj
        have qa3 := Same.sqT g3 qa
        refine ⟨a0, _, rfl, qa3, rfl, _, _, rfl, _, _, rfl, _, _, rfl, rfl, rfl, tyes ?_⟩
        refine ⟨_, rfl, _, rfl, Nat.le_of_lt (line_small (show 2 ≤ 100000 by decide)), fun p hp => ?_⟩
        have s2 := snew hp (.tup [V.int (yl.1 : Int), V.int (yl.2.1 : Int)])
        have eD3 := s2 _ _ eD2
        have ts := ts_lst (o := HO.lst (ws ++ [.ref p])) eD3
        have lw : ws.length ≤ 200 := by
          rw [hW.1, List.length_take, List.length_map, ← al.1]
          omega
        refine ⟨ws, eD3, line_small (by omega), sput (g3.trans s2) hD2 _, _, upd_same, ?_⟩
        have et : (lpr (ent t ((2 + i) * b))).take (j + 1) = (lpr (ent t ((2 + i) * b))).take j ++ [(yl.1, yl.2.1)] := by
          rw [List.take_add_one, List.getElem?_map, e1]
          rfl
        rw [et]
        exact Al.snoc (hW.imp fun _ _ z => z.mono ((ts_of s2).trans ts)) ⟨p, rfl, ts.sqT (SqT.of upd_same)⟩
      · obtain ⟨g3, ws, eD2, hW⟩ := hP
        rw [List.take_of_length_le (by rw [List.length_map, ← al.1]; exact Nat.le_refl _)] at hW
        have g13 := g12.trans g3
        -- pairs
        refine ⟨_, rfl, _, rfl, _, _, rfl, rfl, .inr ⟨by omega, by omega⟩, _, rfl, (2 + i) * b, b, ?_, by omega, by omega, by omega, fun pp ys H4 g4 np ep hy => ?_⟩
        · show [V.int (((2 + i : Nat) : Int) * ((b : Nat) : Int)), V.int (b : Int)] = _
          rw [mulE]
        have eD24 := g4 _ _ eD2
        have hW4 : PrVs K H4 (lpr (ent t ((2 + i) * b))) ws := PrVs.same g4 hW
        have ly : ys.length = cnt ((2 + i) * b) b := by rw [hy.1, strs_length]
        -- all(..)
        refine ⟨_, rfl, pp, rfl, ⟨ys, SqL.of ep⟩, fun D3 hD3 => ?_⟩
        refine lc_list (K := K) (a := pp) (xs := ys) (fun j H' => Same H4 H' ∧ H' D3 = some (.lst ((((strc ((2 + i) * b) b).take j).map fun x => decide (x ∈ lpr (ent t ((2 + i) * b)))).map V.bl))) ⟨snew hD3 _, upd_same⟩ (fun j H3 _ hP => hP.1.seq (SqL.of ep)) (fun j y H5 hj hP => ?_) (fun H5 hP => ?_)
        · obtain ⟨g5, eD3⟩ := hP
          obtain ⟨pr, e1, hpr⟩ := hy.at hj
          have jc : j < cnt ((2 + i) * b) b := by
            rw [← ly]
            exact (List.getElem?_eq_some_iff.mp hj).1
          refine ⟨rfl, tyes ?_⟩
          refine ⟨_, rfl, _, rfl, inPr (hpr.mono (ts_of g5)) (g5.seq (SqL.of eD24)) (PrVs.same g5 hW4) ?_⟩
          refine ⟨_, eD3, ?_, sput g5 hD3 _, ?_⟩
          · rw [List.length_map, List.length_map, List.length_take]
            exact line_small (by omega)
          · rw [upd_same, List.take_add_one, e1, List.map_append, List.map_append]
            rfl
        · obtain ⟨g5, eD3⟩ := hP
          rw [List.take_of_length_le (by rw [hy.1]; exact Nat.le_refl _)] at eD3
          refine ⟨D3, _, rfl, SqL.of eD3, _, rfl, ?_⟩
          rw [all_map]
          have g45 := g4.trans g5
          by_cases hin : (strc ((2 + i) * b) b).all (fun x => decide (x ∈ lpr (ent t ((2 + i) * b)))) = true
          · rw [hin]
            refine iteF ?_
            have hk : ∀ k, k < cnt ((2 + i) * b) b → (part (ent t ((2 + i) * b)) 0 (k * b, fin ((2 + i) * b) b k)).isSome = true := fun k hk => by
              have := List.all_eq_true.mp hin (k * b, fin ((2 + i) * b) b k) (mem_strs.mpr ⟨k, hk, rfl⟩)
              exact (mem_lumps _ _ _).mp (of_decide_eq_true this)
            have eD5 := (g2.trans (g3.trans g45)) _ _ eD
            have g15 := g13.trans g45
            refine ⟨_, rfl, .inl ⟨rfl, _, .inl (.inl eD5)⟩, _, rfl, _, rfl, _, rfl, _, _, rfl, rfl, .inr ⟨by omega, by omega⟩, _, _, rfl, rfl, ad, xs, _, z, rfl, rfl, Same.sqT g15 hq, by rw [mulE]; exact ez, _, rfl,
              ent t ((2 + i) * b), z, 0, pp, strc ((2 + i) * b) b, ys, rfl, hz.same g15, by omega, g5.seq (SqL.of ep), PrVs.same g5 hy, fun x H6 g6 hx => ?_⟩
            have eD6 := g6 _ _ eD5
            have lz : zs.length ≤ 60 := by
              rw [hZ.1, List.length_take]
              omega
            refine ⟨D, zs, x, rfl, rfl, eD6, line_small (by omega), ?_⟩
            have ts := ts_lst (o := HO.lst (zs ++ [x])) eD6
            refine ⟨sput (g15.trans g6) hD _, ⟨_, _, _, rfl⟩, ⟨_, upd_same, ?_⟩, fun m m1 m2 => ?_⟩
            · have en2 : (behind t b).take (i + 1) = (behind t b).take i ++ [sa t b ((2 + i) * b)] := by
                have hg := ent_get (t := behind t b) (m := 2 + i) (by omega) (by rw [bz]; omega)
                rw [show 2 + i - 2 = i by omega, behind_ent (by omega) (by omega)] at hg
                rw [List.take_add_one, hg]
                rfl
              rw [en2]
              exact (ShVs.mono ts (ShVs.same ((g2.trans (g3.trans g45)).trans g6) hZ)).snoc (hx.mono ts)
            · rcases Nat.lt_or_ge m (2 + i) with y | y
              · exact hall m m1 y
              · obtain rfl : m = 2 + i := by omega
                exact hk
          · rw [Bool.not_eq_true] at hin
            rw [hin]
            refine iteT (qN _ (g13.trans g45) fun z => ?_)
            have zl := ((cut_iff ok b2 bn).mp z).2.1 (2 + i) (by omega) (by omega)
            have : (strc ((2 + i) * b) b).all (fun x => decide (x ∈ lpr (ent t ((2 + i) * b)))) = true := List.all_eq_true.mpr fun x hx => by
              obtain ⟨k, hk, rfl⟩ := mem_strs.mp hx
              exact decide_eq_true ((mem_lumps _ _ _).mpr (zl k hk))
            rw [this] at hin
            cases hin
    · obtain ⟨g1, ⟨y4, y5, y6, rfl⟩, ⟨zs, eD, hZ⟩, hall⟩ := hP
      have lawall : LawAll t b := fun m m1 m2 => hall m m1 (by omega)
      have lb : (behind t b).length = tsz t / b - 1 := by
        unfold tsz at bz ⊢
        omega
      rw [List.take_of_length_le (by omega)] at hZ
      have okb : Ok (behind t b) := ⟨by omega, fun k k1 k2 => by
        rw [bz] at k2
        have w1 := Nat.mul_le_mul_right b k1
        have w2 := Nat.mul_le_mul_right b k2
        rw [behind_ent k1 k2, lawAll_size ok (by omega) (by omega) (by omega) (lawall k k1 k2), cnt_mul (by omega)]⟩
      have okt := take_ok ok b2 (Nat.le_of_lt bn)
      have tzt := take_tsz (t := t) (b := b) (by omega) (Nat.le_of_lt bn)
      have eb : ((b : Nat) : Int) - 1 = ((b - 1 : Nat) : Int) := by omega
      refine ⟨_, rfl, _, rfl, _, _, rfl, rfl, _, rfl, ?_⟩
      rw [eb]
      refine sl_to (hT.same g1) (by unfold tsz at bn; omega) fun x H2 g2 hx => ?_
      have eD2 := g2 _ _ eD
      refine ⟨_, rfl, D, zs, rfl, .inl ⟨SqL.of eD2, fun l hl => ?_⟩⟩
      have s3 := snew hl (.tup zs)
      have g13 := g1.trans (g2.trans s3)
      refine ⟨t.take (b - 1), behind t b, x, .ref l, rfl, hx.same s3, ⟨l, zs, rfl, SqT.of upd_same, ShVs.same (g2.trans s3) hZ⟩, okt, okb, ?_, fun y H4 g4 hy => ?_⟩
      · rw [tzt, bz, Nat.mul_comm, qe]
        exact t60
      have g14 := g13.trans g4
      refine ⟨_, rfl, neT hy (hT.same g14) (glue_ok okt okb) ok ?_ t60 ⟨_, rfl, ite2 (fun c => ?_) (fun c => ?_)⟩⟩
      · rw [glue_tsz, tzt, bz, Nat.mul_comm, qe]
        exact t60
      · have c' : glue (t.take (b - 1)) (behind t b) = t := of_decide_eq_true c
        have eD4 := ((g2.trans s3).trans g4) _ _ eD
        refine ⟨_, rfl, D, zs, rfl, .inl ⟨SqL.of eD4, fun l2 hl2 => ?_⟩⟩
        have s5 := snew hl2 (.tup zs)
        exact qS _ _ (g14.trans s5) ((cut_iff ok b2 bn).mpr ⟨h0, lawall, c'⟩) ⟨l2, zs, rfl, SqT.of upd_same, ShVs.same (((g2.trans s3).trans g4).trans s5) hZ⟩
      · have c' : ¬ glue (t.take (b - 1)) (behind t b) = t := of_decide_eq_false (Bool.eq_false_iff.mpr c)
        exact qN _ g14 fun z => c' ((cut_iff ok b2 bn).mp z).2.2
  · rw [decide_eq_false (fun z => h0 (by have := V.int.inj z; omega))]
    exact iteT (qN _ s1 fun z => h0 z.1)
end
end Lp

set_option maxRecDepth 100000
namespace Lp
open PySem PySem.Spec PyProof.Rows L2

section
variable {P : Program} {w : World} {K : PySem.W.Frag} {mg : Str → Option Value} {base : Heap}
/-! ### _law_cuts -/
open Classical in
theorem ok_lcu {f fB : Addr} {fd fdB : FuncData} (F : Fun K "_law_cuts" "_law_cuts" sLcu f fd) (DB : Df K mg "_law_behind" sLbe ["_law_table_here", "_law_b"] fB fdB)
    (GB : FnOk P w K mg base CX0 122 fB fdB ["_law_table_here", "_law_b"] (spLbe K)) (ml : mg "len" = none) (mr : mg "range" = none) : FnOk P w K mg base CX0 123 f fd ["_law_table_here"] (spCuts K) := by
  refine F.ok scLcu (fun vs H Q E h => ?_) (fun cdv A outer s H vs Q E hr h => ?_)
  · obtain ⟨t, v, rfl, _⟩ := h
    rfl
  obtain ⟨t, v, rfl, hT, ok, t60, q⟩ := h
  refine ⟨_, pss_one (ps_ret (pe_lc (own := [("_law_b", 1)]) (g := gName 1) rfl scLcu.nd (pi_range2 (by rfl) mr (pa_cons pe_int (pa_cons (pe_op op_add (pe_callB call_len_seq (by rfl) ml PySem.boot_len (pa_cons (pv 0) pa_nil)) pe_int) pa_nil)))
    (blkOk_by (N := ["_law_table_here", "_law_b"]) (sc := defScope sLcu) (by decide +kernel)) (fun _ _ _ _ _ => pg_name (i := 1) scLcu.nd rfl (Or.inl rfl)) (fun _ _ _ _ _ => pts_one (pt_cmp (pc_notN (pcall DB GB hr (pa_cons (pv 0) (pa_cons (pv 1) pa_nil)))) rfl))
    (fun _ _ _ _ _ => pv 1))), ?_⟩
  obtain ⟨ad, xs, rfl, hq, hA⟩ := id hT
  have es : ((xs.length : Nat) : Int) + 1 = ((tsz t : Nat) : Int) := by rw [hA.1]; unfold tsz; omega
  refine ⟨_, rfl, ad, xs, rfl, .inr hq, _, _, rfl, rfl, 2, _, rfl, by rw [es]; exact ⟨by decide, by decide, by omega, by omega⟩, fun D hD => ?_⟩
  have t2 := ok.ne
  have en : (((xs.length : Nat) : Int) + 1 - 2).toNat = tsz t - 2 := by omega
  rw [en]
  refine lc_range (lo := 2) (n := tsz t - 2) (fun i H' => Same H H' ∧ H' D = some (.lst (((List.range' 2 i).filter fun b => decide (IsCut t b)).map fun (b : Nat) => V.int b))) ⟨snew hD _, upd_same⟩ (fun i H1 hi hP => ?_) (fun H1 hP => ?_)
  · obtain ⟨g1, eD⟩ := hP
    have em : (2 : Int) + ((i : Nat) : Int) = (((2 + i : Nat)) : Int) := by omega
    rw [em]
    refine ⟨rfl, _, rfl, _, rfl, t, .ref ad, 2 + i, rfl, hT.same g1, ok, t60, by omega, by omega, fun H2 g2 hc => ⟨_, rfl, ?_⟩, fun x H2 g2 hc hx => ⟨_, rfl, ?_⟩⟩
    · have eD2 := g2 _ _ eD
      refine iteNS rfl ⟨g1.trans g2, ?_⟩
      rw [eD2, filter_next, if_neg (by rw [decide_eq_true_iff]; exact hc), List.append_nil]
    · have eD2 := g2 _ _ eD
      obtain ⟨ax, _, rfl, _⟩ := hx
      rw [decide_eq_false (by intro z; cases z)]
      refine iteT ⟨_, rfl, _, eD2, ?_, sput (g1.trans g2) hD _, ?_⟩
      · rw [List.length_map]
        have := List.length_filter_le (fun b => decide (IsCut t b)) (List.range' 2 i)
        rw [List.length_range'] at this
        exact line_small (by omega)
      · rw [upd_same, filter_next, if_pos (decide_eq_true hc), List.map_append]
        rfl
  · obtain ⟨g1, eD⟩ := hP
    refine q D H1 g1 hD ?_
    rw [eD, cuts_eq]

/-! ### _law_primes -/
def spLpr (K : PySem.W.Frag) (n : Nat) : Sp := fun vs H Q _ => ∃ (t : Tb) (v : V), vs = [v] ∧ TbV K H t v ∧ Ok t ∧ tsz t ≤ 60 ∧ tsz t ≤ n + 1 ∧
  ∀ p ws H', Same H H' → H p = none → H' p = some (.lst ws) → TbVs K H' (primesF (n - 1) t) ws → Q (.ref p) H'
theorem primesF_length : ∀ (n : Nat) (t : Tb), (primesF n t).length ≤ n + 1
  | 0, _ => Nat.le_refl _
  | n + 1, t => by
    cases hc : cuts t with
    | nil =>
      rw [primesF_nil hc]
      show 1 ≤ _
      omega
    | cons b r =>
      have := primesF_length n (behind t b)
      rw [primesF_cons hc, List.length_cons]
      omega
theorem ok_lpr {f fC fB : Addr} {fd fdC fdB : FuncData} (D : Df K mg "_law_primes" sLpr ["_law_table_here"] f fd) (DC : Df K mg "_law_cuts" sLcu ["_law_table_here"] fC fdC) (DB : Df K mg "_law_behind" sLbe ["_law_table_here", "_law_b"] fB fdB)
    (GC : FnOk P w K mg base CX0 123 fC fdC ["_law_table_here"] (spCuts K)) (GB : FnOk P w K mg base CX0 122 fB fdB ["_law_table_here", "_law_b"] (spLbe K)) : ∀ n, n ≤ 59 → FnOk P w K mg base CX0 (123 + n) f fd ["_law_table_here"] (spLpr K n)
  | 0, _ => FnOk.mono (j := 0) (none_left fun vs H Q E h => by
    obtain ⟨t, v, _, _, ok, _, h1, _⟩ := h
    have := ok.ne
    omega) (by omega)
  | n + 1, hn => by
    have G := ok_lpr D DC DB GC GB n (by omega)
    have h123 : 123 ≤ 123 + n := Nat.le_add_right 123 n
    refine D.F.ok scLpr (fun vs H Q E h => ?_) (fun cdv A outer s H vs Q E hr h => ?_)
    · obtain ⟨t, v, rfl, _⟩ := h
      rfl
    obtain ⟨t, v, rfl, hT, ok, t60, tn, q⟩ := h
    refine ⟨_, pss_cons (ps_set (i := 1) scLpr.nd rfl (.inl rfl) (pcall DC GC (hr.mono h123) (pa_cons (pv 0) pa_nil)))
      (pss_cons (ps_if (pt_cmpR (op_eqD hr.units) (pv 1) (pe_lst pa_nil) (nomark _)) (pss_one (ps_ret (pe_lst (pa_cons (pv 0) pa_nil)))) pss_nil)
      (pss_one (ps_ret (pe_op op_cat (pe_lst (pa_cons (pe_slice sl_tupA (pv 0) po_none (po_some (pe_op op_sub (pe_ix ix_list (pv 1) pe_int (fun _ _ => rfl)) pe_int))) pa_nil))
        (pcall D G hr (pa_cons (pcall DB GB (hr.mono (Nat.le_trans (by decide) h123)) (pa_cons (pv 0) (pa_cons (pe_ix ix_list (pv 1) pe_int (fun _ _ => rfl)) pa_nil))) pa_nil)))))), ?_⟩
    refine ⟨_, rfl, t, v, rfl, hT, ok, t60, fun p H1 g1 np ep => ?_⟩
    refine ⟨_, rfl, Nat.zero_le _, fun l hl => ?_⟩
    have s2 := snew hl (.lst [])
    have g2 := g1.trans s2
    have ep2 := s2 _ _ ep
    refine eqNil (SqL.of ep2) upd_same ⟨_, rfl, ite2 (fun c => ?_) (fun c => ?_)⟩
    · have hc : cuts t = [] := of_decide_eq_true c
      refine ⟨_, rfl, Nat.le_of_lt (line_small (show 1 ≤ 100000 by decide)), fun p3 hp3 => ?_⟩
      have s3 := snew hp3 (.lst [v])
      refine q p3 _ _ (g2.trans s3) (g2.free hp3) upd_same ?_
      rw [primesF_nil hc]
      exact .cons (hT.same (g2.trans s3)) .nil
    · cases hc : cuts t with
      | nil =>
        rw [hc] at c
        exact absurd (decide_eq_true rfl) c
      | cons b r =>
        rw [hc] at ep2
        have hb : b ∈ cuts t := by rw [hc]; exact List.mem_cons_self
        obtain ⟨b2, bn, k1, k2, k3, k4, k5⟩ := cut_facts ok hb
        obtain ⟨_, _, icut⟩ := mem_cuts.mp hb
        have eb : ((b : Nat) : Int) - 1 = ((b - 1 : Nat) : Int) := by omega
        refine ⟨_, rfl, _, rfl, p, _, 0, .int (b : Nat), rfl, rfl, SqL.of ep2, atI_nat (j := 0) rfl, _, _, rfl, rfl, _, rfl, ?_⟩
        rw [eb]
        refine sl_to (hT.same g2) (by unfold tsz at bn; omega) fun x H3 g3 hx => ?_
        have g13 := g2.trans g3
        have ep3 := g3 _ _ ep2
        refine ⟨Nat.le_of_lt (line_small (show 1 ≤ 100000 by decide)), fun p4 hp4 => ?_⟩
        have s4 := snew hp4 (.lst [x])
        have g14 := g13.trans s4
        have ep4 := s4 _ _ ep3
        refine ⟨_, rfl, _, rfl, p, _, 0, .int (b : Nat), rfl, rfl, SqL.of ep4, atI_nat (j := 0) rfl, t, v, b, rfl, hT.same g14, ok, t60, b2, bn, fun H5 g5 z => absurd icut z, fun y H5 g5 _ hy => ?_⟩
        match n, tn, G, hr, q with
        | 0, tn, _, _, _ => omega
        | n + 1, tn, G, hr, q =>
          refine ⟨behind t b, y, rfl, hy, k3, by omega, by omega, fun p6 ws H6 g6 n6 e6 a6 => ?_⟩
          have e46 := (g5.trans g6) _ _ (upd_same (H := H3) (a := p4) (o := .lst [x]))
          have lw := primesF_length n (behind t b)
          have a6 : TbVs K H6 (primesF n (behind t b)) ws := a6
          refine ⟨p4, p6, [x], ws, rfl, rfl, e46, e6, Nat.le_of_lt (line_small (by rw [a6.1]; show 1 + _ ≤ _; omega)), fun p7 hp7 => ?_⟩
          have s7 := snew hp7 (.lst ([x] ++ ws))
          have u := ((s4.trans g5).trans g6).trans s7
          refine q p7 _ _ (g13.trans u) ((g13.trans ((s4.trans g5).trans g6)).free hp7) upd_same ?_
          show TbVs K _ (primesF (n + 1) t) _
          rw [primesF_cons hc]
          exact .cons (hx.same u) (TbVs.same s7 a6)
end
end Lp

set_option maxRecDepth 100000
/-! The law's draws. -/
namespace Lp
open PySem PySem.Spec PyProof.Rows L2

abbrev sSrc : Stmt := topS 25
abbrev sPick : Stmt := topS 26
abbrev sOf : Stmt := topS 27
abbrev sShp : Stmt := topS 29
abbrev sTbl : Stmt := topS 30
theorem scSrc : FnScope ["_law_script", "_law_mixed", "_law_cell"] ["_law_script"] (defScope sSrc) := ⟨rfl, rfl, rfl, by decide +kernel, rfl, by decide +kernel, by decide +kernel⟩
theorem scPick : FnScope ["_law_source_here", "_law_many", "_law_left", "_law_mixed"] ["_law_source_here", "_law_many"] (defScope sPick) := ⟨rfl, rfl, rfl, by decide +kernel, rfl, by decide +kernel, by decide +kernel⟩
theorem scOf : FnScope ["_law_source_here", "_law_some"] ["_law_source_here", "_law_some"] (defScope sOf) := ⟨rfl, rfl, rfl, by decide +kernel, rfl, by decide +kernel, by decide +kernel⟩
theorem scShp : FnScope ["_law_source_here", "_law_size_here", "_law_at"] ["_law_source_here", "_law_size_here"] (defScope sShp) := ⟨rfl, rfl, rfl, by decide +kernel, rfl, by decide +kernel, by decide +kernel⟩
theorem scTbl : FnScope ["_law_source_here", "_law_size_here", "_law_m"] ["_law_source_here", "_law_size_here"] (defScope sTbl) := ⟨rfl, rfl, rfl, by decide +kernel, rfl, by decide +kernel, by decide +kernel⟩

/-! ### the source: a dict at d, its cells at c -/
abbrev kC : Key := Sum.inr "cells"
abbrev kL : Key := Sum.inr "left"
abbrev kM : Key := Sum.inr "mixed"
abbrev kT : Key := Sum.inr "turn"
structure Src (H : Hp) (d c : Addr) : Prop where
  ex : ∃ (kvs : List (Key × V)) (cs : List Int) (l m t : Int), H d = some (.dK kvs) ∧ kvs.length ≤ 4 ∧ valV kvs kC = some (.ref c) ∧ valV kvs kL = some (.int l) ∧ valV kvs kM = some (.int m) ∧ valV kvs kT = some (.int t) ∧
    H c = some (.lst (cs.map V.int)) ∧ (∀ x ∈ cs, 0 ≤ x) ∧ 0 ≤ l
/-- all but the source as it was -/
def Kp (d c : Addr) (H H' : Hp) : Prop := ∀ q o, q ≠ d → q ≠ c → H q = some o → H' q = some o
section
variable {d c : Addr} {H H1 H2 : Hp}
theorem Kp.refl : Kp d c H H := fun _ _ _ _ h => h
theorem Kp.trans (a : Kp d c H H1) (b : Kp d c H1 H2) : Kp d c H H2 := fun q o n m h => b q o n m (a q o n m h)
theorem Kp.of (h : Same H H1) : Kp d c H H1 := fun q o _ _ e => h q o e
theorem Src.same (h : Same H H1) (s : Src H d c) : Src H1 d c := by
  obtain ⟨kvs, cs, l, m, t, e, r1, r2, r3, r4, r5, ec, r6⟩ := s.ex
  exact ⟨kvs, cs, l, m, t, h _ _ e, r1, r2, r3, r4, r5, h _ _ ec, r6⟩
theorem Src.dne (s : Src H d c) {p : Addr} (h : H p = none) : p ≠ d ∧ p ≠ c := by
  obtain ⟨kvs, cs, l, m, t, e, r1, r2, r3, r4, r5, ec, r6⟩ := s.ex
  exact ⟨(ne_of_none e h).symm, (ne_of_none ec h).symm⟩
theorem Kp.ts (s : Src H d c) (k : Kp d c H H1) : TS H H1 := fun a ys r => by
  obtain ⟨kvs, cs, l, m, t, e, r1, r2, r3, r4, r5, ec, r6⟩ := s.ex
  have n1 : a ≠ d := fun z => by
    subst z
    rcases r with r | ⟨u, r⟩ <;> (rw [e] at r; cases r)
  have n2 : a ≠ c := fun z => by
    subst z
    rcases r with r | ⟨u, r⟩ <;> (rw [ec] at r; cases r)
  rcases r with r | ⟨u, r⟩
  · exact .inl (k _ _ n1 n2 r)
  · exact .inr ⟨u, k _ _ n1 n2 r⟩
/-- what was made after the start is changed -/
theorem Kp.put (k : Kp d c H H1) {p : Addr} (n : H p = none) (o : HO) : Kp d c H (upd H1 p o) := fun q u a b h => by
  rw [upd_ne (ne_of_none h n)]
  exact k q u a b h
theorem Src.upd (s : Src H d c) {p : Addr} (n : p ≠ d ∧ p ≠ c) (o : HO) : Src (upd H p o) d c := by
  obtain ⟨kvs, cs, l, m, t, e, r1, r2, r3, r4, r5, ec, r6⟩ := s.ex
  exact ⟨kvs, cs, l, m, t, by rw [upd_ne n.1.symm]; exact e, r1, r2, r3, r4, r5, by rw [upd_ne n.2.symm]; exact ec, r6⟩
end
theorem put_length {κ : Type} [DecidableEq κ] {kvs : List (κ × V)} {k : κ} {v y : V} (h : valV kvs k = some v) : (putK kvs k y).length = kvs.length := by
  have q : (kvs.any fun kv => decide (kv.1 = k)) = true := by
    rw [valV_any, h]
    rfl
  unfold putK
  rw [if_pos q, List.length_map]

section
variable {P : Program} {w : World} {K : PySem.W.Frag} {mg : Str → Option Value} {base : Heap}
/-! ### _law_source -/
def spSrc (K : PySem.W.Frag) : Sp := fun vs H Q _ => ∃ (a : Addr) (ns : List Int), vs = [.ref a] ∧ SqL K H a (ns.map V.int) ∧ ns.length ≤ 63 ∧ ∀ d c H', Same H H' → Src H' d c → Q (.ref d) H'
theorem ok_src {f : Addr} {fd : FuncData} (F : Fun K "_law_source" "_law_source" sSrc f fd) (mi : mg "int" = none) (ma : mg "abs" = none) : FnOk P w K mg base CX0 1 f fd ["_law_script"] (spSrc K) := by
  refine F.ok scSrc (fun vs H Q E h => ?_) (fun cdv A outer s H vs Q E hr h => ?_)
  · obtain ⟨a, ns, rfl, _⟩ := h
    rfl
  obtain ⟨a, ns, rfl, hS, h63, q⟩ := h
  refine ⟨_, pss_cons (ps_set (i := 1) scSrc.nd rfl (.inl rfl) pe_int)
    (pss_cons (ps_for PassesOwn.never rfl (pi_list (pv 0)) (pg_name (i := 2) scSrc.nd rfl (.inl rfl))
      (pss_one (ps_set (i := 1) scSrc.nd rfl (.inl rfl) (pe_op op_mod (pe_callTy call_int1 (by rfl) mi PyProof.Rows.boot_int (pa_cons (pe_op op_add (pe_op op_add (pe_op op_mul (pv 1) pe_int) (pe_op op_mul (pv 2) pe_int)) pe_int) pa_nil)) pe_int))))
    (pss_one (ps_ret (pe_disp (pps_cons pe_str (pe_revL (pe_lc (own := [("_law_cell", 2)]) (g := gName 2) (tt := tYes) rfl scSrc.nd (pi_list (pv 0)) (blkOk_by (N := ["_law_script", "_law_mixed", "_law_cell"]) (sc := defScope sSrc) (by decide +kernel))
        (fun _ _ _ _ _ => pg_name (i := 2) scSrc.nd rfl (.inl rfl)) (fun _ _ _ _ _ => pts_nil) (fun _ _ _ _ _ => pe_callB call_abs (by rfl) ma boot_abs (pa_cons (pv 2) pa_nil))))
      (pps_cons pe_str pe_int (pps_cons pe_str (pv 1) (pps_cons pe_str pe_int pps_nil)))) (by rfl) (by rfl) (fun z => by cases z) (by decide))))), ?_⟩
  refine ⟨_, rfl, a, rfl, ⟨_, hS⟩, ?_⟩
  refine for_list (K := K) (a := a) (xs := ns.map V.int) (fun i σ H' => H' = H ∧ ∃ (m : Int) (y : Option V), σ = [some (.ref a), some (.int m), y]) ⟨rfl, 11, none, rfl⟩ (fun i σ H1 _ hP => by rw [hP.1]; exact hS) (fun i x σ H1 hx hP => ?_) (fun σ H1 hP => ?_)
  · obtain ⟨rfl, m, y, rfl⟩ := hP
    rw [List.getElem?_map] at hx
    obtain ⟨n, hn, rfl⟩ := Option.map_eq_some_iff.mp hx
    refine ⟨_, rfl, _, _, rfl, rfl, .inr ⟨by decide, by decide⟩, _, rfl, _, _, rfl, rfl, .inr ⟨by decide, by decide⟩, _, _, rfl, rfl, _, _, rfl, rfl, .inl ⟨_, rfl, _, _, rfl, rfl, (by show (0 : Int) < _; decide), rfl, _, _, rfl⟩⟩
  · obtain ⟨rfl, m, y, rfl⟩ := hP
    intro d hd
    have s1 := snew hd (.dK [])
    refine ⟨_, rfl, a, rfl, ⟨_, s1.seq hS⟩, fun D hD => ?_⟩
    refine lc_list (K := K) (a := a) (xs := ns.map V.int) (fun j H' => Same (upd H1 d (.dK [])) H' ∧ H' D = some (.lst (((ns.take j).map fun n : Int => if n < 0 then -n else n).map V.int))) ⟨snew hD _, upd_same⟩ (fun j H3 _ hP => hP.1.seq (s1.seq hS)) (fun j v H3 hj hP => ?_) (fun H3 hP => ?_)
    · obtain ⟨g3, eD⟩ := hP
      rw [List.getElem?_map] at hj
      obtain ⟨n, hn, rfl⟩ := Option.map_eq_some_iff.mp hj
      refine ⟨rfl, tyes ?_⟩
      refine ⟨_, rfl, _, rfl, _, eD, ?_, sput g3 hD _, ?_⟩
      · rw [List.length_map, List.length_map, List.length_take]
        exact line_small (by omega)
      · rw [upd_same, List.take_add_one, hn, List.map_append, List.map_append]
        rfl
    · obtain ⟨g3, eD⟩ := hP
      rw [List.take_of_length_le (by rw [List.length_map]; exact Nat.le_refl _)] at eD
      refine ⟨D, _, rfl, SqL.of eD, fun p hp => ?_⟩
      have s4 := snew hp (.lst (((ns.map fun n : Int => if n < 0 then -n else n).map V.int).reverse))
      have ed := (g3.trans s4) _ _ (upd_same (H := H1) (a := d) (o := .dK []))
      refine ⟨_, rfl, ed, [(kC, .ref p), (kL, .int 1), (kM, .int m), (kT, .int 0)], rfl, (by show 4 ≤ 15; decide), ?_⟩
      have g4 := g3.trans s4
      have pd : p ≠ d := (ne_of_none (g3 _ _ (upd_same (H := H1) (a := d) (o := .dK []))) hp).symm
      refine q d p _ (sput (s1.trans g4) hd _) ⟨_, (ns.map fun n : Int => if n < 0 then -n else n).reverse, 1, m, 0, upd_same, length_mergeK _ _, ?_, ?_, ?_, ?_, ?_, ?_, by decide⟩
      · show valV (putK (putK (putK (putK [] kC (.ref p)) kL (.int 1)) kM (.int m)) kT (.int 0)) kC = _
        rw [valV_put, if_neg (by decide +kernel), valV_put, if_neg (by decide +kernel), valV_put, if_neg (by decide +kernel), valV_put, if_pos rfl]
      · show valV (putK (putK (putK (putK [] kC (.ref p)) kL (.int 1)) kM (.int m)) kT (.int 0)) kL = _
        rw [valV_put, if_neg (by decide +kernel), valV_put, if_neg (by decide +kernel), valV_put, if_pos rfl]
      · show valV (putK (putK (putK (putK [] kC (.ref p)) kL (.int 1)) kM (.int m)) kT (.int 0)) kM = _
        rw [valV_put, if_neg (by decide +kernel), valV_put, if_pos rfl]
      · show valV (putK (putK (putK (putK [] kC (.ref p)) kL (.int 1)) kM (.int m)) kT (.int 0)) kT = _
        rw [valV_put, if_pos rfl]
      · rw [upd_ne pd, upd_same, List.map_reverse]
      · intro x hx
        obtain ⟨n, _, rfl⟩ := List.mem_map.mp (List.mem_reverse.mp hx)
        split <;> omega

/-! ### _law_pick -/
def spPick : Sp := fun vs H Q _ => ∃ (d c : Addr) (n : Nat), vs = [.ref d, .int n] ∧ Src H d c ∧ 1 ≤ n ∧ n ≤ 1000 ∧ ∀ (r : Nat) H', r < n → Kp d c H H' → Src H' d c → Q (.int r) H'
/-- a number is stored in the source -/
theorem src_put {H : Hp} {d c : Addr} {kvs : List (Key × V)} {cs : List Int} {l m t : Int} (e : H d = some (.dK kvs)) (e4 : kvs.length ≤ 4) (eC : valV kvs kC = some (.ref c)) (eL : valV kvs kL = some (.int l)) (eM : valV kvs kM = some (.int m)) (eT : valV kvs kT = some (.int t))
    (ec : H c = some (.lst (cs.map V.int))) (hc : ∀ x ∈ cs, 0 ≤ x) (hl : 0 ≤ l) {k : Key} {z : Int} (hk : k = kL ∧ 0 ≤ z ∨ k = kM ∨ k = kT) : DPut H d (kV k) (.int z) (upd H d (.dK (putK kvs k (.int z)))) ∧ Kp d c H (upd H d (.dK (putK kvs k (.int z)))) ∧
      ∃ l' m' t', (upd H d (.dK (putK kvs k (.int z)))) d = some (.dK (putK kvs k (.int z))) ∧ (putK kvs k (.int z)).length ≤ 4 ∧ valV (putK kvs k (.int z)) kC = some (.ref c) ∧ valV (putK kvs k (.int z)) kL = some (.int l') ∧
        valV (putK kvs k (.int z)) kM = some (.int m') ∧ valV (putK kvs k (.int z)) kT = some (.int t') ∧ (upd H d (.dK (putK kvs k (.int z)))) c = some (.lst (cs.map V.int)) ∧ 0 ≤ l' ∧ (k = kL → l' = z) ∧ (k = kM → m' = z) ∧ (k = kT → t' = z) := by
  have cd : c ≠ d := fun z => by
    subst z
    rw [e] at ec
    cases ec
  refine ⟨DPut.k e (line_small (by omega)), fun q o n1 n2 h => by rw [upd_ne n1]; exact h, ?_⟩
  have n1 : kC ≠ kL := by decide +kernel
  have n2 : kC ≠ kM := by decide +kernel
  have n3 : kC ≠ kT := by decide +kernel
  have n4 : kL ≠ kM := by decide +kernel
  have n5 : kL ≠ kT := by decide +kernel
  have n6 : kM ≠ kT := by decide +kernel
  rcases hk with ⟨rfl, hz⟩ | rfl | rfl
  · refine ⟨z, m, t, upd_same, by rw [put_length eL]; exact e4, ?_, ?_, ?_, ?_, by rw [upd_ne cd]; exact ec, hz, fun _ => rfl, fun x => absurd x n4, fun x => absurd x n5⟩
    · rw [valV_put, if_neg n1]; exact eC
    · rw [valV_put, if_pos rfl]
    · rw [valV_put, if_neg n4.symm]; exact eM
    · rw [valV_put, if_neg n5.symm]; exact eT
  · refine ⟨l, z, t, upd_same, by rw [put_length eM]; exact e4, ?_, ?_, ?_, ?_, by rw [upd_ne cd]; exact ec, hl, fun x => absurd x n4.symm, fun _ => rfl, fun x => absurd x n6⟩
    · rw [valV_put, if_neg n2]; exact eC
    · rw [valV_put, if_neg n4]; exact eL
    · rw [valV_put, if_pos rfl]
    · rw [valV_put, if_neg n6.symm]; exact eT
  · refine ⟨l, m, z, upd_same, by rw [put_length eT]; exact e4, ?_, ?_, ?_, ?_, by rw [upd_ne cd]; exact ec, hl, fun x => absurd x n5.symm, fun x => absurd x n6.symm, fun _ => rfl⟩
    · rw [valV_put, if_neg n3]; exact eC
    · rw [valV_put, if_neg n5]; exact eL
    · rw [valV_put, if_neg n6]; exact eM
    · rw [valV_put, if_pos rfl]
theorem dget {H : Hp} {d : Addr} {kvs : List (Key × V)} {k : Key} {v : V} (e : H d = some (.dK kvs)) (h : valV kvs k = some v) : DGet H d (kV k) (some v) := by
  rw [← h]
  exact DGet.k e
theorem ok_pick {f : Addr} {fd : FuncData} (F : Fun K "_law_pick" "_law_pick" sPick f fd) (ml : mg "len" = none) (mx : mg "max" = none) (mi : mg "int" = none) : FnOk P w K mg base CX0 1 f fd ["_law_source_here", "_law_many"] spPick := by
  refine F.ok scPick (fun vs H Q E h => ?_) (fun cdv A outer s H vs Q E hr h => ?_)
  · obtain ⟨d, c, n, rfl, _⟩ := h
    rfl
  obtain ⟨d, c, n, rfl, hs, n1, n2, q⟩ := h
  refine ⟨_, pss_cons (ps_while PassesOwn.never (PW.pt (pw_and (pt_cmpR op_gt (pv 1) pe_int (nomark _)) (pw_and (pt_cmpR op_lt (pe_dget (hu_of hr) (pv 0) pe_str (fun _ _ => rfl)) pe_int (nomark _))
        (pw_and1 (pt_cmpR op_gt (pe_callB call_len_seq (by rfl) ml PySem.boot_len (pa_cons (pe_dget (hu_of hr) (pv 0) pe_str (fun _ _ => rfl)) pa_nil)) pe_int (nomark _))))))
      (pss_one (ps_dput (hu_of hr) (pv 0) pe_str (pe_bm0 PySem.F.plainAttrs_list PySem.F.slot_list_pop PySem.F.type_list_pop mt_pop (pe_dget (hu_of hr) (pv 0) pe_str (fun _ _ => rfl))) rfl)))
    (pss_cons (ps_set (i := 2) scPick.nd rfl (.inl rfl) (pe_dget (hu_of hr) (pv 0) pe_str (fun _ _ => rfl)))
    (pss_cons (ps_if (PW.pt (pw_or (pt_cmpR op_lt (pv 1) pe_int (nomark _)) (pw_or1 (pt_cmpR op_gt (pv 2) pe_int (nomark _)))))
      (pss_cons (ps_dput (hu_of hr) (pv 0) pe_str (pe_op op_fdiv (pv 2) (pe_callB (call_max2 rfl) (by rfl) mx boot_max (pa_cons pe_int (pa_cons (pv 1) pa_nil)))) rfl)
      (pss_one (ps_ret (pe_op op_mod (pe_callTy call_int1 (by rfl) mi PyProof.Rows.boot_int (pa_cons (pv 2) pa_nil)) (pe_callB (call_max2 rfl) (by rfl) mx boot_max (pa_cons pe_int (pa_cons (pv 1) pa_nil)))))))
      pss_nil)
    (pss_cons (ps_dput (hu_of hr) (pv 0) pe_str (pe_op op_add (pe_dget (hu_of hr) (pv 0) pe_str (fun _ _ => rfl)) pe_int) rfl)
    (pss_cons (ps_set (i := 3) scPick.nd rfl (.inl rfl) (pe_op op_mod (pe_callTy call_int1 (by rfl) mi PyProof.Rows.boot_int (pa_cons (pe_op op_add (pe_dget (hu_of hr) (pv 0) pe_str (fun _ _ => rfl)) (pe_op op_mul (pe_dget (hu_of hr) (pv 0) pe_str (fun _ _ => rfl)) pe_int)) pa_nil)) pe_int))
    (pss_cons (ps_set (i := 3) scPick.nd rfl (.inl rfl) (pe_op op_mod (pe_callTy call_int1 (by rfl) mi PyProof.Rows.boot_int (pa_cons (pe_op op_add (pe_op op_mul (pv 3) (pv 3)) (pe_op op_mul (pe_dget (hu_of hr) (pv 0) pe_str (fun _ _ => rfl)) pe_int)) pa_nil)) pe_int))
    (pss_cons (ps_dput (hu_of hr) (pv 0) pe_str (pv 3) rfl)
    (pss_one (ps_ret (pe_op op_mod (pe_callTy call_int1 (by rfl) mi PyProof.Rows.boot_int (pa_cons (pe_op op_fdiv (pv 3) pe_int) pa_nil)) (pv 1))))))))))
    , ?_⟩
  obtain ⟨kvs, cs, l, m, t, e, e4, eC, eL, eM, eT, ec, hc, hl⟩ := hs.ex
  -- the cells are used up
  refine ⟨fun j σ H' => σ = [some (.ref d), some (.int n), none, none] ∧ Kp d c H H' ∧ ∃ (kvs : List (Key × V)) (cs : List Int) (l m t : Int), cs.length = j ∧ H' d = some (.dK kvs) ∧ kvs.length ≤ 4 ∧ valV kvs kC = some (.ref c) ∧ valV kvs kL = some (.int l) ∧ valV kvs kM = some (.int m) ∧
      valV kvs kT = some (.int t) ∧ H' c = some (.lst (cs.map V.int)) ∧ (∀ x ∈ cs, 0 ≤ x) ∧ 0 ≤ l, ⟨cs.length, rfl, Kp.refl, kvs, cs, l, m, t, rfl, e, e4, eC, eL, eM, eT, ec, hc, hl⟩, fun j σ H1 hW => ?_⟩
  clear e e4 eC eL eM eT ec hc hl
  obtain ⟨rfl, k1, kvs, cs, l, m, t, rfl, e, e4, eC, eL, eM, eT, ec, hc, hl⟩ := hW
  -- what follows the loop
  have after : ∀ y : Unit, (tSeq (tAsg (tDGet (tVar 0) (tC (.str "left"))) (gName 2))
    (tSeq (tIfS (tOr (tTest (tOp (rI0 fun i j => .bl (decide (i < j))) (tVar 1) (tC (.int 2)))) (tTest (tOp (rI0 fun i j => .bl (decide (j < i))) (tVar 2) (tC (.int 1)))))
      (tSeq (sDPut (tVar 0) (tC (.str "left")) (tOp (rI CDiv fun i j => .int (i / j)) (tVar 2) (tCB (fun xs H Q => ∃ i j, xs = [V.int i, V.int j] ∧ Q (.int (if j > i then j else i)) H) (tCons (tC (.int 1)) (tCons (tVar 1) tNil)))))
      (tRet (tOp (rI (fun _ j => 0 < j) fun i j => .int (i % j)) (tCB (fun xs H Q => (∃ i, xs = [V.int i] ∧ Q (.int i) H) ∨ ∃ k, xs = [V.bl k] ∧ Q (.int (if k then 1 else 0)) H) (tCons (tVar 2) tNil))
        (tCB (fun xs H Q => ∃ i j, xs = [V.int i, V.int j] ∧ Q (.int (if j > i then j else i)) H) (tCons (tC (.int 1)) (tCons (tVar 1) tNil)))))) tNext)
    (tSeq (sDPut (tVar 0) (tC (.str "turn")) (tOp (rI0 fun i j => .int (i + j)) (tDGet (tVar 0) (tC (.str "turn"))) (tC (.int 1))))
    (tSeq (tAsg (tOp (rI (fun _ j => 0 < j) fun i j => .int (i % j)) (tCB (fun xs H Q => (∃ i, xs = [V.int i] ∧ Q (.int i) H) ∨ ∃ k, xs = [V.bl k] ∧ Q (.int (if k then 1 else 0)) H) (tCons (tOp (rI0 fun i j => .int (i + j)) (tDGet (tVar 0) (tC (.str "mixed")))
        (tOp (rI CMul fun i j => .int (i * j)) (tDGet (tVar 0) (tC (.str "turn"))) (tC (.int 104729)))) tNil)) (tC (.int 998244353))) (gName 3))
    (tSeq (tAsg (tOp (rI (fun _ j => 0 < j) fun i j => .int (i % j)) (tCB (fun xs H Q => (∃ i, xs = [V.int i] ∧ Q (.int i) H) ∨ ∃ k, xs = [V.bl k] ∧ Q (.int (if k then 1 else 0)) H) (tCons (tOp (rI0 fun i j => .int (i + j)) (tOp (rI CMul fun i j => .int (i * j)) (tVar 3) (tVar 3))
        (tOp (rI CMul fun i j => .int (i * j)) (tDGet (tVar 0) (tC (.str "turn"))) (tC (.int 17)))) tNil)) (tC (.int 2147483647))) (gName 3))
    (tSeq (sDPut (tVar 0) (tC (.str "mixed")) (tVar 3))
    (tRet (tOp (rI (fun _ j => 0 < j) fun i j => .int (i % j)) (tCB (fun xs H Q => (∃ i, xs = [V.int i] ∧ Q (.int i) H) ∨ ∃ k, xs = [V.bl k] ∧ Q (.int (if k then 1 else 0)) H) (tCons (tOp (rI CDiv fun i j => .int (i / j)) (tVar 3) (tC (.int 16))) tNil)) (tVar 1)))))))))
      { nx := fun _ H' => Q .non H', rt := Q } [some (.ref d), some (.int n), none, none] H1 := fun _ => by
    have emax : (if ((n : Nat) : Int) > 1 then ((n : Nat) : Int) else 1) = ((n : Nat) : Int) := by split <;> omega
    have fin1 : ∀ (z : Int), ∃ r : Nat, z % ((n : Nat) : Int) = ((r : Nat) : Int) ∧ r < n := fun z => by
      have h1 := Int.emod_nonneg z (show ((n : Nat) : Int) ≠ 0 by omega)
      have h2 := Int.emod_lt_of_pos z (show (0 : Int) < ((n : Nat) : Int) by omega)
      exact ⟨(z % ((n : Nat) : Int)).toNat, by omega, by omega⟩
    refine ⟨_, rfl, d, _, rfl, dget (k := kL) e eL, ?_⟩
    have small : (tSeq (sDPut (tVar 0) (tC (.str "left")) (tOp (rI CDiv fun i j => .int (i / j)) (tVar 2) (tCB (fun xs H Q => ∃ i j, xs = [V.int i, V.int j] ∧ Q (.int (if j > i then j else i)) H) (tCons (tC (.int 1)) (tCons (tVar 1) tNil)))))
      (tRet (tOp (rI (fun _ j => 0 < j) fun i j => .int (i % j)) (tCB (fun xs H Q => (∃ i, xs = [V.int i] ∧ Q (.int i) H) ∨ ∃ k, xs = [V.bl k] ∧ Q (.int (if k then 1 else 0)) H) (tCons (tVar 2) tNil))
        (tCB (fun xs H Q => ∃ i j, xs = [V.int i, V.int j] ∧ Q (.int (if j > i then j else i)) H) (tCons (tC (.int 1)) (tCons (tVar 1) tNil)))))) { nx := fun _ H' => Q .non H', rt := Q } [some (.ref d), some (.int n), some (.int l), none] H1 := by
      obtain ⟨p1, p2, l', m', t', x1, x2, x3, x4, x5, x6, x7, x8, _⟩ := src_put e e4 eC eL eM eT ec hc hl (k := kL) (z := l / (if ((n : Nat) : Int) > 1 then ((n : Nat) : Int) else 1)) (.inl ⟨rfl, by
        rw [emax]
        exact Int.ediv_nonneg hl (by omega)⟩)
      refine ⟨_, rfl, _, rfl, _, _, rfl, _, _, rfl, rfl, ⟨by rw [emax]; omega, by rw [emax]; omega⟩, _, rfl, d, _, rfl, p1, ?_⟩
      refine ⟨_, rfl, .inl ⟨_, rfl, _, rfl, _, _, rfl, _, _, rfl, rfl, (by rw [emax]; omega), ?_⟩⟩
      obtain ⟨r, hr1, hr2⟩ := fin1 l
      refine qint (Q := Q) (q r _ hr2 (k1.trans p2) ⟨_, cs, l', m', t', x1, x2, x3, x4, x5, x6, x7, hc, x8⟩) ?_
      rw [emax]
      exact hr1
    refine ⟨_, rfl, _, _, rfl, rfl, _, rfl, ite2 (fun _ => small) (fun _ => ⟨_, rfl, _, _, rfl, rfl, _, rfl, ite2 (fun _ => small) (fun _ => ?_)⟩)⟩
    -- a number mixed anew
    obtain ⟨p1, p2, l1, m1, t1, x1, x2, x3, x4, x5, x6, x7, x8, _⟩ := src_put e e4 eC eL eM eT ec hc hl (k := kT) (z := t + 1) (.inr (.inr rfl))
    refine ⟨_, rfl, d, _, rfl, dget (k := kT) e eT, _, _, rfl, rfl, _, rfl, d, _, rfl, p1, ?_⟩
    refine ⟨_, rfl, d, _, rfl, dget (k := kM) x1 x5, _, rfl, d, _, rfl, dget (k := kT) x1 x6, _, _, rfl, rfl, .inr ⟨by decide, by decide⟩, _, _, rfl, rfl, .inl ⟨_, rfl, _, _, rfl, rfl, (by show (0 : Int) < _; decide), ?_⟩⟩
    have b1 := Int.emod_nonneg (m1 + t1 * 104729) (show (998244353 : Int) ≠ 0 by decide)
    have b2 := Int.emod_lt_of_pos (m1 + t1 * 104729) (show (0 : Int) < 998244353 by decide)
    refine ⟨_, rfl, _, rfl, _, _, rfl, rfl, .inl ⟨by omega, by omega⟩, _, rfl, d, _, rfl, dget (k := kT) x1 x6, _, _, rfl, rfl, .inr ⟨by decide, by decide⟩, _, _, rfl, rfl, .inl ⟨_, rfl, _, _, rfl, rfl, (by show (0 : Int) < _; decide), ?_⟩⟩
    generalize hz : ((m1 + t1 * 104729) % 998244353 * ((m1 + t1 * 104729) % 998244353) + t1 * 17) % 2147483647 = z
    obtain ⟨p1', p2', l2, m2, t2, y1, y2, y3, y4, y5, y6, y7, y8, _⟩ := src_put x1 x2 x3 x4 x5 x6 x7 hc x8 (k := kM) (z := z) (.inr (.inl rfl))
    subst hz
    refine ⟨_, rfl, _, rfl, d, _, rfl, p1', ?_⟩
    refine ⟨_, rfl, _, _, rfl, rfl, ⟨by decide, by decide⟩, .inl ⟨_, rfl, _, rfl, _, _, rfl, rfl, (by show (0 : Int) < ((n : Nat) : Int); omega), ?_⟩⟩
    obtain ⟨r, hr1, hr2⟩ := fin1 (((m1 + t1 * 104729) % 998244353 * ((m1 + t1 * 104729) % 998244353) + t1 * 17) % 2147483647 / 16)
    exact qint (Q := Q) (q r _ hr2 ((k1.trans p2).trans p2') ⟨_, cs, l2, m2, t2, y1, y2, y3, y4, y5, y6, y7, hc, y8⟩) hr1
  refine ⟨_, rfl, _, _, rfl, rfl, _, rfl, ite2 (fun _ => ?_) (fun _ => after ())⟩
  refine ⟨_, rfl, d, _, rfl, dget (k := kL) e eL, _, _, rfl, rfl, _, rfl, ite2 (fun _ => ?_) (fun _ => after ())⟩
  refine ⟨_, rfl, d, _, rfl, dget (k := kC) e eC, c, _, rfl, .inl (SqL.of ec), _, _, rfl, rfl, _, rfl, ite2 (fun hpos => ?_) (fun _ => after ())⟩
  have hlen : 0 < cs.length := by
    have := of_decide_eq_true hpos
    rw [List.length_map] at this
    omega
  refine ⟨fun σ' H' => σ' = [some (.ref d), some (.int n), none, none] ∧ Kp d c H H' ∧ ∃ (kvs : List (Key × V)) (l m t : Int), H' d = some (.dK kvs) ∧ kvs.length ≤ 4 ∧ valV kvs kC = some (.ref c) ∧ valV kvs kL = some (.int l) ∧ valV kvs kM = some (.int m) ∧
      valV kvs kT = some (.int t) ∧ H' c = some (.lst (cs.dropLast.map V.int)) ∧ 0 ≤ l, fun σ' H' hN => ?_, ?_⟩
  · obtain ⟨rfl, k2, kvs', l', m', t', x1, x2, x3, x4, x5, x6, x7, x8⟩ := hN
    refine ⟨cs.dropLast.length, by rw [List.length_dropLast]; omega, rfl, k2, kvs', cs.dropLast, l', m', t', rfl, x1, x2, x3, x4, x5, x6, x7, fun x hx => hc x ((List.dropLast_sublist cs).subset hx), x8⟩
  · have cd : c ≠ d := fun z => by
      subst z
      rw [e] at ec
      cases ec
    have hz : cs.length - 1 < cs.length := by omega
    have hlast : (cs.map V.int)[(cs.map V.int).length - 1]? = some (.int cs[cs.length - 1]) := by
      rw [List.length_map, List.getElem?_map, List.getElem?_eq_getElem hz]
      rfl
    have e2 : (upd H1 c (.lst (cs.map V.int).dropLast)) d = some (.dK kvs) := by rw [upd_ne cd.symm]; exact e
    have ec2 : (upd H1 c (.lst (cs.map V.int).dropLast)) c = some (.lst (cs.dropLast.map V.int)) := by
      rw [upd_same, List.map_dropLast]
    obtain ⟨p1, p2, l', m', t', x1, x2, x3, x4, x5, x6, x7, x8, _⟩ := src_put e2 e4 eC eL eM eT ec2 (fun x hx => hc x ((List.dropLast_sublist cs).subset hx)) hl (k := kL) (z := cs[cs.length - 1]) (.inl ⟨rfl, hc _ (List.getElem_mem hz)⟩)
    refine ⟨_, rfl, d, _, rfl, dget (k := kC) e eC, .inl ⟨rfl, _, .inl (.inl ec)⟩, c, _, _, rfl, rfl, ec, hlast, _, rfl, d, _, rfl, p1, rfl, ?_, _, l', m', t', x1, x2, x3, x4, x5, x6, x7, x8⟩
    refine k1.trans (Kp.trans (fun q o a b h => ?_) p2)
    rw [upd_ne b]
    exact h

/-! ### _law_of -/
def spOf : Sp := fun vs H Q _ => ∃ (d c pa : Addr) (xs : List V), vs = [.ref d, .ref pa] ∧ Src H d c ∧ pa ≠ d ∧ pa ≠ c ∧ H pa = some (.lst xs) ∧ 1 ≤ xs.length ∧ xs.length ≤ 1000 ∧ ∀ (i : Nat) v H', xs[i]? = some v → Kp d c H H' → Src H' d c → Q v H'
theorem ok_of {f fP : Addr} {fd fdP : FuncData} (F : Fun K "_law_of" "_law_of" sOf f fd) (DP : Df K mg "_law_pick" sPick ["_law_source_here", "_law_many"] fP fdP) (GP : FnOk P w K mg base CX0 1 fP fdP ["_law_source_here", "_law_many"] spPick) (ml : mg "len" = none) :
    FnOk P w K mg base CX0 2 f fd ["_law_source_here", "_law_some"] spOf := by
  refine F.ok scOf (fun vs H Q E h => ?_) (fun cdv A outer s H vs Q E hr h => ?_)
  · obtain ⟨d, c, pa, xs, rfl, _⟩ := h
    rfl
  obtain ⟨d, c, pa, xs, rfl, hs, nd, nc, ea, l1, l2, q⟩ := h
  refine ⟨_, pss_one (ps_ret (pe_ix ix_list (pv 1) (pcall DP GP hr (pa_cons (pv 0) (pa_cons (pe_callB call_len_seq (by rfl) ml PySem.boot_len (pa_cons (pv 1) pa_nil)) pa_nil))) (fun _ _ => rfl))), ?_⟩
  refine ⟨_, rfl, _, rfl, _, rfl, pa, xs, rfl, .inl (SqL.of ea), d, c, xs.length, rfl, hs, l1, l2, fun r H1 hr1 k1 s1 => ?_⟩
  exact ⟨pa, xs, _, _, rfl, rfl, SqL.of (k1 _ _ nd nc ea), atI_nat (List.getElem?_eq_getElem hr1), q r _ H1 (List.getElem?_eq_getElem hr1) k1 s1⟩
end
end Lp

set_option maxRecDepth 100000
/-! Drawn shapes and tables. -/
namespace Lp
open PySem PySem.Spec PyProof.Rows L2

abbrev sStir : Stmt := topS 40
abbrev sBent : Stmt := topS 41
abbrev sRet : Stmt := topS 42
abbrev NRet : List Str := ["_law_source_here", "_law_table_here", "_law_b", "_law_low", "_law_m", "_law_parts", "_law_begin", "_law_end"]
theorem scStir : FnScope ["_law_source_here", "_law_shape_here"] ["_law_source_here", "_law_shape_here"] (defScope sStir) := ⟨rfl, rfl, rfl, by decide +kernel, rfl, by decide +kernel, by decide +kernel⟩
theorem scBent : FnScope ["_law_source_here", "_law_table_here", "_law_m"] ["_law_source_here", "_law_table_here"] (defScope sBent) := ⟨rfl, rfl, rfl, by decide +kernel, rfl, by decide +kernel, by decide +kernel⟩
theorem scRet : FnScope NRet ["_law_source_here", "_law_table_here", "_law_b"] (defScope sRet) := ⟨rfl, rfl, rfl, by decide +kernel, rfl, by decide +kernel, by decide +kernel⟩

theorem nopart {σ : L2.St} {H : Hp} {Q : Option Int → Hp → Prop} (h : Q none H) : tNoPart σ H Q := h
/-- tables put together -/
theorem cat_tb {K : PySem.W.Frag} {H : Hp} {t u : Tb} {x y : V} {Q : VK} (ht : TbV K H t x) (hu : TbV K H u y) (hl : t.length + u.length ≤ 1000) (q : ∀ v H', Same H H' → TbV K H' (t ++ u) v → Q v H') : rCatA K x y H Q := by
  obtain ⟨a, xs, rfl, ha, hA⟩ := ht
  obtain ⟨b, ys, rfl, hb, hB⟩ := hu
  refine ⟨a, b, xs, ys, rfl, rfl, ha, hb, Nat.le_of_lt (line_small (by rw [hA.1, hB.1]; omega)), fun e => ?_, fun _ e => ?_, fun _ _ p hp => ?_⟩
  · subst e
    obtain rfl : t = [] := List.eq_nil_of_length_eq_zero (by have := hA.1; simpa using this.symm)
    exact q _ _ (Same.refl _) ⟨b, ys, rfl, hb, hB⟩
  · subst e
    obtain rfl : u = [] := List.eq_nil_of_length_eq_zero (by have := hB.1; simpa using this.symm)
    rw [List.append_nil] at q
    exact q _ _ (Same.refl _) ⟨a, xs, rfl, ha, hA⟩
  · have s1 := snew hp (.tup (xs ++ ys))
    exact q _ _ s1 ⟨p, _, rfl, SqT.of upd_same, (ShVs.same s1 hA).append (ShVs.same s1 hB)⟩
/-- one entry exchanged -/
theorem swap_ok {t : Tb} (ok : Ok t) {m : Nat} (m2 : 2 ≤ m) (mn : m ≤ tsz t) {s : Sh} (hs : s.size = m) : Ok (t.take (m - 2) ++ [s] ++ t.drop (m - 1)) ∧ tsz (t.take (m - 2) ++ [s] ++ t.drop (m - 1)) = tsz t := by
  have lt : t.length + 1 = tsz t := rfl
  have e : tsz (t.take (m - 2) ++ [s] ++ t.drop (m - 1)) = tsz t := by
    unfold tsz at mn ⊢
    rw [List.length_append, List.length_append, List.length_take, List.length_drop]
    show min (m - 2) t.length + 1 + (t.length - (m - 1)) + 1 = t.length + 1
    omega
  refine ⟨⟨by rw [e]; exact ok.ne, fun k k1 k2 => ?_⟩, e⟩
  rw [e] at k2
  have hg := ent_get (t := t.take (m - 2) ++ [s] ++ t.drop (m - 1)) (m := k) k1 (by rw [e]; exact k2)
  have hg2 := ent_get (t := t) (m := k) k1 k2
  have ok2 := ok.sz k k1 k2
  have l1 : (t.take (m - 2)).length = m - 2 := by rw [List.length_take]; omega
  rcases Nat.lt_trichotomy k m with hk | hk | hk
  · rw [List.getElem?_append_left (by rw [List.length_append, l1]; show k - 2 < m - 2 + 1; omega), List.getElem?_append_left (by rw [l1]; omega), List.getElem?_take_of_lt (by omega), hg2] at hg
    rw [← Option.some.inj hg]
    exact ok2
  · subst hk
    rw [List.getElem?_append_left (by rw [List.length_append, l1]; show k - 2 < k - 2 + 1; omega), List.getElem?_append_right (by rw [l1]; exact Nat.le_refl _), l1, Nat.sub_self] at hg
    have hg : some s = _ := hg
    rw [← Option.some.inj hg]
    exact hs
  · rw [List.getElem?_append_right (by rw [List.length_append, l1]; show m - 2 + 1 ≤ k - 2; omega), List.getElem?_drop, List.length_append, l1] at hg
    have eix : m - 1 + (k - 2 - (m - 2 + [s].length)) = k - 2 := by
      show m - 1 + (k - 2 - (m - 2 + 1)) = k - 2
      omega
    rw [eix, hg2] at hg
    rw [← Option.some.inj hg]
    exact ok2

section
variable {P : Program} {w : World} {K : PySem.W.Frag} {mg : Str → Option Value} {base : Heap}
/-! ### _law_shape -/
def spShp (K : PySem.W.Frag) (n : Nat) : Sp := fun vs H Q _ => ∃ (d c : Addr) (k : Nat), vs = [.ref d, .int k] ∧ Src H d c ∧ 1 ≤ k ∧ k ≤ n ∧ ∀ s v H', Kp d c H H' → Src H' d c → ShV K H' s v → s.size = k → Q v H'
theorem ok_shp {f fP fO : Addr} {fd fdP fdO : FuncData} (D : Df K mg "_law_shape" sShp ["_law_source_here", "_law_size_here"] f fd) (DP : Df K mg "_law_pick" sPick ["_law_source_here", "_law_many"] fP fdP) (DO : Df K mg "_law_of" sOf ["_law_source_here", "_law_some"] fO fdO)
    (GP : FnOk P w K mg base CX0 1 fP fdP ["_law_source_here", "_law_many"] spPick) (GO : FnOk P w K mg base CX0 2 fO fdO ["_law_source_here", "_law_some"] spOf) : ∀ n, n ≤ 60 → FnOk P w K mg base CX0 (2 + n) f fd ["_law_source_here", "_law_size_here"] (spShp K n)
  | 0, _ => FnOk.mono (j := 0) (none_left fun vs H Q E h => by
    obtain ⟨d, c, k, _, _, h1, h2, _⟩ := h
    omega) (by omega)
  | n + 1, hn => by
    have G := ok_shp D DP DO GP GO n (by omega)
    have h2 : 2 ≤ 2 + n := Nat.le_add_right 2 n
    refine D.F.ok scShp (fun vs H Q E h => ?_) (fun cdv A outer s H vs Q E hr h => ?_)
    · obtain ⟨d, c, k, rfl, _⟩ := h
      rfl
    obtain ⟨d, c, k, rfl, hs, k1, kn, q⟩ := h
    refine ⟨_, pss_cons (ps_if (pt_cmpR op_eq (pv 1) pe_int (nomark _)) (pss_one (ps_ret (pe_tup pa_nil))) pss_nil)
      (pss_cons (ps_set (i := 2) scShp.nd rfl (.inl rfl) (pcall DO GO (hr.mono h2) (pa_cons (pv 0) (pa_cons (pe_lst (pa_cons (pe_op op_add pe_int (pcall DP GP (hr.mono (Nat.le_trans (by decide) h2)) (pa_cons (pv 0) (pa_cons (pe_op op_sub (pv 1) pe_int) pa_nil))))
        (pa_cons (pe_op op_add pe_int (pcall DP GP (hr.mono (Nat.le_trans (by decide) h2)) (pa_cons (pv 0) (pa_cons (pe_op op_sub (pv 1) pe_int) pa_nil)))) (pa_cons (pe_op op_fdiv (pv 1) pe_int) (pa_cons pe_int (pa_cons (pe_op op_sub (pv 1) pe_int) pa_nil)))))) pa_nil))))
      (pss_one (ps_ret (pe_tup (pa_cons (pcall D G hr (pa_cons (pv 0) (pa_cons (pv 2) pa_nil))) (pa_cons (pcall D G hr (pa_cons (pv 0) (pa_cons (pe_op op_sub (pv 1) (pv 2)) pa_nil))) pa_nil)))))), ?_⟩
    refine ⟨_, rfl, rfl, _, rfl, ite2 (fun e => ?_) (fun e => ?_)⟩
    · have e' : k = 1 := by
        have := V.int.inj (of_decide_eq_true e)
        omega
      subst e'
      exact ⟨Nat.zero_le _, fun p hp => q .o (.ref p) _ (Kp.of (snew hp _)) (hs.same (snew hp _)) ⟨p, rfl, SqT.of upd_same⟩ rfl⟩
    · have e' : k ≠ 1 := fun z => by
        subst z
        exact e (decide_eq_true rfl)
      have ek : ((k : Nat) : Int) - 1 = ((k - 1 : Nat) : Int) := by omega
      refine ⟨_, rfl, _, rfl, _, rfl, _, _, rfl, rfl, d, c, k - 1, ?_, hs, by omega, by omega, fun r1 H1 hr1 p1 s1 => ⟨_, _, rfl, rfl, ?_⟩⟩
      · show [V.ref d, V.int (((k : Nat) : Int) - 1)] = _
        rw [ek]
      refine ⟨_, rfl, _, rfl, _, _, rfl, rfl, d, c, k - 1, ?_, s1, by omega, by omega, fun r2 H2 hr2 p2 s2 => ⟨_, _, rfl, rfl, ?_⟩⟩
      · show [V.ref d, V.int (((k : Nat) : Int) - 1)] = _
        rw [ek]
      refine ⟨_, rfl, _, _, rfl, rfl, ⟨by decide, by decide⟩, _, rfl, _, _, rfl, rfl, Nat.le_of_lt (line_small (show 5 ≤ 100000 by decide)), fun p hp => ?_⟩
      have s3 := snew hp (.lst [V.int (1 + (r1 : Int)), V.int (1 + (r2 : Int)), V.int (((k : Nat) : Int) / 2), V.int 1, V.int (((k : Nat) : Int) - 1)])
      have nn := s2.dne hp
      refine ⟨d, c, p, _, rfl, s2.same s3, nn.1, nn.2, upd_same, by show 1 ≤ 5; decide, by show 5 ≤ 1000; decide, fun i v H4 hv p4 s4 => ?_⟩
      obtain ⟨j, rfl, j1, j2⟩ : ∃ j : Nat, v = V.int (j : Nat) ∧ 1 ≤ j ∧ j < k := by
        match i, hv with
        | 0, hv => exact ⟨1 + r1, by rw [← Option.some.inj hv]; congr 1, by omega, by omega⟩
        | 1, hv => exact ⟨1 + r2, by rw [← Option.some.inj hv]; congr 1, by omega, by omega⟩
        | 2, hv => exact ⟨k / 2, by rw [← Option.some.inj hv]; congr 1, by omega, by omega⟩
        | 3, hv => exact ⟨1, by rw [← Option.some.inj hv]; congr 1, by omega, by omega⟩
        | 4, hv => exact ⟨k - 1, (Option.some.inj (show some (V.int (((k : Nat) : Int) - 1)) = some v from hv)).symm.trans (congrArg V.int ek), by omega, by omega⟩
        | i + 5, hv => exact absurd hv (by simp)
      refine ⟨_, rfl, _, rfl, d, c, j, rfl, s4, j1, by omega, fun sl vl H5 p5 s5 hvl zl => ?_⟩
      refine ⟨_, rfl, _, rfl, _, rfl, _, _, rfl, rfl, d, c, k - j, ?_, s5, by omega, by omega, fun sr vr H6 p6 s6 hvr zr => ?_⟩
      · show [V.ref d, V.int (((k : Nat) : Int) - ((j : Nat) : Int))] = _
        rw [show ((k : Nat) : Int) - ((j : Nat) : Int) = ((k - j : Nat) : Int) by omega]
      refine ⟨Nat.le_of_lt (line_small (show 2 ≤ 100000 by decide)), fun p7 hp7 => ?_⟩
      have s7 := snew hp7 (.tup [vl, vr])
      refine q (.p sl sr) (.ref p7) _ ?_ (s6.same s7) ⟨p7, vl, vr, rfl, SqT.of upd_same, (hvl.mono (p6.ts s5)).same s7, hvr.same s7⟩ (by show sl.size + sr.size = k; omega)
      exact p1.trans (p2.trans ((Kp.of s3).trans (p4.trans (p5.trans (p6.trans (Kp.of s7))))))

/-! ### _law_table -/
def spTbl (K : PySem.W.Frag) : Sp := fun vs H Q _ => ∃ (d c : Addr) (k : Nat), vs = [.ref d, .int k] ∧ Src H d c ∧ 2 ≤ k ∧ k ≤ 60 ∧ ∀ t v H', Kp d c H H' → Src H' d c → TbV K H' t v → Ok t → tsz t = k → Q v H'
theorem ok_of_sizes {ss : List Sh} (h1 : 1 ≤ ss.length) (h : ∀ (j : Nat) s, ss[j]? = some s → s.size = j + 2) : Ok ss := by
  refine ⟨by unfold tsz; omega, fun m m1 m2 => ?_⟩
  have e := h _ _ (ent_get m1 m2)
  omega
theorem ok_tbl {f fS : Addr} {fd fdS : FuncData} (F : Fun K "_law_table" "_law_table" sTbl f fd) (DS : Df K mg "_law_shape" sShp ["_law_source_here", "_law_size_here"] fS fdS) (GS : FnOk P w K mg base CX0 62 fS fdS ["_law_source_here", "_law_size_here"] (spShp K 60))
    (mr : mg "range" = none) (mt : mg "tuple" = none) : FnOk P w K mg base CX0 63 f fd ["_law_source_here", "_law_size_here"] (spTbl K) := by
  refine F.ok scTbl (fun vs H Q E h => ?_) (fun cdv A outer s H vs Q E hr h => ?_)
  · obtain ⟨d, c, k, rfl, _⟩ := h
    rfl
  obtain ⟨d, c, k, rfl, hs, k2, k60, q⟩ := h
  refine ⟨_, pss_one (ps_ret (pe_callTy call_tuple_of (by rfl) mt PyProof.Rows.boot_tuple (pa_cons (pe_lc (own := [("_law_m", 2)]) (g := gName 2) (tt := tYes) rfl scTbl.nd (pi_range2 (by rfl) mr (pa_cons pe_int (pa_cons (pe_op op_add (pv 1) pe_int) pa_nil)))
    (blkOk_by (N := ["_law_source_here", "_law_size_here", "_law_m"]) (sc := defScope sTbl) (by decide +kernel)) (fun _ _ _ _ _ => pg_name (i := 2) scTbl.nd rfl (Or.inl rfl)) (fun _ _ _ _ _ => pts_nil)
    (fun _ _ _ _ _ => pcall DS GS hr (pa_cons (pv 0) (pa_cons (pv 2) pa_nil)))) pa_nil))), ?_⟩
  refine ⟨_, rfl, _, _, rfl, rfl, 2, _, rfl, ⟨by decide, by decide, by omega, by omega⟩, fun D hD => ?_⟩
  have en : (((k : Nat) : Int) + 1 - 2).toNat = k - 1 := by omega
  rw [en]
  have nn := hs.dne hD
  have s1 := snew hD (.lst [])
  refine lc_range (lo := 2) (n := k - 1) (fun i H' => Kp d c H H' ∧ Src H' d c ∧ ∃ ss xs, H' D = some (.lst xs) ∧ ShVs K H' ss xs ∧ ss.length = i ∧ ∀ (j : Nat) s, ss[j]? = some s → s.size = j + 2) ⟨Kp.of s1, hs.same s1, [], [], upd_same, .nil, rfl, fun j s e => by simp at e⟩ (fun i H1 hi hP => ?_) (fun H1 hP => ?_)
  · obtain ⟨p1, s1, ss, xs, eD, hA, hl, hz⟩ := hP
    have em : (2 : Int) + ((i : Nat) : Int) = (((i + 2 : Nat)) : Int) := by omega
    rw [em]
    refine ⟨rfl, tyes ?_⟩
    refine ⟨_, rfl, _, rfl, d, c, i + 2, rfl, s1, by omega, by omega, fun s v H2 p2 s2 hv z2 => ?_⟩
    have eD2 := p2 _ _ nn.1 nn.2 eD
    have ts := ts_lst (o := HO.lst (xs ++ [v])) eD2
    refine ⟨xs, eD2, line_small (by rw [hA.1]; omega), (p1.trans p2).put hD _, s2.upd nn _, ss ++ [s], _, upd_same, (ShVs.mono ((p2.ts s1).trans ts) hA).snoc (hv.mono ts), by rw [List.length_append, hl]; rfl, fun j s' e => ?_⟩
    rcases Nat.lt_or_ge j ss.length with hj | hj
    · rw [List.getElem?_append_left hj] at e
      exact hz j s' e
    · rw [List.getElem?_append_right hj] at e
      have hj2 : j - ss.length = 0 := by
        have := (List.getElem?_eq_some_iff.mp e).1
        have : j - ss.length < 1 := this
        omega
      rw [hj2] at e
      obtain rfl : s = s' := by simpa using e
      omega
  · obtain ⟨p1, s1, ss, xs, eD, hA, hl, hz⟩ := hP
    refine ⟨D, xs, rfl, .inl ⟨SqL.of eD, fun l hl' => ?_⟩⟩
    have s2 := snew hl' (.tup xs)
    exact q ss _ _ (p1.trans (Kp.of s2)) (s1.same s2) ⟨l, xs, rfl, SqT.of upd_same, ShVs.same s2 hA⟩ (ok_of_sizes (by omega) hz) (by unfold tsz; omega)

/-! ### _law_stirred -/
def spStir (K : PySem.W.Frag) (n : Nat) : Sp := fun vs H Q _ => ∃ (d c : Addr) (s : Sh) (x : V), vs = [.ref d, x] ∧ Src H d c ∧ ShV K H s x ∧ s.size ≤ n ∧ ∀ s' v H', Kp d c H H' → Src H' d c → ShV K H' s' v → s'.size = s.size → Q v H'
theorem ok_stir {f fZ fP fS : Addr} {fd fdZ fdP fdS : FuncData} (D : Df K mg "_law_stirred" sStir ["_law_source_here", "_law_shape_here"] f fd) (DZ : Df K mg "_law_size" sLsz ["_law_shape_here"] fZ fdZ)
    (DP : Df K mg "_law_pick" sPick ["_law_source_here", "_law_many"] fP fdP) (DS : Df K mg "_law_shape" sShp ["_law_source_here", "_law_size_here"] fS fdS)
    (GP : FnOk P w K mg base CX0 1 fP fdP ["_law_source_here", "_law_many"] spPick) (GS : FnOk P w K mg base CX0 62 fS fdS ["_law_source_here", "_law_size_here"] (spShp K 60)) : ∀ n, n ≤ 60 → FnOk P w K mg base CX0 (62 + n) f fd ["_law_source_here", "_law_shape_here"] (spStir K n)
  | 0, _ => FnOk.mono (j := 0) (none_left fun vs H Q E h => by
    obtain ⟨d, c, s, x, _, _, _, h1, _⟩ := h
    have := s.size_pos
    omega) (by omega)
  | n + 1, hn => by
    have G := ok_stir D DZ DP DS GP GS n (by omega)
    have GZ := ok_lsz (P := P) (w := w) (base := base) DZ 60 (Nat.le_refl _)
    have h62 : 62 ≤ 62 + n := Nat.le_add_right 62 n
    have h60 : 60 ≤ 62 + n := Nat.le_trans (by decide) h62
    have h1 : 1 ≤ 62 + n := Nat.le_trans (by decide) h62
    refine D.F.ok scStir (fun vs H Q E h => ?_) (fun cdv A outer s0 H vs Q E hr h => ?_)
    · obtain ⟨d, c, s, x, rfl, _⟩ := h
      rfl
    obtain ⟨d, c, s, x, rfl, hs, hx, hz, q⟩ := h
    refine ⟨_, pss_cons (ps_if (PW.pt (pw_or (pt_cmpR op_lt (pcall DZ GZ (hr.mono h60) (pa_cons (pv 1) pa_nil)) pe_int (nomark _)) (pw_or1 (pt_cmpR op_eq (pcall DP GP (hr.mono h1) (pa_cons (pv 0) (pa_cons pe_int pa_nil))) pe_int (nomark _)))))
        (pss_one (ps_ret (pcall DS GS (hr.mono h62) (pa_cons (pv 0) (pa_cons (pcall DZ GZ (hr.mono h60) (pa_cons (pv 1) pa_nil)) pa_nil))))) pss_nil)
      (pss_cons (ps_if (pt_cmpR op_eq (pcall DP GP (hr.mono h1) (pa_cons (pv 0) (pa_cons pe_int pa_nil))) pe_int (nomark _))
        (pss_one (ps_ret (pe_tup (pa_cons (pcall D G hr (pa_cons (pv 0) (pa_cons (pe_ix ix_tup (pv 1) pe_int (fun _ _ => rfl)) pa_nil))) (pa_cons (pe_ix ix_tup (pv 1) pe_int (fun _ _ => rfl)) pa_nil))))) pss_nil)
      (pss_one (ps_ret (pe_tup (pa_cons (pe_ix ix_tup (pv 1) pe_int (fun _ _ => rfl)) (pa_cons (pcall D G hr (pa_cons (pv 0) (pa_cons (pe_ix ix_tup (pv 1) pe_int (fun _ _ => rfl)) pa_nil))) pa_nil)))))), ?_⟩
    have sp := s.size_pos
    -- drawn anew
    have anew : ∀ H1, Kp d c H H1 → Src H1 d c → ShV K H1 s x → (tRet (tCall (spShp K 60) [] E0 (tCons (tVar 0) (tCons (tCall (spSize K 60) [] E0 (tCons (tVar 1) tNil)) tNil)))) { nx := fun _ H' => Q .non H', rt := Q } [some (.ref d), some x] H1 := fun H1 k1 s1 hx1 => by
      refine ⟨_, rfl, _, rfl, s, x, rfl, hx1, by omega, fun H2 g2 => ?_⟩
      exact ⟨d, c, s.size, rfl, s1.same g2, sp, by omega, fun s' v H3 p3 s3 hv z3 => q s' v H3 (k1.trans ((Kp.of g2).trans p3)) s3 hv z3⟩
    refine ⟨_, rfl, s, x, rfl, hx, by omega, fun H1 g1 => ⟨_, _, rfl, rfl, _, rfl, ite2 (fun _ => ?_) (fun c1 => ?_)⟩⟩
    · exact anew H1 (Kp.of g1) (hs.same g1) (hx.same g1)
    · have big : ¬ s.size < 3 := by
        have := of_decide_eq_false (Bool.eq_false_iff.mpr c1)
        omega
      refine ⟨_, rfl, d, c, 3, rfl, hs.same g1, by decide, by decide, fun r H2 hr2 p2 s2 => ⟨rfl, _, rfl, ite2 (fun _ => ?_) (fun _ => ?_)⟩⟩
      · exact anew H2 ((Kp.of g1).trans p2) s2 ((hx.same g1).mono (p2.ts (hs.same g1)))
      · have k2 := (Kp.of g1).trans p2
        have hx2 := (hx.same g1).mono (p2.ts (hs.same g1))
        refine ⟨_, rfl, d, c, 2, rfl, s2, by decide, by decide, fun r3 H3 hr3 p3 s3 => ⟨rfl, _, rfl, ?_⟩⟩
        have k3 := k2.trans p3
        have hx3 := hx2.mono (p3.ts s2)
        cases s with
        | o => exact absurd (show Sh.o.size < 3 by decide) big
        | p l r =>
          have hz : l.size + r.size ≤ n + 1 := hz
          have l1 := l.size_pos
          have r1 := r.size_pos
          obtain ⟨a, xl, xr, rfl, hq, hl, hr'⟩ := hx3
          refine ite2 (fun _ => ?_) (fun _ => ?_)
          · refine ⟨_, rfl, _, rfl, a, _, 0, xl, rfl, rfl, hq, atI_nat (j := 0) rfl, d, c, l, xl, rfl, s3, hl, by omega, fun s' v H4 p4 s4 hv z4 => ?_⟩
            have t4 := p4.ts s3
            refine ⟨_, rfl, a, _, 1, xr, rfl, rfl, t4.sqT hq, atI_nat (j := 1) rfl, Nat.le_of_lt (line_small (show 2 ≤ 100000 by decide)), fun p5 hp5 => ?_⟩
            have s5 := snew hp5 (.tup [v, xr])
            exact q (.p s' r) _ _ (k3.trans (p4.trans (Kp.of s5))) (s4.same s5) ⟨p5, v, xr, rfl, SqT.of upd_same, hv.same s5, (hr'.mono t4).same s5⟩ (by show s'.size + r.size = l.size + r.size; omega)
          · refine ⟨_, rfl, a, _, 0, xl, rfl, rfl, hq, atI_nat (j := 0) rfl, _, rfl, _, rfl, a, _, 1, xr, rfl, rfl, hq, atI_nat (j := 1) rfl, d, c, r, xr, rfl, s3, hr', by omega, fun s' v H4 p4 s4 hv z4 => ?_⟩
            have t4 := p4.ts s3
            refine ⟨Nat.le_of_lt (line_small (show 2 ≤ 100000 by decide)), fun p5 hp5 => ?_⟩
            have s5 := snew hp5 (.tup [xl, v])
            exact q (.p l s') _ _ (k3.trans (p4.trans (Kp.of s5))) (s4.same s5) ⟨p5, xl, v, rfl, SqT.of upd_same, (hl.mono t4).same s5, hv.same s5⟩ (by show l.size + s'.size = l.size + r.size; omega)

/-! ### _law_bent -/
def spBent (K : PySem.W.Frag) : Sp := fun vs H Q _ => ∃ (d c : Addr) (t : Tb) (v : V), vs = [.ref d, v] ∧ Src H d c ∧ TbV K H t v ∧ Ok t ∧ tsz t ≤ 60 ∧ ∀ t' v' H', Kp d c H H' → Src H' d c → TbV K H' t' v' → Ok t' → tsz t' = tsz t → Q v' H'
theorem ok_bent {f fP fS : Addr} {fd fdP fdS : FuncData} (F : Fun K "_law_bent" "_law_bent" sBent f fd) (DP : Df K mg "_law_pick" sPick ["_law_source_here", "_law_many"] fP fdP) (DS : Df K mg "_law_stirred" sStir ["_law_source_here", "_law_shape_here"] fS fdS)
    (GP : FnOk P w K mg base CX0 1 fP fdP ["_law_source_here", "_law_many"] spPick) (GS : FnOk P w K mg base CX0 122 fS fdS ["_law_source_here", "_law_shape_here"] (spStir K 60)) (ml : mg "len" = none) : FnOk P w K mg base CX0 123 f fd ["_law_source_here", "_law_table_here"] (spBent K) := by
  refine F.ok scBent (fun vs H Q E h => ?_) (fun cdv A outer s H vs Q E hr h => ?_)
  · obtain ⟨d, c, t, v, rfl, _⟩ := h
    rfl
  obtain ⟨d, c, t, v, rfl, hs, hT, ok, t60, q⟩ := h
  refine ⟨_, pss_cons (ps_set (i := 2) scBent.nd rfl (.inl rfl) (pe_op op_add pe_int (pcall DP GP (hr.mono (by decide)) (pa_cons (pv 0) (pa_cons (pe_callB call_len_seq (by rfl) ml PySem.boot_len (pa_cons (pv 1) pa_nil)) pa_nil)))))
    (pss_one (ps_ret (pe_op op_catA (pe_op op_catA (pe_slice sl_tupA (pv 1) po_none (po_some (pe_op op_sub (pv 2) pe_int))) (pe_tup (pa_cons (pcall DS GS hr (pa_cons (pv 0) (pa_cons (pe_ix ix_tup (pv 1) (pe_op op_sub (pv 2) pe_int) (fun _ _ => rfl)) pa_nil))) pa_nil)))
      (pe_slice sl_tupA (pv 1) (po_some (pe_op op_sub (pv 2) pe_int)) po_none)))), ?_⟩
  have t2 := ok.ne
  have lt : t.length + 1 = tsz t := rfl
  obtain ⟨ad, xs, rfl, hq, hA⟩ := id hT
  refine ⟨_, rfl, _, rfl, ad, xs, rfl, .inr hq, d, c, xs.length, rfl, hs, by rw [hA.1]; omega, by rw [hA.1]; omega, fun r H1 hr1 p1 s1 => ⟨_, _, rfl, rfl, ?_⟩⟩
  rw [hA.1] at hr1
  have hT1 := hT.mono (p1.ts hs)
  have em : (2 : Int) + ((r : Nat) : Int) = ((r + 2 : Nat) : Int) := by omega
  show gName 2 (V.int ((2 : Int) + ((r : Nat) : Int))) _ H1 _
  rw [em]
  have e2 : ((r + 2 : Nat) : Int) - 2 = ((r + 2 - 2 : Nat) : Int) := by omega
  have e1 : ((r + 2 : Nat) : Int) - 1 = ((r + 2 - 1 : Nat) : Int) := by omega
  have e0 : ((r + 2 : Nat) : Int) - 2 = ((r : Nat) : Int) := by omega
  refine ⟨_, rfl, _, rfl, _, _, rfl, rfl, _, rfl, ?_⟩
  rw [e2]
  refine sl_to hT1 (by omega) fun x2 H2 g2 hx2 => ?_
  have hT2 := hT1.same g2
  have s2 := s1.same g2
  obtain ⟨ad2, xs2, rfl', hq2, hA2⟩ := id hT2
  obtain rfl : ad = ad2 := by cases rfl'; rfl
  obtain ⟨z, ez, hz⟩ := tb_item hA2 (m := r + 2) (by omega) (by omega)
  have hsz := ok.sz (r + 2) (by omega) (by omega)
  refine ⟨_, rfl, _, rfl, _, rfl, _, _, rfl, rfl, ad, xs2, _, z, rfl, rfl, hq2, ez, d, c, ent t (r + 2), z, rfl, s2, hz, by omega, fun s' y H3 p3 s3 hy zy => ?_⟩
  refine ⟨Nat.le_of_lt (line_small (show 1 ≤ 100000 by decide)), fun p4 hp4 => ?_⟩
  have s4 := snew hp4 (.tup [y])
  have t34 := (p3.ts s2).trans (ts_of s4)
  refine cat_tb (t := t.take (r + 2 - 2)) (u := [s']) (hx2.mono t34) ⟨p4, [y], rfl, SqT.of upd_same, .cons (hy.same s4) .nil⟩ (by rw [List.length_take]; show _ + 1 ≤ _; omega) fun x5 H5 g5 hx5 => ?_
  refine ⟨_, rfl, _, rfl, _, _, rfl, rfl, _, rfl, ?_⟩
  rw [e1]
  have hT5 := (hT2.mono t34).same g5
  refine nopart ?_
  refine sl_from (n := r + 2 - 1) hT5 (by omega) fun x6 H6 g6 hx6 => ?_
  refine cat_tb (hx5.same g6) hx6 (by rw [List.length_append, List.length_take, List.length_drop]; show _ + 1 + _ ≤ _; omega) fun x7 H7 g7 hx7 => ?_
  obtain ⟨w1, w2⟩ := swap_ok (t := t) (m := r + 2) (s := s') ok (by omega) (by omega) (zy.trans hsz)
  exact q _ x7 H7 (p1.trans ((Kp.of g2).trans (p3.trans (Kp.of (s4.trans (g5.trans (g6.trans g7))))))) ((s3.same s4).same (g5.trans (g6.trans g7))) hx7 w1 w2
end
end Lp

set_option maxRecDepth 100000
/-! Drawn tables with a cut, some table. -/
namespace Lp
open PySem PySem.Spec PyProof.Rows L2

abbrev sSome : Stmt := topS 43
abbrev NSome : List Str := ["_law_source_here", "_law_most", "_law_way", "_law_sizes", "_law_size_here", "_law_more", "_law_found", "_law_b"]
theorem scSome : FnScope NSome ["_law_source_here", "_law_most"] (defScope sSome) := ⟨rfl, rfl, rfl, by decide +kernel, rfl, by decide +kernel, by decide +kernel⟩

section
variable {P : Program} {w : World} {K : PySem.W.Frag} {mg : Str → Option Value} {base : Heap}
/-! ### _law_retopped -/
def spRet (K : PySem.W.Frag) : Sp := fun vs H Q _ => ∃ (d c : Addr) (t : Tb) (v : V) (b : Nat), vs = [.ref d, v, .int b] ∧ Src H d c ∧ TbV K H t v ∧ Ok t ∧ tsz t ≤ 60 ∧ 2 ≤ b ∧ b < tsz t ∧
  ∀ t' v' H', Kp d c H H' → Src H' d c → TbV K H' t' v' → Ok t' → tsz t' = tsz t → Q v' H'
/-- behind the choice of m -/
theorem ret_tail {H : Hp} {d c : Addr} {t : Tb} {v : V} {b m : Nat} {Q : VK} {y3 : Option V} (hs : Src H d c) (hT : TbV K H t v) (ok : Ok t) (t60 : tsz t ≤ 60) (b2 : 2 ≤ b) (bn : b < tsz t) (m1 : b < m) (mn : m ≤ tsz t)
    (q : ∀ t' v' H', Kp d c H H' → Src H' d c → TbV K H' t' v' → Ok t' → tsz t' = tsz t → Q v' H') :
    (tSeq (tAsg (tLc (iList K (tCall (spStrs K) [] E0 (tCons (tVar 4) (tCons (tVar 2) tNil)))) (gTup K 2 (gCons (gName 6) (gCons (gName 7) gNil))) tYes (tCall (spEnt K) [] E0 (tCons (tVar 1) (tCons (tOp (rI0 fun i j => .int (i - j)) (tVar 7) (tVar 6)) tNil))) [6, 7]) (gName 5))
      (tRet (tOp (rCatA K) (tOp (rCatA K) (tSl (rSlA K) (tVar 1) tNoPart (tPart (tOp (rI0 fun i j => .int (i - j)) (tVar 4) (tC (.int 2)))))
        (tTup (tCons (tCall (spFill K 60) [] E0 (tCons (tCall (spShp K 60) [] E0 (tCons (tVar 0) (tCons (tCB (fun xs H Q => ∃ p ys, xs = [V.ref p] ∧ (SqL K H p ys ∨ SqT K H p ys) ∧ Q (.int ys.length) H) (tCons (tVar 5) tNil)) tNil))) (tCons (tVar 5) tNil))) tNil)))
        (tSl (rSlA K) (tVar 1) (tPart (tOp (rI0 fun i j => .int (i - j)) (tVar 4) (tC (.int 1)))) tNoPart)))) { nx := fun _ H' => Q .non H', rt := Q } [some (.ref d), some v, some (.int b), y3, some (.int m), none, none, none] H := by
  have lt : t.length + 1 = tsz t := rfl
  have c1 := cnt_pos (m := m) (b := b) (by omega) (by omega)
  have cm : cnt m b ≤ m := (cnt_le (by omega)).mpr (Nat.le_mul_of_pos_right _ (by omega))
  -- the parts
  refine ⟨_, rfl, _, rfl, m, b, rfl, by omega, by omega, by omega, fun p ys H1 g1 np ep hy => ?_⟩
  have ly : ys.length = cnt m b := by rw [hy.1, strs_length]
  refine ⟨p, rfl, ⟨ys, SqL.of ep⟩, fun D hD => ?_⟩
  refine lc_list (K := K) (a := p) (xs := ys) (fun j H' => Same H1 H' ∧ ∃ ws, H' D = some (.lst ws) ∧ ShVs K H' ((press t m b).take j) ws) ⟨snew hD _, [], upd_same, .nil⟩ (fun j H3 _ hP => hP.1.seq (SqL.of ep)) (fun j x H3 hj hP => ?_) (fun H3 hP => ?_)
  · obtain ⟨g3, ws, eD, hW⟩ := hP
    have jc : j < cnt m b := by
      rw [← ly]
      exact (List.getElem?_eq_some_iff.mp hj).1
    obtain ⟨pr, e1, a0, rfl, ha0⟩ := hy.at hj
    rw [strs_get jc] at e1
    obtain rfl : (j * b, fin m b j) = pr := Option.some.inj e1
    have w1 := wid_pos (m := m) (b := b) (k := j) (by omega) jc
    have w2 := wid_le m b j
    have w3 := fin_wid (m := m) (b := b) (k := j) (by omega) jc
    refine ⟨a0, _, rfl, Same.sqT g3 ha0, rfl, _, _, rfl, _, _, rfl, rfl, rfl, tyes ?_⟩
    refine ⟨_, rfl, _, rfl, _, rfl, _, _, rfl, rfl, t, v, wid m b j, ?_, hT.same (g1.trans g3), w1, by omega, fun z H4 g4 hz => ?_⟩
    · show [v, V.int (((fin m b j : Nat) : Int) - ((j * b : Nat) : Int))] = _
      rw [show ((fin m b j : Nat) : Int) - ((j * b : Nat) : Int) = ((wid m b j : Nat) : Int) by omega]
    have eD4 := g4 _ _ eD
    have ts := ts_lst (o := HO.lst (ws ++ [z])) eD4
    have lw : ws.length ≤ cnt m b := by
      rw [hW.1, List.length_take, press_length]
      omega
    refine ⟨ws, eD4, line_small (by omega), sput (g3.trans g4) hD _, _, upd_same, ?_⟩
    rw [press_next jc]
    exact (ShVs.mono ts (ShVs.same g4 hW)).snoc (hz.mono ts)
  · obtain ⟨g3, ws, eD, hW⟩ := hP
    rw [List.take_of_length_le (by rw [press_length]; omega)] at hW
    have lw : ws.length = cnt m b := by rw [hW.1, press_length]
    have g13 := g1.trans g3
    have s3 := hs.same g13
    have nn := (hs.same g1).dne hD
    have e2 : ((m : Nat) : Int) - 2 = ((m - 2 : Nat) : Int) := by omega
    have e1 : ((m : Nat) : Int) - 1 = ((m - 1 : Nat) : Int) := by omega
    have hT3 := hT.same g13
    refine ⟨_, rfl, _, rfl, _, _, rfl, rfl, _, rfl, ?_⟩
    rw [e2]
    refine sl_to hT3 (by omega) fun x4 H4 g4 hx4 => ?_
    have s4 := s3.same g4
    have eD4 := g4 _ _ eD
    refine ⟨_, rfl, _, rfl, D, ws, rfl, .inl (SqL.of eD4), d, c, cnt m b, ?_, s4, c1, by omega, fun sh y H5 p5 s5 hy5 zy => ?_⟩
    · show [V.ref d, V.int ((ws.length : Nat) : Int)] = _
      rw [lw]
    have eD5 := p5 _ _ nn.1 nn.2 eD4
    have t5 := p5.ts s4
    have hW5 : ShVs K H5 (press t m b) ws := ShVs.mono t5 (ShVs.same g4 hW)
    refine ⟨_, rfl, sh, y, D, press t m b, ws, rfl, hy5, by omega, SqL.of eD5, hW5, by rw [press_length, zy], fun z H6 g6 hz => ?_⟩
    have szf : (fill sh (press t m b)).size = m := by
      rw [fill_size _ _ (by rw [press_length, zy]), tot_press (by omega)]
      intro w' w1 w2 _
      exact ok.size w1 (by omega)
    refine ⟨Nat.le_of_lt (line_small (show 1 ≤ 100000 by decide)), fun p7 hp7 => ?_⟩
    have s7 := snew hp7 (.tup [z])
    have t57 := t5.trans (ts_of (g6.trans s7))
    refine cat_tb (t := t.take (m - 2)) (u := [fill sh (press t m b)]) (hx4.mono t57) ⟨p7, [z], rfl, SqT.of upd_same, .cons (hz.same s7) .nil⟩ (by rw [List.length_take]; show _ + 1 ≤ _; omega) fun x8 H8 g8 hx8 => ?_
    refine ⟨_, rfl, _, rfl, _, _, rfl, rfl, _, rfl, ?_⟩
    rw [e1]
    have hT8 := ((hT3.same g4).mono t57).same g8
    refine nopart ?_
    refine sl_from (n := m - 1) hT8 (by omega) fun x9 H9 g9 hx9 => ?_
    refine cat_tb (hx8.same g9) hx9 (by rw [List.length_append, List.length_take, List.length_drop]; show _ + 1 + _ ≤ _; omega) fun x10 H10 g10 hx10 => ?_
    obtain ⟨w1, w2⟩ := swap_ok (t := t) (m := m) (s := fill sh (press t m b)) ok (by omega) mn szf
    exact q _ x10 H10 ((Kp.of (g13.trans g4)).trans (p5.trans (Kp.of (g6.trans (s7.trans (g8.trans (g9.trans g10))))))) (s5.same (g6.trans (s7.trans (g8.trans (g9.trans g10))))) hx10 w1 w2
theorem ok_ret {f fP fE fS fF fH : Addr} {fd fdP fdE fdS fdF fdH : FuncData} (F : Fun K "_law_retopped" "_law_retopped" sRet f fd) (DP : Df K mg "_law_pick" sPick ["_law_source_here", "_law_many"] fP fdP) (DE : Df K mg "_law_entry" sLent ["_law_table_here", "_law_m"] fE fdE)
    (DS : Df K mg "_law_stretches" sLstr ["_law_m", "_law_b"] fS fdS) (DF : Df K mg "_law_filled" sFill ["_law_shape_here", "_law_parts"] fF fdF) (DH : Df K mg "_law_shape" sShp ["_law_source_here", "_law_size_here"] fH fdH)
    (GP : FnOk P w K mg base CX0 1 fP fdP ["_law_source_here", "_law_many"] spPick) (GF : FnOk P w K mg base CX0 120 fF fdF ["_law_shape_here", "_law_parts"] (spFill K 60)) (GH : FnOk P w K mg base CX0 62 fH fdH ["_law_source_here", "_law_size_here"] (spShp K 60))
    (ml : mg "len" = none) (mr : mg "range" = none) (mm : mg "min" = none) : FnOk P w K mg base CX0 121 f fd ["_law_source_here", "_law_table_here", "_law_b"] (spRet K) := by
  have GE : FnOk P w K mg base CX0 1 fE fdE ["_law_table_here", "_law_m"] (spEnt K) := ok_lent DE.F
  have GS : FnOk P w K mg base CX0 1 fS fdS ["_law_m", "_law_b"] (spStrs K) := ok_lstr DS.F mr mm
  refine F.ok scRet (fun vs H Q E h => ?_) (fun cdv A outer s H vs Q E hr h => ?_)
  · obtain ⟨d, c, t, v, b, rfl, _⟩ := h
    rfl
  obtain ⟨d, c, t, v, b, rfl, hs, hT, ok, t60, b2, bn, q⟩ := h
  refine ⟨_, pss_cons (ps_set (i := 3) scRet.nd rfl (.inl rfl) (pe_ifExp (pt_cmpR op_lt (pe_op op_mul pe_int (pv 2)) (pe_op op_add (pe_callB call_len_seq (by rfl) ml PySem.boot_len (pa_cons (pv 1) pa_nil)) pe_int) (nomark _)) (pe_op op_add (pe_op op_mul pe_int (pv 2)) pe_int) (pe_op op_add (pv 2) pe_int)))
    (pss_cons (ps_set (i := 4) scRet.nd rfl (.inl rfl) (pe_op op_add (pv 3) (pcall DP GP (hr.mono (by decide)) (pa_cons (pv 0) (pa_cons (pe_op op_sub (pe_op op_add (pe_callB call_len_seq (by rfl) ml PySem.boot_len (pa_cons (pv 1) pa_nil)) pe_int) (pv 3)) pa_nil)))))
    (pss_cons (ps_setLc (i := 5) (own := [("_law_begin", 6), ("_law_end", 7)]) (g := gTup K 2 (gCons (gName 6) (gCons (gName 7) gNil))) (tt := tYes) rfl scRet.nd rfl rfl (sw_true rfl rfl rfl (by decide +kernel))
        (pi_list (pcall DS GS (hr.mono (by decide)) (pa_cons (pv 4) (pa_cons (pv 2) pa_nil)))) (blkOk_by (N := NRet) (sc := defScope sRet) (by decide +kernel))
        (fun _ _ _ _ _ => pg_tup rfl (pgs_cons (pg_name (i := 6) scRet.nd rfl (.inl rfl)) (pgs_cons (pg_name (i := 7) scRet.nd rfl (.inl rfl)) pgs_nil))) (fun _ _ _ _ _ => pts_nil)
        (fun _ _ _ _ _ => pcall DE GE (hr.mono (by decide)) (pa_cons (pv 1) (pa_cons (pe_op op_sub (pv 7) (pv 6)) pa_nil))))
    (pss_one (ps_ret (pe_op op_catA (pe_op op_catA (pe_slice sl_tupA (pv 1) po_none (po_some (pe_op op_sub (pv 4) pe_int)))
      (pe_tup (pa_cons (pcall DF GF hr (pa_cons (pcall DH GH (hr.mono (by decide)) (pa_cons (pv 0) (pa_cons (pe_callB call_len_seq (by rfl) ml PySem.boot_len (pa_cons (pv 5) pa_nil)) pa_nil))) (pa_cons (pv 5) pa_nil))) pa_nil)))
      (pe_slice sl_tupA (pv 1) (po_some (pe_op op_sub (pv 4) pe_int)) po_none)))))), ?_⟩
  obtain ⟨ad, xs, rfl, hq, hA⟩ := id hT
  have es : ((xs.length : Nat) : Int) + 1 = ((tsz t : Nat) : Int) := by rw [hA.1]; unfold tsz; omega
  -- low, m
  have go : ∀ low : Nat, b < low → low ≤ tsz t → (tSeq (tAsg (tOp (rI0 fun i j => .int (i + j)) (tVar 3) (tCall spPick [] E0 (tCons (tVar 0) (tCons (tOp (rI0 fun i j => .int (i - j)) (tOp (rI0 fun i j => .int (i + j)) (tCB (fun xs H Q => ∃ p ys, xs = [V.ref p] ∧ (SqL K H p ys ∨ SqT K H p ys) ∧ Q (.int ys.length) H) (tCons (tVar 1) tNil)) (tC (.int 2))) (tVar 3)) tNil)))) (gName 4))
    (tSeq (tAsg (tLc (iList K (tCall (spStrs K) [] E0 (tCons (tVar 4) (tCons (tVar 2) tNil)))) (gTup K 2 (gCons (gName 6) (gCons (gName 7) gNil))) tYes (tCall (spEnt K) [] E0 (tCons (tVar 1) (tCons (tOp (rI0 fun i j => .int (i - j)) (tVar 7) (tVar 6)) tNil))) [6, 7]) (gName 5))
      (tRet (tOp (rCatA K) (tOp (rCatA K) (tSl (rSlA K) (tVar 1) tNoPart (tPart (tOp (rI0 fun i j => .int (i - j)) (tVar 4) (tC (.int 2)))))
        (tTup (tCons (tCall (spFill K 60) [] E0 (tCons (tCall (spShp K 60) [] E0 (tCons (tVar 0) (tCons (tCB (fun xs H Q => ∃ p ys, xs = [V.ref p] ∧ (SqL K H p ys ∨ SqT K H p ys) ∧ Q (.int ys.length) H) (tCons (tVar 5) tNil)) tNil))) (tCons (tVar 5) tNil))) tNil)))
        (tSl (rSlA K) (tVar 1) (tPart (tOp (rI0 fun i j => .int (i - j)) (tVar 4) (tC (.int 1)))) tNoPart))))) { nx := fun _ H' => Q .non H', rt := Q } [some (.ref d), some (.ref ad), some (.int b), some (.int low), none, none, none, none] H := fun low l1 l2 => by
    refine ⟨_, rfl, _, rfl, _, rfl, ad, xs, rfl, .inr hq, _, _, rfl, rfl, _, rfl, _, _, rfl, rfl, d, c, tsz t + 1 - low, ?_, hs, by omega, by omega, fun r H1 hr1 p1 s1 => ⟨_, _, rfl, rfl, ?_⟩⟩
    · show [V.ref d, V.int (((xs.length : Nat) : Int) + 2 - ((low : Nat) : Int))] = _
      rw [show ((xs.length : Nat) : Int) + 2 - ((low : Nat) : Int) = ((tsz t + 1 - low : Nat) : Int) by omega]
    show gName 4 (V.int (((low : Nat) : Int) + ((r : Nat) : Int))) _ H1 _
    rw [show ((low : Nat) : Int) + ((r : Nat) : Int) = ((low + r : Nat) : Int) by omega]
    exact ret_tail s1 (hT.mono (p1.ts hs)) ok t60 b2 bn (by omega) (by omega) fun t' v' H' k1 k2 k3 k4 k5 => q t' v' H' (p1.trans k1) k2 k3 k4 k5
  refine ⟨_, rfl, _, _, rfl, rfl, .inl ⟨by decide, by decide⟩, _, rfl, ad, xs, rfl, .inr hq, _, _, rfl, rfl, _, _, rfl, rfl, _, rfl, ite2 (fun e => ?_) (fun e => ?_)⟩
  · have e' : 2 * b < tsz t := by
      have := of_decide_eq_true e
      omega
    refine ⟨_, rfl, _, _, rfl, rfl, .inl ⟨by decide, by decide⟩, _, _, rfl, rfl, ?_⟩
    show gName 3 (V.int ((2 : Int) * ((b : Nat) : Int) + 1)) _ H _
    rw [show (2 : Int) * ((b : Nat) : Int) + 1 = ((2 * b + 1 : Nat) : Int) by omega]
    exact go (2 * b + 1) (by omega) (by omega)
  · refine ⟨_, rfl, _, _, rfl, rfl, ?_⟩
    show gName 3 (V.int (((b : Nat) : Int) + 1)) _ H _
    rw [show ((b : Nat) : Int) + 1 = ((b + 1 : Nat) : Int) by omega]
    exact go (b + 1) (by omega) (by omega)

/-! ### _law_some_table -/
def pr : List Nat → Nat
  | [] => 1
  | n :: r => n * pr r
theorem pr_append : ∀ xs ys : List Nat, pr (xs ++ ys) = pr xs * pr ys
  | [], ys => by show pr ys = 1 * pr ys; omega
  | x :: xs, ys => by
    show x * pr (xs ++ ys) = x * pr xs * pr ys
    rw [pr_append xs ys, Nat.mul_assoc]
theorem pr_pos : ∀ {xs : List Nat}, (∀ x ∈ xs, 2 ≤ x) → 1 ≤ pr xs
  | [], _ => Nat.le_refl _
  | x :: xs, h => Nat.mul_pos (by have := h x List.mem_cons_self; omega) (pr_pos fun y hy => h y (List.mem_cons_of_mem _ hy))
theorem pr_take {xs : List Nat} (h : ∀ x ∈ xs, 2 ≤ x) (i : Nat) : pr (xs.take i) ≤ pr xs := by
  have e := pr_append (xs.take i) (xs.drop i)
  rw [List.take_append_drop] at e
  rw [e]
  exact Nat.le_mul_of_pos_right _ (pr_pos fun x hx => h x (List.mem_of_mem_drop hx))
theorem pr_next {xs : List Nat} {i n : Nat} (h : xs[i]? = some n) : pr (xs.take (i + 1)) = pr (xs.take i) * n := by
  rw [List.take_add_one, h, pr_append]
  show _ * (n * 1) = _
  rw [Nat.mul_one]
theorem pr_mem {xs : List Nat} (h : ∀ x ∈ xs, 2 ≤ x) {n : Nat} (hn : n ∈ xs) : n ≤ pr xs := by
  induction xs with
  | nil => cases hn
  | cons x xs ih =>
    have h1 := h x List.mem_cons_self
    have h2 : 1 ≤ pr xs := pr_pos fun y hy => h y (List.mem_cons_of_mem _ hy)
    show n ≤ x * pr xs
    rcases List.mem_cons.mp hn with rfl | hn
    · exact Nat.le_mul_of_pos_right _ h2
    · have := ih (fun y hy => h y (List.mem_cons_of_mem _ hy)) hn
      exact Nat.le_trans this (Nat.le_mul_of_pos_left _ (by omega))
def spSome (K : PySem.W.Frag) : Sp := fun vs H Q _ => ∃ (d c : Addr) (k : Nat), vs = [.ref d, .int k] ∧ Src H d c ∧ 12 ≤ k ∧ k ≤ 60 ∧ ∀ t v H', Kp d c H H' → Src H' d c → TbV K H' t v → Ok t → tsz t ≤ 60 → Q v H'
abbrev rLenS (K : PySem.W.Frag) : List V → Hp → VK → Prop := fun xs H Q => ∃ p ys, xs = [V.ref p] ∧ (SqL K H p ys ∨ SqT K H p ys) ∧ Q (.int ys.length) H
/-- behind the gluing -/
theorem some_tail {H : Hp} {d c : Addr} {t : Tb} {v : V} {b wy : Nat} {y1 y3 y4 y5 : Option V} {Q : VK} (hs : Src H d c) (hT : TbV K H t v) (ok : Ok t) (t60 : tsz t ≤ 60) (b2 : 2 ≤ b)
    (q : ∀ t' v' H', Kp d c H H' → Src H' d c → TbV K H' t' v' → Ok t' → tsz t' ≤ 60 → Q v' H') :
    (tSeq (tIfS (tTest (tOp (rIn K false) (tVar 2) (tTup (tCons (tC (.int 1)) (tCons (tC (.int 2)) tNil))))) (tRet (tCall (spBent K) [] E0 (tCons (tVar 0) (tCons (tVar 6) tNil)))) tNext)
      (tRet (tIf (tAnd (tTest (tOp (rIn K false) (tVar 2) (tTup (tCons (tC (.int 3)) (tCons (tC (.int 4)) (tCons (tC (.int 5)) tNil)))))) (tTest (tOp (rI0 fun i j => .bl (decide (i < j))) (tVar 7) (tOp (rI0 fun i j => .int (i + j)) (tCB (rLenS K) (tCons (tVar 6) tNil)) (tC (.int 1))))))
        (tCall (spRet K) [] E0 (tCons (tVar 0) (tCons (tVar 6) (tCons (tVar 7) tNil)))) (tVar 6)))) { nx := fun _ H' => Q .non H', rt := Q } [some (.ref d), y1, some (.int wy), y3, y4, y5, some v, some (.int b)] H := by
  refine ⟨_, rfl, Nat.le_of_lt (line_small (show 2 ≤ 100000 by decide)), fun p hp => ⟨p, _, rfl, .inr (SqT.of upd_same), rfl, rfl, _, rfl, ?_⟩⟩
  have s1 := snew hp (.tup [V.int 1, V.int 2])
  refine ite2 (fun _ => ?_) (fun _ => ?_)
  · exact ⟨_, rfl, _, rfl, d, c, t, v, rfl, hs.same s1, hT.same s1, ok, t60, fun t' v' H' k1 k2 k3 k4 k5 => q t' v' H' ((Kp.of s1).trans k1) k2 k3 k4 (by omega)⟩
  · have last : ∀ H1, Same H H1 → (tVar 6) [some (.ref d), y1, some (.int wy), y3, y4, y5, some v, some (.int b)] H1 Q := fun H1 g1 => ⟨_, rfl, q t v H1 (Kp.of g1) (hs.same g1) (hT.same g1) ok t60⟩
    refine ⟨_, rfl, Nat.le_of_lt (line_small (show 3 ≤ 100000 by decide)), fun p2 hp2 => ⟨p2, _, rfl, .inr (SqT.of upd_same), rfl, rfl, _, rfl, ?_⟩⟩
    have s2 := snew hp2 (.tup [V.int 3, V.int 4, V.int 5])
    have s12 := s1.trans s2
    refine ite2 (fun _ => ?_) (fun _ => iteF (last _ s12))
    obtain ⟨ad, xs, rfl, hq, hA⟩ := id hT
    have es : ((xs.length : Nat) : Int) + 1 = ((tsz t : Nat) : Int) := by rw [hA.1]; unfold tsz; omega
    refine ⟨_, rfl, _, rfl, ad, xs, rfl, .inr (Same.sqT s12 hq), _, _, rfl, rfl, _, _, rfl, rfl, _, rfl, ?_⟩
    refine ite2 (fun e => ?_) (fun _ => last _ s12)
    have bn : b < tsz t := by
      have := of_decide_eq_true e
      omega
    exact ⟨_, rfl, _, rfl, _, rfl, d, c, t, _, b, rfl, hs.same s12, hT.same s12, ok, t60, b2, bn, fun t' v' H' k1 k2 k3 k4 k5 => q t' v' H' ((Kp.of s12).trans k1) k2 k3 k4 (by omega)⟩
theorem ok_some {f fP fT fG fB fR : Addr} {fd fdP fdT fdG fdB fdR : FuncData} (F : Fun K "_law_some_table" "_law_some_table" sSome f fd) (DP : Df K mg "_law_pick" sPick ["_law_source_here", "_law_many"] fP fdP) (DT : Df K mg "_law_table" sTbl ["_law_source_here", "_law_size_here"] fT fdT)
    (DG : Df K mg "_law_glued" sGlue ["_law_s", "_law_t"] fG fdG) (DB : Df K mg "_law_bent" sBent ["_law_source_here", "_law_table_here"] fB fdB) (DR : Df K mg "_law_retopped" sRet ["_law_source_here", "_law_table_here", "_law_b"] fR fdR)
    (GP : FnOk P w K mg base CX0 1 fP fdP ["_law_source_here", "_law_many"] spPick) (GT : FnOk P w K mg base CX0 63 fT fdT ["_law_source_here", "_law_size_here"] (spTbl K)) (GG : FnOk P w K mg base CX0 121 fG fdG ["_law_s", "_law_t"] (spGlue K))
    (GB : FnOk P w K mg base CX0 123 fB fdB ["_law_source_here", "_law_table_here"] (spBent K)) (GR : FnOk P w K mg base CX0 121 fR fdR ["_law_source_here", "_law_table_here", "_law_b"] (spRet K)) (ml : mg "len" = none) (mm : mg "min" = none) :
    FnOk P w K mg base CX0 124 f fd ["_law_source_here", "_law_most"] (spSome K) := by
  refine F.ok scSome (fun vs H Q E h => ?_) (fun cdv A outer s H vs Q E hr h => ?_)
  · obtain ⟨d, c, k, rfl, _⟩ := h
    rfl
  obtain ⟨d, c, k, rfl, hs, k12, k60, q⟩ := h
  have h1 : 1 ≤ 123 := by decide
  refine ⟨_, pss_cons (ps_par (i := 2) (j := 3) rfl scSome.nd rfl rfl (by decide) rfl rfl (pa_cons (pcall DP GP (hr.mono h1) (pa_cons (pv 0) (pa_cons pe_int pa_nil))) (pa_cons (pe_lst (pa_cons (pe_op op_add pe_int (pcall DP GP (hr.mono h1) (pa_cons (pv 0) (pa_cons pe_int pa_nil)))) pa_nil)) pa_nil)) (by rfl))
    (pss_cons (ps_set (i := 4) scSome.nd rfl (.inl rfl) (pe_ix ix_list (pv 3) pe_int (fun _ _ => rfl)))
    (pss_cons (ps_for PassesOwn.never rfl (pi_list (pe_lst (pa_cons (pe_op op_add pe_int (pcall DP GP (hr.mono h1) (pa_cons (pv 0) (pa_cons pe_int pa_nil)))) (pa_cons (pe_op op_add pe_int (pcall DP GP (hr.mono h1) (pa_cons (pv 0) (pa_cons pe_int pa_nil)))) pa_nil)))) (pg_name (i := 5) scSome.nd rfl (.inl rfl))
      (pss_one (ps_if (pt_cmpR op_le (pe_op op_mul (pv 4) (pv 5)) (pv 1) (nomark _)) (pss_one (ps_par (i := 3) (j := 4) rfl scSome.nd rfl rfl (by decide) rfl rfl (pa_cons (pe_op op_cat (pv 3) (pe_lst (pa_cons (pv 5) pa_nil))) (pa_cons (pe_op op_mul (pv 4) (pv 5)) pa_nil)) (by rfl))) pss_nil)))
    (pss_cons (ps_if (pt_cmpR op_eq (pv 2) pe_int (nomark _)) (pss_one (ps_ret (pcall DT GT (hr.mono (by decide)) (pa_cons (pv 0) (pa_cons (pe_op op_add pe_int (pcall DP GP (hr.mono h1) (pa_cons (pv 0) (pa_cons (pe_op op_sub (pe_callB (call_min2 rfl) (by rfl) mm boot_min (pa_cons pe_int (pa_cons (pv 1) pa_nil))) pe_int) pa_nil)))) pa_nil))))) pss_nil)
    (pss_cons (ps_par (i := 6) (j := 7) rfl scSome.nd rfl rfl (by decide) rfl rfl (pa_cons (pcall DT GT (hr.mono (by decide)) (pa_cons (pv 0) (pa_cons (pe_ix ix_list (pv 3) pe_int (fun _ _ => rfl)) pa_nil))) (pa_cons (pe_ix ix_list (pv 3) pe_int (fun _ _ => rfl)) pa_nil)) (by rfl))
    (pss_cons (ps_for PassesOwn.never rfl (pi_list (pe_slice sl_list (pv 3) (po_some pe_int) po_none)) (pg_name (i := 4) scSome.nd rfl (.inl rfl))
      (pss_cons (ps_set (i := 7) scSome.nd rfl (.inl rfl) (pe_op op_add (pe_callB call_len_seq (by rfl) ml PySem.boot_len (pa_cons (pv 6) pa_nil)) pe_int))
      (pss_one (ps_set (i := 6) scSome.nd rfl (.inl rfl) (pcall DG GG (hr.mono (by decide)) (pa_cons (pv 6) (pa_cons (pcall DT GT (hr.mono (by decide)) (pa_cons (pv 0) (pa_cons (pv 4) pa_nil))) pa_nil)))))))
    (pss_cons (ps_if (pt_cmpR op_in_seq (pv 2) (pe_tup (pa_cons pe_int (pa_cons pe_int pa_nil))) rfl) (pss_one (ps_ret (pcall DB GB hr (pa_cons (pv 0) (pa_cons (pv 6) pa_nil))))) pss_nil)
    (pss_one (ps_ret (pe_ifExp (PW.pt (pw_and (pt_cmpR op_in_seq (pv 2) (pe_tup (pa_cons pe_int (pa_cons pe_int (pa_cons pe_int pa_nil)))) rfl) (pw_and1 (pt_cmpR op_lt (pv 7) (pe_op op_add (pe_callB call_len_seq (by rfl) ml PySem.boot_len (pa_cons (pv 6) pa_nil)) pe_int) (nomark _)))))
      (pcall DR GR (hr.mono (by decide)) (pa_cons (pv 0) (pa_cons (pv 6) (pa_cons (pv 7) pa_nil)))) (pv 6)))))))))), ?_⟩
  -- way, sizes
  refine ⟨_, rfl, d, c, 8, rfl, hs, by decide, by decide, fun wy H1 hw p1 s1 => ?_⟩
  refine ⟨_, rfl, d, c, 6, rfl, s1, by decide, by decide, fun r0 H2 hr0 p2 s2 => ⟨_, _, rfl, rfl, Nat.le_of_lt (line_small (show 1 ≤ 100000 by decide)), fun a0 ha0 => ⟨_, _, rfl, ?_⟩⟩⟩
  have n0 := s2.dne ha0
  have e0 : (2 : Int) + ((r0 : Nat) : Int) = ((r0 + 2 : Nat) : Int) := by omega
  have g2 := snew ha0 (.lst [V.int ((2 : Int) + ((r0 : Nat) : Int))])
  refine ⟨_, rfl, a0, _, 0, .int ((2 : Int) + ((r0 : Nat) : Int)), rfl, rfl, SqL.of upd_same, atI_nat (j := 0) rfl, ?_⟩
  -- the drawn factors
  refine ⟨_, rfl, d, c, 5, rfl, s2.same g2, by decide, by decide, fun r1 H3 hr1 p3 s3 => ⟨_, _, rfl, rfl, ?_⟩⟩
  refine ⟨_, rfl, d, c, 3, rfl, s3, by decide, by decide, fun r2 H4 hr2 p4 s4 => ⟨_, _, rfl, rfl, Nat.le_of_lt (line_small (show 2 ≤ 100000 by decide)), fun L hL => ?_⟩⟩
  have nL := s4.dne hL
  have g4 := snew hL (.lst [V.int (2 + (r1 : Int)), V.int (2 + (r2 : Int))])
  have pK : Kp d c H (upd H4 L (.lst [V.int (2 + (r1 : Int)), V.int (2 + (r2 : Int))])) := p1.trans (p2.trans ((Kp.of g2).trans (p3.trans (p4.trans (Kp.of g4)))))
  have ea0 : (upd H4 L (.lst [V.int (2 + (r1 : Int)), V.int (2 + (r2 : Int))])) a0 = some (.lst [V.int ((r0 + 2 : Nat) : Int)]) := by
    rw [← e0]
    exact g4 _ _ (p4 _ _ n0.1 n0.2 (p3 _ _ n0.1 n0.2 upd_same))
  refine ⟨L, rfl, ⟨_, SqL.of upd_same⟩, ?_⟩
  refine for_list (K := K) (a := L) (xs := [V.int (2 + (r1 : Int)), V.int (2 + (r2 : Int))]) (fun i σ H' => Kp d c H H' ∧ Src H' d c ∧ H' L = some (.lst [V.int (2 + (r1 : Int)), V.int (2 + (r2 : Int))]) ∧
      ∃ (n1 : Nat) (ns : List Nat) (a : Addr) (y5 : Option V), σ = [some (.ref d), some (.int k), some (.int wy), some (.ref a), some (.int ((pr (n1 :: ns) : Nat) : Int)), y5, none, none] ∧ H' a = some (.lst ((n1 :: ns).map fun n : Nat => V.int n)) ∧ (∀ x ∈ n1 :: ns, 2 ≤ x) ∧ pr (n1 :: ns) ≤ k ∧ ns.length ≤ i ∧ a ≠ d ∧ a ≠ c)
    ⟨pK, s4.same g4, upd_same, r0 + 2, [], a0, none, by show _ = [_, _, _, _, some (V.int (((r0 + 2) * 1 : Nat) : Int)), _, _, _]; rw [Nat.mul_one, ← e0]; rfl, ea0, fun x hx => by obtain rfl := List.mem_singleton.mp hx; omega, by show (r0 + 2) * 1 ≤ k; omega, Nat.le_refl _, n0.1, n0.2⟩
    (fun i σ H' _ hP => SqL.of hP.2.2.1) (fun i x σ H5 hx hP => ?_) (fun σ H5 hP => ?_)
  · obtain ⟨p5, s5, eL, n1, ns, a, y5, rfl, ea, hall, hpr, hlen, na, nc⟩ := hP
    obtain ⟨mo, rfl, mo2, mo6⟩ : ∃ mo : Nat, x = V.int (mo : Nat) ∧ 2 ≤ mo ∧ mo ≤ 6 := by
      match i, hx with
      | 0, hx => exact ⟨2 + r1, by rw [← Option.some.inj hx]; congr 1, by omega, by omega⟩
      | 1, hx => exact ⟨2 + r2, by rw [← Option.some.inj hx]; congr 1, by omega, by omega⟩
      | i + 2, hx => exact absurd hx (by simp)
    have ilen : i < 2 := (List.getElem?_eq_some_iff.mp hx).1
    refine ⟨_, rfl, _, rfl, _, _, rfl, rfl, .inl ⟨by omega, by omega⟩, _, rfl, _, _, rfl, rfl, _, rfl, ite2 (fun e => ?_) (fun _ => ?_)⟩
    · have em : ((pr (n1 :: ns) : Nat) : Int) * ((mo : Nat) : Int) = ((pr (n1 :: ns) * mo : Nat) : Int) := (Int.natCast_mul _ _).symm
      have e' : pr (n1 :: ns) * mo ≤ k := by
        have := of_decide_eq_true e
        rw [em] at this
        omega
      refine ⟨_, rfl, _, rfl, Nat.le_of_lt (line_small (show 1 ≤ 100000 by decide)), fun p6 hp6 => ?_⟩
      have g6 := snew hp6 (.lst [V.int (mo : Nat)])
      refine ⟨a, p6, _, _, rfl, rfl, g6 _ _ ea, upd_same, Nat.le_of_lt (line_small (by rw [List.length_map, List.length_cons]; show _ + 1 ≤ _; omega)), fun p7 hp7 => ?_⟩
      have g7 := snew hp7 (.lst ((n1 :: ns).map (fun n : Nat => V.int n) ++ [V.int (mo : Nat)]))
      have n7 := (s5.same g6).dne hp7
      have epr : pr (n1 :: (ns ++ [mo])) = pr (n1 :: ns) * mo := by
        rw [show n1 :: (ns ++ [mo]) = (n1 :: ns) ++ [mo] from rfl, pr_append]
        show _ * (mo * 1) = _
        rw [Nat.mul_one]
      refine ⟨_, rfl, _, rfl, _, _, rfl, rfl, .inl ⟨by omega, by omega⟩, _, _, rfl, p5.trans (Kp.of (g6.trans g7)), s5.same (g6.trans g7), (g6.trans g7) _ _ eL, n1, ns ++ [mo], p7, some (V.int (mo : Nat)), ?_, ?_, ?_, by rw [epr]; exact e', by rw [List.length_append]; show _ + 1 ≤ _; omega, n7.1, n7.2⟩
      · rw [epr, Int.natCast_mul]
        rfl
      · rw [upd_same]
        show some (HO.lst (List.map (fun n : Nat => V.int n) (n1 :: ns) ++ [V.int (mo : Nat)])) = some (HO.lst (List.map (fun n : Nat => V.int n) ((n1 :: ns) ++ [mo])))
        rw [List.map_append]
        rfl
      · intro x hx
        rcases List.mem_append.mp (show x ∈ (n1 :: ns) ++ [mo] from hx) with z | z
        · exact hall x z
        · obtain rfl := List.mem_singleton.mp z
          exact mo2
    · exact ⟨p5, s5, eL, n1, ns, a, _, rfl, ea, hall, hpr, by omega, na, nc⟩
  · obtain ⟨p5, s5, eL, n1, ns, a, y5, rfl, ea, hall, hpr, hlen, na, nc⟩ := hP
    have n12 := hall n1 List.mem_cons_self
    have n1k : n1 ≤ pr (n1 :: ns) := pr_mem hall List.mem_cons_self
    refine ⟨_, rfl, rfl, _, rfl, ite2 (fun _ => ?_) (fun _ => ?_)⟩
    · -- any table
      refine ⟨_, rfl, _, rfl, _, rfl, _, _, rfl, _, _, rfl, rfl, d, c, 11, ?_, s5, by decide, by decide, fun r6 H6 hr6 p6 s6 => ⟨_, _, rfl, rfl, d, c, r6 + 2, ?_, s6, by omega, by omega, fun t v H7 p7 s7 hT ok z => q t v H7 (p5.trans (p6.trans p7)) s7 hT ok (by omega)⟩⟩
      · show [V.ref d, V.int ((if ((k : Nat) : Int) < 12 then ((k : Nat) : Int) else 12) - 1)] = _
        rw [if_neg (by omega)]
        rfl
      · show [V.ref d, V.int (2 + ((r6 : Nat) : Int))] = _
        rw [show (2 : Int) + ((r6 : Nat) : Int) = ((r6 + 2 : Nat) : Int) by omega]
    · -- found, b
      refine ⟨_, rfl, _, rfl, a, _, 0, .int (n1 : Nat), rfl, rfl, SqL.of ea, atI_nat (j := 0) rfl, d, c, n1, rfl, s5, n12, by omega, fun t0 v0 H6 p6 s6 hT6 ok6 z6 => ?_⟩
      have ea6 := p6 _ _ na nc ea
      refine ⟨_, rfl, a, _, 0, .int (n1 : Nat), rfl, rfl, SqL.of ea6, atI_nat (j := 0) rfl, _, _, rfl, ?_⟩
      refine ⟨_, rfl, 1, rfl, a, _, rfl, SqL.of ea6, fun S hS => ?_⟩
      have nS := s6.dne hS
      have g7 := snew hS (.lst (cutV ((n1 :: ns).map fun n : Nat => V.int n) (some 1) none))
      have ecut : cutV ((n1 :: ns).map fun n : Nat => V.int n) (some 1) none = ns.map fun n : Nat => V.int n := by
        have := cut_from ((n1 :: ns).map fun n : Nat => V.int n) (n := 1) (by rw [List.length_map, List.length_cons]; omega)
        exact this
      rw [ecut] at g7
      rw [ecut]
      refine ⟨S, rfl, ⟨_, SqL.of upd_same⟩, ?_⟩
      refine for_list (K := K) (a := S) (xs := ns.map fun n : Nat => V.int n) (fun i σ H' => Kp d c H H' ∧ Src H' d c ∧ H' S = some (.lst (ns.map fun n : Nat => V.int n)) ∧ ∃ (t : Tb) (vt : V) (b : Nat) (y4 : Option V),
          σ = [some (.ref d), some (.int k), some (.int wy), some (.ref a), y4, y5, some vt, some (.int b)] ∧ TbV K H' t vt ∧ Ok t ∧ tsz t = pr ((n1 :: ns).take (i + 1)) ∧ 2 ≤ b)
        ⟨p5.trans (p6.trans (Kp.of g7)), s6.same g7, upd_same, t0, v0, n1, _, rfl, hT6.same g7, ok6, by rw [z6]; show n1 = n1 * 1; omega, n12⟩ (fun i σ H' _ hP => SqL.of hP.2.2.1) (fun i x σ H8 hx hP => ?_) (fun σ H8 hP => ?_)
      · obtain ⟨p8, s8, eS, t, vt, b, y4, rfl, hT, ok, zt, b2⟩ := hP
        rw [List.getElem?_map] at hx
        obtain ⟨n, hn, rfl⟩ := Option.map_eq_some_iff.mp hx
        have hn1 : (n1 :: ns)[i + 1]? = some n := hn
        have nm : n ∈ n1 :: ns := List.mem_of_getElem? hn1
        have n2 := hall n nm
        have nk := pr_mem hall nm
        have nx := pr_next hn1
        have le := pr_take hall (i + 1 + 1)
        obtain ⟨ad, xs, rfl, hq, hA⟩ := id hT
        have es : ((xs.length : Nat) : Int) + 1 = ((tsz t : Nat) : Int) := by rw [hA.1]; unfold tsz; omega
        refine ⟨_, rfl, ad, xs, rfl, .inr hq, _, _, rfl, rfl, ?_⟩
        show gName 7 (V.int (((xs.length : Nat) : Int) + 1)) _ H8 _
        rw [es]
        refine ⟨_, rfl, _, rfl, _, rfl, d, c, n, rfl, s8, n2, by omega, fun u vu H9 p9 s9 hU oku zu => ?_⟩
        refine ⟨t, u, _, vu, rfl, hT.mono (p9.ts s8), hU, ok, oku, by rw [zt, zu, ← nx]; omega, fun x H10 g10 hx10 => ?_⟩
        refine ⟨p8.trans (p9.trans (Kp.of g10)), s9.same g10, g10 _ _ (p9 _ _ nS.1 nS.2 eS), glue t u, x, tsz t, _, rfl, hx10, glue_ok ok oku, by rw [glue_tsz, zt, zu, ← nx], ok.ne⟩
      · obtain ⟨p8, s8, eS, t, vt, b, y4, rfl, hT, ok, zt, b2⟩ := hP
        have le := pr_take hall (ns.length + 1)
        rw [List.length_map] at zt
        exact some_tail s8 hT ok (by omega) b2 fun t' v' H' k1 k2 k3 k4 k5 => q t' v' H' (p8.trans k1) k2 k3 k4 k5
end
end Lp

set_option maxRecDepth 100000
/-! repr of tables; a def run where no repr is under way; the law. -/
namespace Lp
open PySem PySem.Spec PyProof.Rows L2

/-! ### how long a table's text is -/
theorem shown_all {α : Type} {f : α → PyData} {n : Nat} : ∀ {xs : List α}, (∀ a ∈ xs, (f a).shown.length ≤ n) → (PyData.shownAll (xs.map f)).length = xs.length ∧ ((PyData.shownAll (xs.map f)).map (·.length)).sum ≤ n * xs.length
  | [], _ => by simp [PyData.shownAll]
  | x :: xs, h => by
    obtain ⟨h1, h2⟩ := shown_all (xs := xs) fun a ha => h a (List.mem_cons_of_mem _ ha)
    have h3 := h x List.mem_cons_self
    rw [List.map_cons]
    simp only [PyData.shownAll, List.length_cons, List.map_cons, List.sum_cons, h1, true_and]
    rw [Nat.mul_add]
    omega
theorem sh_shown : ∀ s : Sh, s.data.shown.length + 7 ≤ 10 * s.size
  | .o => by
    have := tupleText_len_le []
    simp only [Sh.data, PyData.shown, PyData.shownAll, Sh.size]
    simp only [List.map_nil, List.sum_nil, List.length_nil] at this
    omega
  | .p l r => by
    have h1 := sh_shown l
    have h2 := sh_shown r
    have := tupleText_len_le [l.data.shown, r.data.shown]
    simp only [Sh.data, PyData.shown, PyData.shownAll, Sh.size]
    simp only [List.map_cons, List.map_nil, List.sum_cons, List.sum_nil, List.length_cons, List.length_nil] at this
    omega
theorem tb_shown {t : Tb} (ok : Ok t) (h : tsz t ≤ 60) : (tbd t).shown.length ≤ 40000 := by
  obtain ⟨h1, h2⟩ := shown_all (f := Sh.data) (n := 600) (xs := t) fun s hs => by
    have := sh_shown s
    have := mem_size ok hs
    omega
  have := tupleText_len_le (PyData.shownAll (t.map Sh.data))
  unfold tbd
  simp only [PyData.shown]
  unfold tsz at h
  omega
theorem tl_shown {ts : List Tb} (h : ∀ t ∈ ts, Ok t ∧ tsz t ≤ 60) (hl : ts.length ≤ 60) : (tbl ts).shown.length ≤ sizeLine := by
  obtain ⟨h1, h2⟩ := shown_all (f := tbd) (n := 40000) (xs := ts) fun t ht => tb_shown (h t ht).1 (h t ht).2
  have := listText_len_le (PyData.shownAll (ts.map tbd))
  unfold tbl
  simp only [PyData.shown]
  rw [sizeLine_eq]
  omega
theorem show_all {α : Type} {f : α → PyData} (h : ∀ a, (f a).showable = true) : ∀ xs : List α, PyData.showableAll (xs.map f) = true
  | [] => by simp [PyData.showableAll]
  | x :: xs => by simp [PyData.showableAll, h x, show_all h xs]
theorem sh_show : ∀ s : Sh, s.data.showable = true
  | .o => by simp [Sh.data, PyData.showable, PyData.showableAll]
  | .p l r => by simp [Sh.data, PyData.showable, PyData.showableAll, sh_show l, sh_show r]
theorem tl_show (ts : List Tb) : (tbl ts).showable = true := by
  unfold tbl
  simp only [PyData.showable]
  exact show_all (fun t => by
    unfold tbd
    simp only [PyData.showable]
    exact show_all sh_show t) ts
/-- repr of a bool, of a list of tables -/
def rRepr (K : PySem.W.Frag) : List V → Hp → VK → Prop := fun xs H Q => (∃ b : Bool, xs = [.bl b] ∧ Q (.str (if b then "True" else "False")) H) ∨
  ∃ (a : Addr) (ts : List Tb) (ws : List V), xs = [.ref a] ∧ SqL K H a ws ∧ TbVs K H ts ws ∧ (∀ t ∈ ts, Ok t ∧ tsz t ≤ 60) ∧ ts.length ≤ 60 ∧ Q (.str (tbl ts).shown) H
theorem call_repr {X : Cx} (hg : X.A.guards = some []) (hu : X.A.units + 65 < cLine) : CallR X (.builtin "repr") (rRepr X.K) := by
  intro pins s σ H xs us Q I r h
  rcases h with ⟨b, rfl, q⟩ | ⟨a, ts, ws, rfl, hl, hA, hts, hlen, q⟩
  · obtain ⟨u, rfl, ru⟩ := vals1 r
    cases ru
    exact PySem.P.repr_of_bool ⟨.str _, H, I.tok _, ⟨_, rfl⟩, q⟩
  · obtain ⟨u, rfl, ru⟩ := vals1 r
    cases ru
    obtain ⟨as, rd⟩ := Dp.reads I (tbl ts) (.ref a) (.ref a) (TbVs.dp hl hA) rfl
    have hd := tbl_deep hts
    refine repr_of_reads' (h₀ := s.heap) rd (tl_show ts) (PyData.noDict_hsm (PyData.hasDict_of_canLay _ (tbl_lay ts))) hg (by omega) (fun _ _ e => e) (fun h' u tk hk => ?_) (tl_shown hts hlen)
    exact ⟨.str _, H, I.kept (t' := tk) hk, ⟨u, rfl⟩, q⟩

section
variable {P : Program} {w : World} {K : PySem.W.Frag} {mg : Str → Option Value} {base : Heap}
/-- a def of the top, run at one place -/
theorem run_at {x : Str} {st : Stmt} {f : Addr} {fd : FuncData} {N ps : List Str} {k : Nat} (F : Fun K x x st f fd) (S : FnScope N ps (defScope st)) {A : Around} {outer : List Env} {s : Shared} {H : Hp} {args : Args} {us : List Value} {vs : List V} {Q : VK} {E : XK}
    (hr : Room (k + 1) A) (hg : A.guards = some []) (e0 : Env0 P w K mg base A outer s H) (hb : BindsTo s fd args (ps.zip us)) (rv : Vals vs us) (hl : vs.length = ps.length)
    (body : ∀ (cdv : Value) (X : Cx), X = (cxOf CX0 P w K mg base N x (defScope st) f cdv A outer s H E).nox → Room k X.A → X.A.guards = some [] → ∃ t, PSs X (defBody st) t ∧ t { nx := fun _ H' => Q .non H', rt := Q } (start N vs) H) :
    codeAny (model P w) A (.call (.ref f) args) (CR CX0 outer P w H s Q E) s := by
  obtain ⟨oc, od, kV, doc, pm, an, cdv, ct, osl, rfl, lk, hcd⟩ := F.ex
  have old : ∀ b o, base.get? b = some o → s.heap.get? b = some o := fun b o e => (e0.bs b o e).1
  have kin := e0.mod.kin.keeps old
  have lim := e0.mod.nolimit.keeps old
  have kinds : ∀ y ∈ ps.zip us, (defScope st).names.lookup y.1 = some .local ∨ ((defScope st).names.lookup y.1 = some .cell ∧ ((cellsFrom (s.heap.objs.size + 1) (defScope st).names []).lookup y.1).isSome = true) := by
    rintro ⟨n, v⟩ hy
    have hp := S.par n (List.of_mem_zip hy).1
    exact hp.imp id fun z => ⟨z, PySem.W.cellsFrom_some _ _ _ (.inl z)⟩
  refine codeAny_call_function hr.depth (kin _ _ lk) rfl S.co S.gen rfl (PySem.W.codeRec_of kin hcd) (hb _ _ _ _ (wpAny_newFunctionEnv_cells S.kind kinds ?_))
  intro env he s1 hc
  subst he
  refine ⟨lim.keeps hc.toInCall.keep, codeAny_func ?_⟩
  have room := hr.deeper (envOfC x (defScope st) s.heap.objs.size f cdv)
  obtain ⟨t, ht, hq⟩ := body cdv _ rfl room hg
  have I := inv_start (CX := CX0) (E := E) S hr.hd e0 hl rv hc
  refine wpAny_mono ((PSs.nox ht).run [] s1 (start N vs) H _ I hq) (fun fl s' hs => ?_) (fun _ _ hs => hs)
  cases fl with
  | ret u =>
    obtain ⟨v, σ', H', J, ru, qv⟩ := hs
    exact ⟨v, H', J.os, J.bare, J.base, J.hok, ru, qv⟩
  | next =>
    obtain ⟨σ', H', J, qv⟩ := hs
    exact ⟨V.non, H', J.os, J.bare, J.base, J.hok, rfl, qv⟩
  | brk => exact (hs.choose_spec.choose_spec.2 : False).elim
  | cont => exact (hs.choose_spec.choose_spec.2 : False).elim
end
end Lp

set_option maxRecDepth 100000
/-! The law. -/
namespace Lp
open PySem PySem.Spec PyProof.Rows L2

abbrev sLaw : Stmt := topS 44
abbrev NLaw : List Str := ["_law_script", "_law_source_here", "_law_most", "_law_table_here", "_law_told", "_law_due", "_law_whole", "_law_one"]
theorem scLaw : FnScope NLaw ["_law_script"] (defScope sLaw) := ⟨rfl, rfl, rfl, by decide +kernel, rfl, by decide +kernel, by decide +kernel⟩
theorem foldl_take (ps : List Tb) (p : Tb) (j : Nat) : tsz ((ps.take j).foldl glue p) ≤ tsz (ps.foldl glue p) := by
  have e : ps.foldl glue p = (ps.drop j).foldl glue ((ps.take j).foldl glue p) := by
    rw [← List.foldl_append, List.take_append_drop]
  rw [e]
  exact foldl_tsz _ _
theorem foldl_next {ps : List Tb} {p q : Tb} {j : Nat} (h : ps[j]? = some q) : (ps.take (j + 1)).foldl glue p = glue ((ps.take j).foldl glue p) q := by
  rw [List.take_add_one, h, List.foldl_append]
  rfl
theorem primes_small {t : Tb} (ok : Ok t) (t60 : tsz t ≤ 60) : ∀ q ∈ primesF 58 t, Ok q ∧ tsz q ≤ 60 := by
  have key : ∀ (n : Nat) (t : Tb), Ok t → tsz t ≤ 60 → ∀ q ∈ primesF n t, Ok q ∧ tsz q ≤ 60 := by
    intro n
    induction n with
    | zero =>
      intro t ok t60 q hq
      obtain rfl := List.mem_singleton.mp hq
      exact ⟨ok, t60⟩
    | succ n ih =>
      intro t ok t60 q hq
      cases hc : cuts t with
      | nil =>
        rw [primesF_nil hc] at hq
        obtain rfl := List.mem_singleton.mp hq
        exact ⟨ok, t60⟩
      | cons b r =>
        rw [primesF_cons hc] at hq
        obtain ⟨b2, bn, k1, k2, k3, k4, k5⟩ := cut_facts ok (show b ∈ cuts t by rw [hc]; exact List.mem_cons_self)
        rcases List.mem_cons.mp hq with rfl | hq
        · exact ⟨k1, by omega⟩
        · exact ih _ k3 (by omega) q hq
  exact key 58 t ok t60
theorem neTb {K : PySem.W.Frag} {H : Hp} {t u : Tb} {x y : V} {Q : VK} (hs : TbV K H t x) (ht : TbV K H u y) (o1 : Ok t) (o2 : Ok u) (z1 : tsz t ≤ 60) (z2 : tsz u ≤ 60) (q : Q (.bl (!decide (t = u))) H) : rNeD K x y H Q := by
  refine ⟨tbd t, tbd u, hs.dp, ht.dp, shaped_of (tbd_lay t) (by have := tbd_deep o1 z1; omega), shaped_of (tbd_lay u) (by have := tbd_deep o2 z2; omega), ?_⟩
  rw [tbd_eqv]
  exact q
theorem eqTl {K : PySem.W.Frag} {H : Hp} {ts us : List Tb} {a b : Addr} {xs ys : List V} {Q : VK} (h1 : SqL K H a xs) (h2 : SqL K H b ys) (hs : TbVs K H ts xs) (ht : TbVs K H us ys) (o1 : ∀ t ∈ ts, Ok t ∧ tsz t ≤ 60) (o2 : ∀ t ∈ us, Ok t ∧ tsz t ≤ 60) (q : Q (.bl (decide (ts = us))) H) : rEqD K (.ref a) (.ref b) H Q := by
  refine ⟨tbl ts, tbl us, TbVs.dp h1 hs, TbVs.dp h2 ht, shaped_of (tbl_lay ts) (by have := tbl_deep o1; omega), shaped_of (tbl_lay us) (by have := tbl_deep o2; omega), ?_⟩
  rw [tbl_eqv]
  exact q
theorem neTl {K : PySem.W.Frag} {H : Hp} {ts us : List Tb} {a b : Addr} {xs ys : List V} {Q : VK} (h1 : SqL K H a xs) (h2 : SqL K H b ys) (hs : TbVs K H ts xs) (ht : TbVs K H us ys) (o1 : ∀ t ∈ ts, Ok t ∧ tsz t ≤ 60) (o2 : ∀ t ∈ us, Ok t ∧ tsz t ≤ 60) (q : Q (.bl (!decide (ts = us))) H) : rNeD K (.ref a) (.ref b) H Q := by
  refine ⟨tbl ts, tbl us, TbVs.dp h1 hs, TbVs.dp h2 ht, shaped_of (tbl_lay ts) (by have := tbl_deep o1; omega), shaped_of (tbl_lay us) (by have := tbl_deep o2; omega), ?_⟩
  rw [tbl_eqv]
  exact q
theorem two_ways {c : Prop} [Decidable c] {σ : L2.St} {H : Hp} {Q : VK} (h : ∀ x : Nat, 12 ≤ x → x ≤ 60 → Q (.int (x : Nat)) H) : if c then tC (.int 60) σ H Q else tC (.int 36) σ H Q := by
  split
  · exact h 60 (by decide) (by decide)
  · exact h 36 (by decide) (by decide)
theorem iteNSF {c A B : Prop} [Decidable c] (hc : c) (h : B) : if (!decide c) = true then A else B := by
  rw [decide_eq_true hc]
  exact iteF h
theorem all_true : ∀ n : Nat, (List.replicate n true).all id = true
  | 0 => rfl
  | n + 1 => by
    rw [List.replicate_succ, List.all_cons, all_true n]
    rfl

section
variable {P : Program} {w : World} {K : PySem.W.Frag} {mg : Str → Option Value} {base : Heap}
theorem ok_law {f fR fP fS fM fL fG fI : Addr} {fd fdR fdP fdS fdM fdL fdG fdI : FuncData} (F : Fun K "law" "law" sLaw f fd) (DR : Df K mg "_law_source" sSrc ["_law_script"] fR fdR) (DP : Df K mg "_law_pick" sPick ["_law_source_here", "_law_many"] fP fdP)
    (DS : Df K mg "_law_some_table" sSome ["_law_source_here", "_law_most"] fS fdS) (DM : Df K mg "primes" sPrimes ["table"] fM fdM) (DL : Df K mg "_law_primes" sLpr ["_law_table_here"] fL fdL) (DG : Df K mg "_law_glued" sGlue ["_law_s", "_law_t"] fG fdG)
    (DI : Df K mg "is_prime_table" sPri ["table"] fI fdI) (GR : FnOk P w K mg base CX0 1 fR fdR ["_law_script"] (spSrc K)) (GP : FnOk P w K mg base CX0 1 fP fdP ["_law_source_here", "_law_many"] spPick)
    (GS : FnOk P w K mg base CX0 124 fS fdS ["_law_source_here", "_law_most"] (spSome K)) (GM : FnOk P w K mg base CX0 67 fM fdM ["table"] (spPrimes K)) (GL : FnOk P w K mg base CX0 182 fL fdL ["_law_table_here"] (spLpr K 59))
    (GG : FnOk P w K mg base CX0 121 fG fdG ["_law_s", "_law_t"] (spGlue K)) (GI : FnOk P w K mg base CX0 66 fI fdI ["table"] (spPri K)) (mp : mg "repr" = none) (ml : mg "len" = none) (ma : mg "all" = none)
    {A : Around} {outer : List Env} {s : Shared} {H : Hp} {args : Args} {u : Value} {a : Addr} {ns : List Int} {Q : VK} {E : XK} (hr0 : Room 184 A) (hg0 : A.guards = some []) (e0 : Env0 P w K mg base A outer s H) (hb : BindsTo s fd args ((["_law_script"] : List Str).zip [u]))
    (rv : Vals [.ref a] [u]) (hS : SqL K H a (ns.map V.int)) (h63 : ns.length ≤ 63) (q : ∀ H', Q (.bl true) H') : codeAny (model P w) A (.call (.ref f) args) (CR CX0 outer P w H s Q E) s := by
  refine run_at (k := 183) (N := NLaw) F scLaw hr0 hg0 e0 hb rv rfl fun cdv X hX hr hg => ?_
  subst hX
  have hu := room65 hr
  refine ⟨_, pss_cons (ps_set (i := 1) scLaw.nd rfl (.inl rfl) (pcall DR GR (hr.mono (by decide)) (pa_cons (pv 0) pa_nil)))
    (pss_cons (ps_for PassesOwn.never rfl (pi_list (pe_lst (pa_cons pe_int (pa_cons pe_int (pa_cons (pe_ifExp (pt_cmpR op_eq (pcall DP GP (hr.mono (by decide)) (pa_cons (pv 1) (pa_cons pe_int pa_nil))) pe_int (nomark _)) pe_int pe_int) pa_nil))))) (pg_name (i := 2) scLaw.nd rfl (.inl rfl))
      (pss_cons (ps_set (i := 3) scLaw.nd rfl (.inl rfl) (pcall DS GS (hr.mono (by decide)) (pa_cons (pv 1) (pa_cons (pv 2) pa_nil))))
      (pss_cons (ps_par (i := 4) (j := 5) rfl scLaw.nd rfl rfl (by decide) rfl rfl (pa_cons (pcall DM GM (hr.mono (by decide)) (pa_cons (pv 3) pa_nil)) (pa_cons (pcall DL GL (hr.mono (by decide)) (pa_cons (pv 3) pa_nil)) pa_nil)) (by rfl))
      (pss_cons (ps_if (pt_cmpR op_ne (pe_callB (call_repr hg hu) (by rfl) mp boot_repr (pa_cons (pv 4) pa_nil)) (pe_callB (call_repr hg hu) (by rfl) mp boot_repr (pa_cons (pv 5) pa_nil)) (nomark _)) (pss_one (ps_ret pe_bl)) pss_nil)
      (pss_cons (ps_set (i := 6) scLaw.nd rfl (.inl rfl) (pe_ix ix_list (pv 4) pe_int (fun _ _ => rfl)))
      (pss_cons (ps_for PassesOwn.never rfl (pi_list (pe_slice sl_list (pv 4) (po_some pe_int) po_none)) (pg_name (i := 7) scLaw.nd rfl (.inl rfl))
        (pss_one (ps_set (i := 6) scLaw.nd rfl (.inl rfl) (pcall DG GG (hr.mono (by decide)) (pa_cons (pv 6) (pa_cons (pv 7) pa_nil))))))
      (pss_cons (ps_if (PW.pt (pw_or (pt_cmpR (op_neD hr.units) (pv 6) (pv 3) (nomark _)) (pw_or1 (pt_cmpR op_ne (pe_callB (call_repr hg hu) (by rfl) mp boot_repr (pa_cons (pcall DI GI (hr.mono (by decide)) (pa_cons (pv 3) pa_nil)) pa_nil))
          (pe_callB (call_repr hg hu) (by rfl) mp boot_repr (pa_cons (pe_cmpR op_eq (pe_callB call_len_seq (by rfl) ml PySem.boot_len (pa_cons (pv 5) pa_nil)) pe_int (nomark _)) pa_nil)) (nomark _))))) (pss_one (ps_ret pe_bl)) pss_nil)
      (pss_cons (ps_if (pt_not (pt_val (pe_callB (cr_all rfl) (by rfl) ma boot_all (pa_cons (pe_lc (own := [("_law_one", 7)]) (g := gName 7) (tt := tYes) rfl scLaw.nd (pi_list (pv 4)) (blkOk_by (N := NLaw) (sc := defScope sLaw) (by decide +kernel))
          (fun _ _ _ _ _ => pg_name (i := 7) scLaw.nd rfl (.inl rfl)) (fun _ _ _ _ _ => pts_nil)
          (fun _ _ _ _ _ => pe_and (pe_cmpR op_isBl (pcall DI GI (hr.mono (by decide)) (pa_cons (pv 7) pa_nil)) pe_bl (nomark _))
            (pe_one (pe_cmpR (show OpR _ (compareOp .Eq) (rEqD K) from op_eqD hr.units) (pcall DM GM (hr.mono (by decide)) (pa_cons (pv 7) pa_nil)) (pe_lst (pa_cons (pv 7) pa_nil)) (nomark _))))) pa_nil)))) (pss_one (ps_ret pe_bl)) pss_nil)
      (pss_cons (ps_expr (pe_bm PySem.F.plainAttrs_list PySem.F.slot_list_append PySem.F.type_list_append mt_append (pv 4) (pa_cons pe_non pa_nil)))
      (pss_one (ps_if (pt_cmpR (op_neD hr.units) (pcall DM GM (hr.mono (by decide)) (pa_cons (pv 3) pa_nil)) (pv 5) (nomark _)) (pss_one (ps_ret pe_bl)) pss_nil)))))))))))
    (pss_one (ps_ret pe_bl))), ?_⟩
  -- the source
  refine ⟨_, rfl, a, ns, rfl, hS, h63, fun d c H1 g1 s1 => ?_⟩
  refine ⟨_, rfl, d, c, 4, rfl, s1, by decide, by decide, fun r0 H2 hr0' p2 s2 => ⟨rfl, _, rfl, two_ways fun z z1 z2 => ?_⟩⟩
  refine ⟨Nat.le_of_lt (line_small (show 3 ≤ 100000 by decide)), fun L hL => ⟨L, rfl, ⟨_, SqL.of upd_same⟩, ?_⟩⟩
  have nL := s2.dne hL
  have gL := snew hL (.lst [V.int 12, V.int 24, V.int (z : Nat)])
  refine for_list (K := K) (a := L) (xs := [V.int 12, V.int 24, V.int (z : Nat)]) (fun i σ H' => Src H' d c ∧ H' L = some (.lst [V.int 12, V.int 24, V.int (z : Nat)]) ∧ ∃ y2 y3 y4 y5 y6 y7, σ = [some (.ref a), some (.ref d), y2, y3, y4, y5, y6, y7])
    ⟨s2.same gL, upd_same, none, none, none, none, none, none, rfl⟩ (fun i σ H' _ hP => SqL.of hP.2.1) (fun i x σ H3 hx hP => ?_) (fun σ H3 hP => ?_)
  · obtain ⟨s3, eL, y2, y3, y4, y5, y6, y7, rfl⟩ := hP
    obtain ⟨mo, rfl, mo1, mo2⟩ : ∃ mo : Nat, x = V.int (mo : Nat) ∧ 12 ≤ mo ∧ mo ≤ 60 := by
      match i, hx with
      | 0, hx => exact ⟨12, (Option.some.inj hx).symm, by decide, by decide⟩
      | 1, hx => exact ⟨24, (Option.some.inj hx).symm, by decide, by decide⟩
      | 2, hx => exact ⟨z, (Option.some.inj hx).symm, z1, z2⟩
      | i + 3, hx => exact absurd hx (by simp)
    -- the table
    refine ⟨_, rfl, _, rfl, d, c, mo, rfl, s3, mo1, mo2, fun t v H4 p4 s4 hT ok t60 => ?_⟩
    have eL4 := p4 _ _ nL.1 nL.2 eL
    obtain ⟨allp, p, ps, epp, efold, enil⟩ := primes_facts 58 t ok (by omega)
    have small := primes_small ok t60
    have plen := primesF_length 58 t
    -- told, due
    refine ⟨_, rfl, t, v, rfl, hT, ok, t60, fun q1 ws1 H5 g5 n5 e5 a5 => ?_⟩
    refine ⟨_, rfl, t, v, rfl, hT.same g5, ok, t60, t60, fun q2 ws2 H6 g6 n6 e6 a6 => ⟨_, _, rfl, ?_⟩⟩
    have a6 : TbVs K H6 (primesF 58 t) ws2 := a6
    have e56 := g6 _ _ e5
    have a56 := TbVs.same g6 a5
    have g46 := g5.trans g6
    -- the texts
    refine ⟨_, rfl, .inr ⟨q1, primesF 58 t, ws1, rfl, SqL.of e56, a56, small, by omega, ?_⟩⟩
    refine ⟨_, rfl, .inr ⟨q2, primesF 58 t, ws2, rfl, SqL.of e6, a6, small, by omega, rfl, _, rfl, iteNS rfl ?_⟩⟩
    -- whole = told[0]
    obtain ⟨w0, ew0, hw0⟩ := a56.2 0 p (by rw [epp]; rfl)
    refine ⟨_, rfl, q1, ws1, 0, w0, rfl, rfl, SqL.of e56, atI_nat (j := 0) ew0, ?_⟩
    have l1 : 1 ≤ ws1.length := by rw [a56.1, epp]; exact Nat.succ_le_succ (Nat.zero_le _)
    refine ⟨_, rfl, 1, rfl, q1, ws1, rfl, SqL.of e56, fun S hSn => ?_⟩
    have ecut : cutV ws1 (some 1) none = ws1.drop 1 := cut_from ws1 (n := 1) l1
    have gS := snew hSn (.lst (ws1.drop 1))
    rw [ecut]
    have aS : TbVs K (upd H6 S (.lst (ws1.drop 1))) ps (ws1.drop 1) := by
      have z := TbVs.same gS a56
      rw [epp] at z
      exact z.drop 1
    refine ⟨S, rfl, ⟨_, SqL.of upd_same⟩, ?_⟩
    refine for_list (K := K) (a := S) (xs := ws1.drop 1) (fun j σ H' => Same (upd H6 S (.lst (ws1.drop 1))) H' ∧ ∃ vw y7, σ = [some (.ref a), some (.ref d), some (.int (mo : Nat)), some v, some (.ref q1), some (.ref q2), some vw, y7] ∧ TbV K H' ((ps.take j).foldl glue p) vw)
      ⟨Same.refl _, w0, _, rfl, hw0.same gS⟩ (fun j σ H' _ hP => hP.1.seq (SqL.of upd_same)) (fun j x σ H7 hx hP => ?_) (fun σ H7 hP => ?_)
    · obtain ⟨g7, vw, y7', rfl, hW⟩ := hP
      obtain ⟨qj, eq, hq⟩ := (TbVs.same g7 aS).at hx
      have hp : p ∈ primesF 58 t := by rw [epp]; exact List.mem_cons_self
      have okj : Ok ((ps.take j).foldl glue p) := foldl_ok _ _ (small p hp).1 fun r hr => (small r (by rw [epp]; exact List.mem_cons_of_mem _ (List.mem_of_mem_take hr))).1
      have hqm : qj ∈ primesF 58 t := by rw [epp]; exact List.mem_cons_of_mem _ (List.mem_of_getElem? eq)
      have nx := foldl_next (p := p) eq
      have le := foldl_take ps p (j + 1)
      rw [nx, glue_tsz, efold] at le
      refine ⟨_, rfl, _, rfl, _, qj, vw, x, rfl, hW, hq, okj, (small qj hqm).1, by omega, fun y H8 g8 hy => ?_⟩
      refine ⟨g7.trans g8, y, _, rfl, ?_⟩
      rw [nx]
      exact hy
    · obtain ⟨g7, vw, y7', rfl, hW⟩ := hP
      have lps : (ws1.drop 1).length = ps.length := aS.1
      rw [lps, List.take_of_length_le (Nat.le_refl _), efold] at hW
      have g67 := gS.trans g7
      have g47 := g46.trans g67
      have hT7 := hT.same g47
      -- whole != table
      refine ⟨_, rfl, _, rfl, neTb hW hT7 ok ok t60 t60 ⟨_, rfl, iteNSF rfl ?_⟩⟩
      refine ⟨_, rfl, t, v, rfl, hT7, ok, t60, fun H8 g8 => .inl ⟨_, rfl, ?_⟩⟩
      have e8 := (g67.trans g8) _ _ e6
      have lw2 : ws2.length = (primesF 58 t).length := a6.1
      refine ⟨_, rfl, q2, ws2, rfl, .inl (SqL.of e8), rfl, .inl ⟨_, rfl, rfl, _, rfl, ?_⟩⟩
      have same : (decide (cuts t = []) : Bool) = decide (V.int ((ws2.length : Nat) : Int) = V.int 1) := by
        by_cases hc : cuts t = []
        · rw [decide_eq_true hc, decide_eq_true]
          rw [lw2, primesF_nil hc]
          rfl
        · rw [decide_eq_false hc, decide_eq_false]
          intro z
          have z := V.int.inj z
          rw [lw2, epp] at z
          have z2 : ps.length = 0 := by
            rw [List.length_cons] at z
            omega
          exact hc (enil.mp (List.eq_nil_of_length_eq_zero z2))
      rw [← same]
      refine iteNS rfl ?_
      -- all of them are prime
      have e58 := (g67.trans g8) _ _ e56
      have a8 := TbVs.same (g67.trans g8) a56
      refine ⟨_, rfl, q1, rfl, ⟨ws1, SqL.of e58⟩, fun D hD => ?_⟩
      refine lc_list (K := K) (a := q1) (xs := ws1) (fun j H' => Same H8 H' ∧ H' D = some (.lst ((List.replicate j true).map V.bl))) ⟨snew hD _, upd_same⟩ (fun j H' _ hP => hP.1.seq (SqL.of e58)) (fun j x H9 hx hP => ?_) (fun H9 hP => ?_)
      · obtain ⟨g9, eD⟩ := hP
        obtain ⟨qj, eq, hq⟩ := (TbVs.same g9 a8).at hx
        have hqm := List.mem_of_getElem? eq
        obtain ⟨okq, cq⟩ := allp qj hqm
        have q60 := (small qj hqm).2
        refine ⟨rfl, tyes ?_⟩
        refine ⟨_, rfl, qj, x, rfl, hq, okq, q60, fun H10 g10 => ⟨_, true, rfl, rfl, _, rfl, ?_⟩⟩
        have hx10 := hq.same g10
        rw [cq]
        refine iteT ⟨_, rfl, qj, x, rfl, hx10, okq, q60, fun q3 ws3 H11 g11 n11 e11 a11 => ⟨_, rfl, Nat.le_of_lt (line_small (show 1 ≤ 100000 by decide)), fun l hl => ?_⟩⟩
        have g12 := snew hl (.lst [x])
        rw [primesF_nil cq] at a11
        refine eqTl (SqL.of (g12 _ _ e11)) (SqL.of upd_same) (TbVs.same g12 a11) (.cons (hx10.same (g11.trans g12)) .nil) (fun y hy => by obtain rfl := List.mem_singleton.mp hy; exact ⟨okq, q60⟩) (fun y hy => by obtain rfl := List.mem_singleton.mp hy; exact ⟨okq, q60⟩) ?_
        rw [decide_eq_true rfl]
        have g9e := (g10.trans g11).trans g12
        have jl : j < ws1.length := (List.getElem?_eq_some_iff.mp hx).1
        have lws : ws1.length ≤ 60 := by rw [a56.1]; omega
        refine ⟨_, g9e _ _ eD, ?_, sput (g9.trans g9e) hD _, ?_⟩
        · rw [List.length_map, List.length_replicate]
          exact line_small (by omega)
        · rw [upd_same, List.replicate_succ', List.map_append]
          rfl
      · obtain ⟨g9, eD⟩ := hP
        refine ⟨D, _, rfl, SqL.of eD, _, rfl, ?_⟩
        rw [all_true]
        refine iteF ?_
        -- told.append(None)
        have g89 := g67.trans (g8.trans g9)
        have e9 := g89 _ _ e56
        have lws : ws1.length ≤ 60 := by rw [a56.1]; omega
        refine ⟨_, rfl, .inl ⟨rfl, _, .inl (.inl e9)⟩, q1, ws1, .non, rfl, rfl, e9, line_small (by omega), ?_⟩
        have ts := ts_lst (o := HO.lst (ws1 ++ [V.non])) e9
        have n12 : q2 ≠ q1 := fun z => by
          subst z
          have e5' : H5 q2 = some (.lst ws1) := e5
          rw [n6] at e5'
          cases e5'
        have e6' : (upd H9 q1 (.lst (ws1 ++ [V.non]))) q2 = some (.lst ws2) := by
          rw [upd_ne n12]
          exact g89 _ _ e6
        have nq := s4.dne n5
        have nLq : L ≠ q1 := fun z => by
          subst z
          rw [eL4] at n5
          cases n5
        have g49 := g46.trans g89
        have eL9 : (upd H9 q1 (.lst (ws1 ++ [V.non]))) L = some (.lst [V.int 12, V.int 24, V.int (z : Nat)]) := by
          rw [upd_ne nLq]
          exact g49 _ _ eL4
        have s9 := (s4.same g49).upd nq (HO.lst (ws1 ++ [V.non]))
        have a9 := TbVs.mono ts (TbVs.same g89 a6)
        -- primes(table) != due
        refine ⟨_, rfl, t, v, rfl, (hT.same g49).mono ts, ok, t60, fun q3 ws3 H10 g10 n10 e10 a10 => ⟨_, rfl, ?_⟩⟩
        refine neTl (SqL.of e10) (SqL.of (g10 _ _ e6')) a10 (TbVs.same g10 a9) small small ⟨_, rfl, iteNS rfl ?_⟩
        exact ⟨s9.same g10, g10 _ _ eL9, _, _, _, _, _, _, rfl⟩
  · exact q H3
end
end Lp

set_option maxRecDepth 100000
/-! From the law's run to the row. -/
namespace Lp
open PySem PySem.Spec PyProof.Rows L2

/-- the law's call, told by its run at the caller's own place -/
theorem law_go {P : Program} {w : World} {K : PySem.W.Frag} {mg mb : Str → Option Value} {fa a : Addr} {s1 : Shared} {vs : List Value} {ns : List Int} (kin : K.In s1.heap) (hglo : s1.heap.Ns mainGlobals mg) (hblt : s1.heap.Ns builtinsNs mb)
    (hboot : ∀ x : Str, x ≠ "__name__" → mb x = bootBuiltins x) (hlim : s1.heap.NoLimit) (hgen : s1.gens = #[]) (hobj : s1.heap.get? a = some { cls := .type "list", data := .seq vs.toArray }) (hints : IntsAre vs ns) (hlen : ns.length ≤ 63)
    (run : ∀ (base : Heap) (H : Hp), Env0 P w K mg base callerA [] s1 H → SqL K H a (ns.map V.int) → codeAny (model P w) callerA (.call (.ref fa) ⟨[.ref a], []⟩) (CR CX0 [] P w H s1 (fun v _ => v = .bl true) E0) s1) :
    codeAny (model P w) callerA (.call (.ref fa) ⟨[.ref a], []⟩) (fun r s' => r = .ok (.ret (.bool true)) ∧ OldK s1.heap s'.heap ∧ s'.os = s1.os ∧ AllBare s'.gens) s1 := by
  have rvs := vals_ints hints
  have nlen : ns.length ≤ sizeLine := Nat.le_of_lt (line_small (by omega))
  -- what is tracked: the script alone, unless it is the module's own
  obtain ⟨H, hS, hok, only⟩ : ∃ H : Hp, SqL K H a (ns.map V.int) ∧ HOk P w H s1.heap ∧ ∀ b u, H b = some u → b = a ∧ K.lookup a = none ∧ ∃ ob xs, u = .frz ob (.lst xs) := by
    cases hk : K.lookup a with
    | some ob =>
      have eo := kin a ob hk
      rw [hobj] at eo
      obtain rfl := (Option.some.inj eo).symm
      refine ⟨fun _ => none, .inr ⟨_, vs.toArray, _, hk, rfl, rfl, rfl, ?_, by simpa using rvs⟩, fun b u z => (nomatch (show (none : Option HO) = some u from z)), fun b u z => (nomatch (show (none : Option HO) = some u from z))⟩
      have := hints.length
      rw [List.size_toArray]
      omega
    | none =>
      refine ⟨fun b => if b = a then some (.frz { cls := .type "list", data := .seq vs.toArray } (.lst (ns.map V.int))) else none, .inl (.inr ⟨_, if_pos rfl⟩), fun b u z => ?_, fun b u z => ?_⟩
      all_goals
        by_cases eb : b = a
        · have z2 := (if_pos eb).symm.trans z
          obtain rfl := Option.some.inj z2
          subst eb
          first
            | exact ⟨rfl, rfl, _, _, rfl⟩
            | exact ⟨hobj, by rw [List.length_map]; exact nlen, vs, _, rvs, hobj⟩
        · have z2 := (if_neg eb).symm.trans z
          cases z2
  have hid : ∀ {b : Addr} {o : Obj}, s1.heap.get? b = some o → H b = none → (hidT s1.heap H).get? b = some o := fun e n => hidT_get e n
  -- no dict is tracked
  have nsp : ∀ {b : Addr} {m : Str → Option Value}, s1.heap.Ns b m → (hidT s1.heap H).Ns b m := by
    rintro b m ⟨o, es, ep, e, dd, rest⟩
    refine ⟨o, es, ep, hid e ?_, dd, rest⟩
    cases hb : H b with
    | none => rfl
    | some u =>
      obtain ⟨rfl, _⟩ := only b u hb
      rw [hobj] at e
      obtain rfl := Option.some.inj e
      exact nomatch (show Data.seq vs.toArray _ = Data.dict es ep from dd)
  have kin2 : K.In (hidT s1.heap H) := fun b o e => hid (kin b o e) (by
    cases hb : H b with
    | none => rfl
    | some u =>
      obtain ⟨rfl, kn, _⟩ := only b u hb
      rw [kn] at e
      cases e)
  have lim2 : (hidT s1.heap H).NoLimit := by
    obtain ⟨mc, c1, c2⟩ := hlim
    exact ⟨mc, nsp c1, c2⟩
  have env : Env0 P w K mg (hidT s1.heap H) callerA [] s1 H :=
    { frames := rfl, mod := ⟨kin2, nsp hglo, ⟨mb, nsp hblt, hboot⟩, lim2⟩, bs := fun b o e => of_hidT e, bsz := Nat.le_of_eq (hidT_size _ _), funs := trivial, frf := fun b hb => (nomatch (show b ∈ ([] : List Addr) from hb)), hok := hok, bare := .of_eq hgen }
  refine codeAny_mono (run _ H env hS) fun r s' hr => ?_
  match r, hr with
  | .error e, hr => exact hr.elim
  | .ok .next, hr => exact False.elim hr
  | .ok .brk, hr => exact False.elim hr
  | .ok .cont, hr => exact False.elim hr
  | .ok (.ret u), hr =>
    obtain ⟨v, H2, os2, bare2, un, hok2, ru, qv⟩ := hr
    obtain rfl : v = .bl true := qv
    obtain rfl : u = Value.bool true := ru
    refine ⟨rfl, OldK.of_keep fun b o e => ?_, os2, bare2⟩
    cases hb : H b with
    | none => exact un.keep b o e hb (fun z => (nomatch (show b ∈ ([] : List Addr) from z))) (fun z => (nomatch z))
    | some t =>
      obtain ⟨_, _, ob, xs, rfl⟩ := only b t hb
      have k1 := (hok b _ hb).1
      have k2 := (hok2 b _ (un.frzs b ob _ hb)).1
      rw [e] at k1
      rw [k2, Option.some.inj k1]
end Lp

set_option maxRecDepth 100000
/-! The top's defs in one bundle; the law's run over it. -/
namespace Lp
open PySem PySem.Spec PyProof.Rows L2

/-- a def of the top, from what the head tells -/
theorem df_mk {K : PySem.W.Frag} {h : Heap} {mg : Str → Option Value} {x : Str} {st : Stmt} {ps : List Str} {f : Addr} {oc : Value} {od an : Option Addr} {sl : Array (Option Value)} {kV doc pm cd ct : Value} (X : K.In h) (G : h.Ns mainGlobals mg)
    (hb : ∀ (kV doc pm : Value) (an : Option Addr) (cdv ct : Value) (us : List Value), us.length = ps.length → bindArgs (PySem.W.fnOf x x (defArgs st) (defBody st) (defScope st) .none kV doc pm an cdv ct) ⟨us, []⟩ = pure (ps.zip us))
    (a : PySem.W.nsIn K mainGlobals x = some (some (.ref f))) (l : K.lookup f = some ⟨oc, od, .func (PySem.W.fnOf x x (defArgs st) (defBody st) (defScope st) .none kV doc pm an cd ct), sl⟩) (c : PySem.W.codeIn K cd x = true) (k : PySem.W.keepIn K (.ref f) = true) :
    ∃ f fd, Df K mg x st ps f fd := by
  have F := fun_mk (st := st) l c k
  exact ⟨f, _, F, F.binds hb, PySem.W.mg_of X G a⟩
structure Tops (K : PySem.W.Frag) (mg : Str → Option Value) : Prop where
  d_isI : ∃ f fd, Df K mg "is_integer" sIsI ["value"] f fd
  d_isN : ∃ f fd, Df K mg "is_number" sIsN ["value"] f fd
  d_tsz : ∃ f fd, Df K mg "table_size" sTsz ["table"] f fd
  d_ent : ∃ f fd, Df K mg "entry" sEnt ["table", "m"] f fd
  d_strt : ∃ f fd, Df K mg "stretches" sStr ["m", "b"] f fd
  d_put : ∃ f fd, Df K mg "put_parts" sPut ["shape", "begin", "found"] f fd
  d_prt : ∃ f fd, Df K mg "parts_of" sParts ["shape"] f fd
  d_wrong : ∃ f fd, Df K mg "wrong_stretch" sWrong ["table", "b", "m"] f fd
  d_abv : ∃ f fd, Df K mg "above" sAbv ["shape", "pairs", "begin"] f fd
  d_sab : ∃ f fd, Df K mg "shape_above" sSab ["table", "b", "m"] f fd
  d_cnt : ∃ f fd, Df K mg "counter" sCnt ["table", "b"] f fd
  d_isc : ∃ f fd, Df K mg "is_cut" sIsc ["table", "b"] f fd
  d_cuts : ∃ f fd, Df K mg "cuts" sCuts ["table"] f fd
  d_beh : ∃ f fd, Df K mg "behind" sBeh ["table", "b"] f fd
  d_pri : ∃ f fd, Df K mg "is_prime_table" sPri ["table"] f fd
  d_primes : ∃ f fd, Df K mg "primes" sPrimes ["table"] f fd
  d_src : ∃ f fd, Df K mg "_law_source" sSrc ["_law_script"] f fd
  d_pick : ∃ f fd, Df K mg "_law_pick" sPick ["_law_source_here", "_law_many"] f fd
  d_off : ∃ f fd, Df K mg "_law_of" sOf ["_law_source_here", "_law_some"] f fd
  d_lsz : ∃ f fd, Df K mg "_law_size" sLsz ["_law_shape_here"] f fd
  d_shp : ∃ f fd, Df K mg "_law_shape" sShp ["_law_source_here", "_law_size_here"] f fd
  d_tbl : ∃ f fd, Df K mg "_law_table" sTbl ["_law_source_here", "_law_size_here"] f fd
  d_lent : ∃ f fd, Df K mg "_law_entry" sLent ["_law_table_here", "_law_m"] f fd
  d_lstr : ∃ f fd, Df K mg "_law_stretches" sLstr ["_law_m", "_law_b"] f fd
  d_fill : ∃ f fd, Df K mg "_law_filled" sFill ["_law_shape_here", "_law_parts"] f fd
  d_glue : ∃ f fd, Df K mg "_law_glued" sGlue ["_law_s", "_law_t"] f fd
  d_lum : ∃ f fd, Df K mg "_law_lumps" sLum ["_law_shape_here", "_law_begin"] f fd
  d_lab : ∃ f fd, Df K mg "_law_above" sLab ["_law_shape_here", "_law_begin", "_law_pairs"] f fd
  d_lbe : ∃ f fd, Df K mg "_law_behind" sLbe ["_law_table_here", "_law_b"] f fd
  d_lcu : ∃ f fd, Df K mg "_law_cuts" sLcu ["_law_table_here"] f fd
  d_lpr : ∃ f fd, Df K mg "_law_primes" sLpr ["_law_table_here"] f fd
  d_stir : ∃ f fd, Df K mg "_law_stirred" sStir ["_law_source_here", "_law_shape_here"] f fd
  d_bent : ∃ f fd, Df K mg "_law_bent" sBent ["_law_source_here", "_law_table_here"] f fd
  d_ret : ∃ f fd, Df K mg "_law_retopped" sRet ["_law_source_here", "_law_table_here", "_law_b"] f fd
  d_some : ∃ f fd, Df K mg "_law_some_table" sSome ["_law_source_here", "_law_most"] f fd
  d_law : ∃ f fd, Df K mg "law" sLaw ["_law_script"] f fd
  n_len : mg "len" = none
  n_range : mg "range" = none
  n_min : mg "min" = none
  n_enumerate : mg "enumerate" = none
  n_tuple : mg "tuple" = none
  n_isinstance : mg "isinstance" = none
  n_int : mg "int" = none
  n_bool : mg "bool" = none
  n_abs : mg "abs" = none
  n_max : mg "max" = none
  n_repr : mg "repr" = none
  n_all : mg "all" = none

/-- the law's run, wherever no repr is under way -/
theorem law_run {P : Program} {w : World} {K : PySem.W.Frag} {mg : Str → Option Value} {base : Heap} (T : Tops K mg) {fa a : Addr} {ns : List Int} {s : Shared} {H : Hp} (hfa : mg "law" = some (.ref fa)) (e0 : Env0 P w K mg base callerA [] s H) (hS : SqL K H a (ns.map V.int)) (h63 : ns.length ≤ 63) :
    codeAny (model P w) callerA (.call (.ref fa) ⟨[.ref a], []⟩) (CR CX0 [] P w H s (fun v _ => v = .bl true) E0) s := by
  obtain ⟨f_isI, fd_isI, D_isI⟩ := T.d_isI
  obtain ⟨f_isN, fd_isN, D_isN⟩ := T.d_isN
  obtain ⟨f_tsz, fd_tsz, D_tsz⟩ := T.d_tsz
  obtain ⟨f_ent, fd_ent, D_ent⟩ := T.d_ent
  obtain ⟨f_strt, fd_strt, D_strt⟩ := T.d_strt
  obtain ⟨f_put, fd_put, D_put⟩ := T.d_put
  obtain ⟨f_prt, fd_prt, D_prt⟩ := T.d_prt
  obtain ⟨f_wrong, fd_wrong, D_wrong⟩ := T.d_wrong
  obtain ⟨f_abv, fd_abv, D_abv⟩ := T.d_abv
  obtain ⟨f_sab, fd_sab, D_sab⟩ := T.d_sab
  obtain ⟨f_cnt, fd_cnt, D_cnt⟩ := T.d_cnt
  obtain ⟨f_isc, fd_isc, D_isc⟩ := T.d_isc
  obtain ⟨f_cuts, fd_cuts, D_cuts⟩ := T.d_cuts
  obtain ⟨f_beh, fd_beh, D_beh⟩ := T.d_beh
  obtain ⟨f_pri, fd_pri, D_pri⟩ := T.d_pri
  obtain ⟨f_primes, fd_primes, D_primes⟩ := T.d_primes
  obtain ⟨f_src, fd_src, D_src⟩ := T.d_src
  obtain ⟨f_pick, fd_pick, D_pick⟩ := T.d_pick
  obtain ⟨f_off, fd_off, D_off⟩ := T.d_off
  obtain ⟨f_lsz, fd_lsz, D_lsz⟩ := T.d_lsz
  obtain ⟨f_shp, fd_shp, D_shp⟩ := T.d_shp
  obtain ⟨f_tbl, fd_tbl, D_tbl⟩ := T.d_tbl
  obtain ⟨f_lent, fd_lent, D_lent⟩ := T.d_lent
  obtain ⟨f_lstr, fd_lstr, D_lstr⟩ := T.d_lstr
  obtain ⟨f_fill, fd_fill, D_fill⟩ := T.d_fill
  obtain ⟨f_glue, fd_glue, D_glue⟩ := T.d_glue
  obtain ⟨f_lum, fd_lum, D_lum⟩ := T.d_lum
  obtain ⟨f_lab, fd_lab, D_lab⟩ := T.d_lab
  obtain ⟨f_lbe, fd_lbe, D_lbe⟩ := T.d_lbe
  obtain ⟨f_lcu, fd_lcu, D_lcu⟩ := T.d_lcu
  obtain ⟨f_lpr, fd_lpr, D_lpr⟩ := T.d_lpr
  obtain ⟨f_stir, fd_stir, D_stir⟩ := T.d_stir
  obtain ⟨f_bent, fd_bent, D_bent⟩ := T.d_bent
  obtain ⟨f_ret, fd_ret, D_ret⟩ := T.d_ret
  obtain ⟨f_some, fd_some, D_some⟩ := T.d_some
  obtain ⟨f_law, fd_law, D_law⟩ := T.d_law
  obtain rfl : f_law = fa := by
    have := D_law.g.symm.trans hfa
    cases this
    rfl
  have kin : K.In s.heap := e0.mod.kin.keeps fun b o e => (e0.bs b o e).1
  -- the package
  have G_put := ok_put (P := P) (w := w) (base := base) D_put 60 (Nat.le_refl _)
  have G_prt : FnOk P w K mg base CX0 61 _ _ _ _ := ok_parts D_prt.F D_put
  have G_wrong : FnOk P w K mg base CX0 62 _ _ _ _ := ok_wrong D_wrong.F D_prt G_prt D_ent D_strt T.n_enumerate T.n_range T.n_min
  have G_sab : FnOk P w K mg base CX0 61 _ _ _ _ := ok_sab D_sab.F D_abv D_ent D_strt T.n_range T.n_min
  have G_cnt : FnOk P w K mg base CX0 63 _ _ _ _ := ok_cnt D_cnt.F D_tsz D_wrong D_strt D_sab G_wrong G_sab T.n_len T.n_range T.n_min
  have G_isN : FnOk P w K mg base CX0 2 _ _ _ _ := ok_isN D_isN.F D_isI T.n_isinstance T.n_int T.n_bool
  have G_isc : FnOk P w K mg base CX0 64 _ _ _ _ := ok_isc D_isc.F D_isN D_tsz D_cnt G_isN G_cnt T.n_len
  have G_cuts : FnOk P w K mg base CX0 65 _ _ _ _ := ok_cuts D_cuts.F D_tsz D_isc G_isc T.n_len T.n_range
  have G_beh : FnOk P w K mg base CX0 64 _ _ _ _ := ok_beh D_beh.F D_tsz D_cnt D_sab G_cnt G_sab T.n_len T.n_range T.n_tuple
  have G_pri : FnOk P w K mg base CX0 66 _ _ _ _ := ok_pri D_pri.F D_cuts G_cuts
  have G_primes : FnOk P w K mg base CX0 67 _ _ _ _ := ok_primes D_primes.F D_pri D_cuts D_beh G_pri G_cuts G_beh
  -- the law's own defs
  have G_fill := ok_fill (P := P) (w := w) (base := base) D_fill D_lsz 60 (Nat.le_refl _)
  have G_glue : FnOk P w K mg base CX0 121 _ _ _ _ := ok_glue D_glue.F D_lent D_lstr D_fill G_fill T.n_len T.n_range T.n_min T.n_tuple
  have G_lum := ok_lum (P := P) (w := w) (base := base) D_lum 60 (Nat.le_refl _)
  have G_lab := ok_lab (P := P) (w := w) (base := base) D_lab D_lsz 60 (Nat.le_refl _)
  have G_lbe : FnOk P w K mg base CX0 122 _ _ _ _ := ok_lbe D_lbe.F D_lum D_lstr D_lab D_glue G_lum G_lab G_glue T.n_len T.n_range T.n_min T.n_tuple T.n_all
  have G_lcu : FnOk P w K mg base CX0 123 _ _ _ _ := ok_lcu D_lcu.F D_lbe G_lbe T.n_len T.n_range
  have G_lpr := ok_lpr (P := P) (w := w) (base := base) D_lpr D_lcu D_lbe G_lcu G_lbe 59 (Nat.le_refl _)
  have G_src : FnOk P w K mg base CX0 1 _ _ _ _ := ok_src D_src.F T.n_int T.n_abs
  have G_pick : FnOk P w K mg base CX0 1 _ _ _ _ := ok_pick D_pick.F T.n_len T.n_max T.n_int
  have G_off : FnOk P w K mg base CX0 2 _ _ _ _ := ok_of D_off.F D_pick G_pick T.n_len
  have G_shp := ok_shp (P := P) (w := w) (base := base) D_shp D_pick D_off G_pick G_off 60 (Nat.le_refl _)
  have G_tbl : FnOk P w K mg base CX0 63 _ _ _ _ := ok_tbl D_tbl.F D_shp G_shp T.n_range T.n_tuple
  have G_stir := ok_stir (P := P) (w := w) (base := base) D_stir D_lsz D_pick D_shp G_pick G_shp 60 (Nat.le_refl _)
  have G_bent : FnOk P w K mg base CX0 123 _ _ _ _ := ok_bent D_bent.F D_pick D_stir G_pick G_stir T.n_len
  have G_ret : FnOk P w K mg base CX0 121 _ _ _ _ := ok_ret D_ret.F D_pick D_lent D_lstr D_fill D_shp G_pick G_fill G_shp T.n_len T.n_range T.n_min
  have G_some : FnOk P w K mg base CX0 124 _ _ _ _ := ok_some D_some.F D_pick D_tbl D_glue D_bent D_ret G_pick G_tbl G_glue G_bent G_ret T.n_len T.n_min
  exact ok_law D_law.F D_src D_pick D_some D_primes D_lpr D_glue D_pri G_src G_pick G_some G_primes G_lpr G_glue G_pri T.n_repr T.n_len T.n_all ⟨rfl, by decide, by decide⟩ rfl e0 (D_law.b s [.ref a] kin rfl) (.cons rfl .nil) hS h63 fun _ => rfl

/-- the goal that the head leaves -/
theorem walk_law {l : PySem.W.OpenLaw} {q : Program} {loose : List Str} {XP : (Str → Option Value) → Heap → Prop} {YP : World → Heap → Prop} {d : DefRec} {K : Params → PySem.W.Frag} (hn : l.most = some 63) (hdf : d.params.defaults = []) (hd : d.name = ("law" : Str))
    (hY : ∀ (w : World) (h : Heap), YP w h → (K w.params).In h) (T : ∀ (w : World) (mg : Str → Option Value) (h : Heap), (K w.params).In h → h.Ns mainGlobals mg → Tops (K w.params) mg) : PySem.W.WalkO q loose XP YP l.row.toRowW d [] (fun f vs => PySem.call f vs) := by
  refine Att.attach_call hn hdf fun w s0 s1 mg mb fa o pm cd doc a vs ns G Y _ _ _ hmg hobj hints hlen hg => ?_
  have kin := hY w _ Y
  rw [hd] at hmg
  exact law_go kin G.T.g G.T.b G.T.builtins G.T.nolimit hg hobj hints hlen fun base H e0 hS => law_run (T w mg _ kin G.T.g) hmg e0 hS hlen
end Lp

open PySem PySem.W PyProof.Rows
set_option maxRecDepth 100000 in
set_option maxHeartbeats 0 in
theorem PySem.Challenge.cw_lumpplans_k16_whole_primes_told_holds : PySem.Challenge.rw_lumpplans_k16_whole_primes_told.Holds := by
  w_on; o_law; k_head; (case hw => w_witness2)
  k_fill
  refine Lp.walk_law (l := PySem.Challenge.rw_lumpplans_k16_whole_primes_told) rfl rfl rfl (fun w h Y => PySem.W.kIn_of Y) ?F
  case F =>
    intro w mg h KX G
    refine Lp.Tops.mk ?d_isI ?d_isN ?d_tsz ?d_ent ?d_strt ?d_put ?d_prt ?d_wrong ?d_abv ?d_sab ?d_cnt ?d_isc ?d_cuts ?d_beh ?d_pri ?d_primes ?d_src ?d_pick ?d_off ?d_lsz ?d_shp ?d_tbl ?d_lent ?d_lstr ?d_fill ?d_glue ?d_lum ?d_lab ?d_lbe ?d_lcu ?d_lpr ?d_stir ?d_bent ?d_ret ?d_some ?d_law ?n_len ?n_range ?n_min ?n_enumerate ?n_tuple ?n_isinstance ?n_int ?n_bool ?n_abs ?n_max ?n_repr ?n_all
    case d_isI =>
      refine' Lp.df_mk KX G (fun _ _ _ _ _ _ us hl => match us, hl with | [_], _ => rfl) ?a ?l ?c ?k
      (case a => k_is); (case l => k_is); (case c => k_is); (case k => k_is)
    case d_isN =>
      refine' Lp.df_mk KX G (fun _ _ _ _ _ _ us hl => match us, hl with | [_], _ => rfl) ?a ?l ?c ?k
      (case a => k_is); (case l => k_is); (case c => k_is); (case k => k_is)
    case d_tsz =>
      refine' Lp.df_mk KX G (fun _ _ _ _ _ _ us hl => match us, hl with | [_], _ => rfl) ?a ?l ?c ?k
      (case a => k_is); (case l => k_is); (case c => k_is); (case k => k_is)
    case d_ent =>
      refine' Lp.df_mk KX G (fun _ _ _ _ _ _ us hl => match us, hl with | [_, _], _ => rfl) ?a ?l ?c ?k
      (case a => k_is); (case l => k_is); (case c => k_is); (case k => k_is)
    case d_strt =>
      refine' Lp.df_mk KX G (fun _ _ _ _ _ _ us hl => match us, hl with | [_, _], _ => rfl) ?a ?l ?c ?k
      (case a => k_is); (case l => k_is); (case c => k_is); (case k => k_is)
    case d_put =>
      refine' Lp.df_mk KX G (fun _ _ _ _ _ _ us hl => match us, hl with | [_, _, _], _ => rfl) ?a ?l ?c ?k
      (case a => k_is); (case l => k_is); (case c => k_is); (case k => k_is)
    case d_prt =>
      refine' Lp.df_mk KX G (fun _ _ _ _ _ _ us hl => match us, hl with | [_], _ => rfl) ?a ?l ?c ?k
      (case a => k_is); (case l => k_is); (case c => k_is); (case k => k_is)
    case d_wrong =>
      refine' Lp.df_mk KX G (fun _ _ _ _ _ _ us hl => match us, hl with | [_, _, _], _ => rfl) ?a ?l ?c ?k
      (case a => k_is); (case l => k_is); (case c => k_is); (case k => k_is)
    case d_abv =>
      refine' Lp.df_mk KX G (fun _ _ _ _ _ _ us hl => match us, hl with | [_, _, _], _ => rfl) ?a ?l ?c ?k
      (case a => k_is); (case l => k_is); (case c => k_is); (case k => k_is)
    case d_sab =>
      refine' Lp.df_mk KX G (fun _ _ _ _ _ _ us hl => match us, hl with | [_, _, _], _ => rfl) ?a ?l ?c ?k
      (case a => k_is); (case l => k_is); (case c => k_is); (case k => k_is)
    case d_cnt =>
      refine' Lp.df_mk KX G (fun _ _ _ _ _ _ us hl => match us, hl with | [_, _], _ => rfl) ?a ?l ?c ?k
      (case a => k_is); (case l => k_is); (case c => k_is); (case k => k_is)
    case d_isc =>
      refine' Lp.df_mk KX G (fun _ _ _ _ _ _ us hl => match us, hl with | [_, _], _ => rfl) ?a ?l ?c ?k
      (case a => k_is); (case l => k_is); (case c => k_is); (case k => k_is)
    case d_cuts =>
      refine' Lp.df_mk KX G (fun _ _ _ _ _ _ us hl => match us, hl with | [_], _ => rfl) ?a ?l ?c ?k
      (case a => k_is); (case l => k_is); (case c => k_is); (case k => k_is)
    case d_beh =>
      refine' Lp.df_mk KX G (fun _ _ _ _ _ _ us hl => match us, hl with | [_, _], _ => rfl) ?a ?l ?c ?k
      (case a => k_is); (case l => k_is); (case c => k_is); (case k => k_is)
    case d_pri =>
      refine' Lp.df_mk KX G (fun _ _ _ _ _ _ us hl => match us, hl with | [_], _ => rfl) ?a ?l ?c ?k
      (case a => k_is); (case l => k_is); (case c => k_is); (case k => k_is)
    case d_primes =>
      refine' Lp.df_mk KX G (fun _ _ _ _ _ _ us hl => match us, hl with | [_], _ => rfl) ?a ?l ?c ?k
      (case a => k_is); (case l => k_is); (case c => k_is); (case k => k_is)
    case d_src =>
      refine' Lp.df_mk KX G (fun _ _ _ _ _ _ us hl => match us, hl with | [_], _ => rfl) ?a ?l ?c ?k
      (case a => k_is); (case l => k_is); (case c => k_is); (case k => k_is)
    case d_pick =>
      refine' Lp.df_mk KX G (fun _ _ _ _ _ _ us hl => match us, hl with | [_, _], _ => rfl) ?a ?l ?c ?k
      (case a => k_is); (case l => k_is); (case c => k_is); (case k => k_is)
    case d_off =>
      refine' Lp.df_mk KX G (fun _ _ _ _ _ _ us hl => match us, hl with | [_, _], _ => rfl) ?a ?l ?c ?k
      (case a => k_is); (case l => k_is); (case c => k_is); (case k => k_is)
    case d_lsz =>
      refine' Lp.df_mk KX G (fun _ _ _ _ _ _ us hl => match us, hl with | [_], _ => rfl) ?a ?l ?c ?k
      (case a => k_is); (case l => k_is); (case c => k_is); (case k => k_is)
    case d_shp =>
      refine' Lp.df_mk KX G (fun _ _ _ _ _ _ us hl => match us, hl with | [_, _], _ => rfl) ?a ?l ?c ?k
      (case a => k_is); (case l => k_is); (case c => k_is); (case k => k_is)
    case d_tbl =>
      refine' Lp.df_mk KX G (fun _ _ _ _ _ _ us hl => match us, hl with | [_, _], _ => rfl) ?a ?l ?c ?k
      (case a => k_is); (case l => k_is); (case c => k_is); (case k => k_is)
    case d_lent =>
      refine' Lp.df_mk KX G (fun _ _ _ _ _ _ us hl => match us, hl with | [_, _], _ => rfl) ?a ?l ?c ?k
      (case a => k_is); (case l => k_is); (case c => k_is); (case k => k_is)
    case d_lstr =>
      refine' Lp.df_mk KX G (fun _ _ _ _ _ _ us hl => match us, hl with | [_, _], _ => rfl) ?a ?l ?c ?k
      (case a => k_is); (case l => k_is); (case c => k_is); (case k => k_is)
    case d_fill =>
      refine' Lp.df_mk KX G (fun _ _ _ _ _ _ us hl => match us, hl with | [_, _], _ => rfl) ?a ?l ?c ?k
      (case a => k_is); (case l => k_is); (case c => k_is); (case k => k_is)
    case d_glue =>
      refine' Lp.df_mk KX G (fun _ _ _ _ _ _ us hl => match us, hl with | [_, _], _ => rfl) ?a ?l ?c ?k
      (case a => k_is); (case l => k_is); (case c => k_is); (case k => k_is)
    case d_lum =>
      refine' Lp.df_mk KX G (fun _ _ _ _ _ _ us hl => match us, hl with | [_, _], _ => rfl) ?a ?l ?c ?k
      (case a => k_is); (case l => k_is); (case c => k_is); (case k => k_is)
    case d_lab =>
      refine' Lp.df_mk KX G (fun _ _ _ _ _ _ us hl => match us, hl with | [_, _, _], _ => rfl) ?a ?l ?c ?k
      (case a => k_is); (case l => k_is); (case c => k_is); (case k => k_is)
    case d_lbe =>
      refine' Lp.df_mk KX G (fun _ _ _ _ _ _ us hl => match us, hl with | [_, _], _ => rfl) ?a ?l ?c ?k
      (case a => k_is); (case l => k_is); (case c => k_is); (case k => k_is)
    case d_lcu =>
      refine' Lp.df_mk KX G (fun _ _ _ _ _ _ us hl => match us, hl with | [_], _ => rfl) ?a ?l ?c ?k
      (case a => k_is); (case l => k_is); (case c => k_is); (case k => k_is)
    case d_lpr =>
      refine' Lp.df_mk KX G (fun _ _ _ _ _ _ us hl => match us, hl with | [_], _ => rfl) ?a ?l ?c ?k
      (case a => k_is); (case l => k_is); (case c => k_is); (case k => k_is)
    case d_stir =>
      refine' Lp.df_mk KX G (fun _ _ _ _ _ _ us hl => match us, hl with | [_, _], _ => rfl) ?a ?l ?c ?k
      (case a => k_is); (case l => k_is); (case c => k_is); (case k => k_is)
    case d_bent =>
      refine' Lp.df_mk KX G (fun _ _ _ _ _ _ us hl => match us, hl with | [_, _], _ => rfl) ?a ?l ?c ?k
      (case a => k_is); (case l => k_is); (case c => k_is); (case k => k_is)
    case d_ret =>
      refine' Lp.df_mk KX G (fun _ _ _ _ _ _ us hl => match us, hl with | [_, _, _], _ => rfl) ?a ?l ?c ?k
      (case a => k_is); (case l => k_is); (case c => k_is); (case k => k_is)
    case d_some =>
      refine' Lp.df_mk KX G (fun _ _ _ _ _ _ us hl => match us, hl with | [_, _], _ => rfl) ?a ?l ?c ?k
      (case a => k_is); (case l => k_is); (case c => k_is); (case k => k_is)
    case d_law =>
      refine' Lp.df_mk KX G (fun _ _ _ _ _ _ us hl => match us, hl with | [_], _ => rfl) ?a ?l ?c ?k
      (case a => k_is); (case l => k_is); (case c => k_is); (case k => k_is)
    case n_len => refine PySem.W.mg_none_of KX G ?z; (case z => k_is)
    case n_range => refine PySem.W.mg_none_of KX G ?z; (case z => k_is)
    case n_min => refine PySem.W.mg_none_of KX G ?z; (case z => k_is)
    case n_enumerate => refine PySem.W.mg_none_of KX G ?z; (case z => k_is)
    case n_tuple => refine PySem.W.mg_none_of KX G ?z; (case z => k_is)
    case n_isinstance => refine PySem.W.mg_none_of KX G ?z; (case z => k_is)
    case n_int => refine PySem.W.mg_none_of KX G ?z; (case z => k_is)
    case n_bool => refine PySem.W.mg_none_of KX G ?z; (case z => k_is)
    case n_abs => refine PySem.W.mg_none_of KX G ?z; (case z => k_is)
    case n_max => refine PySem.W.mg_none_of KX G ?z; (case z => k_is)
    case n_repr => refine PySem.W.mg_none_of KX G ?z; (case z => k_is)
    case n_all => refine PySem.W.mg_none_of KX G ?z; (case z => k_is)
