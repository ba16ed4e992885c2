import PyProof.Rows.All
import Wide.All
import OpenK.AllK
import Wide.FinOn
import HandS.ForMost
import HandS.Zip
import HandS.Flow
import HandS.TupAny
import HandS.Conv
import HandS.IsInst
import HandS.Style
import HandS.Strs
import HandS.SetFor
import HandS.Wide
import KE.SortData
import KE.DataMinMax
import KE.GoesEnum
import HandS.TupSets
import KE.KDictWalk
import KE.KDictSum
import PyProof.DictMoreH
import PyProof.Transfer
import HandS.DictComp
import HandS.More
import HandS.Defaults
import HandS.Head0
import HandS.Head1
import HandS.Head2
import HandS.HeadEnd
import HandS.HeadHook1
import HandS.HeadHook2
import PySem.Challenge.RW_tasterow_k83_whole_spans_as_tables
set_option Elab.async false
set_option linter.all false
/-! M1: the plain functions -/
namespace TR
abbrev Line := List (Int × Int)
def iN (r : List Nat) : List Int := r.map fun n : Nat => (n : Int)
def IsRk (d : Nat) (r : List Nat) : Prop := r.Perm (List.range d)
def pos (r : List Nat) (x : Nat) : Nat := r.findIdx (· == x)
def posL (r : List Nat) : List Nat := (List.range r.length).map (pos r)
def pairs (d : Nat) : List (Nat × Nat) := (List.range d).flatMap fun a => (List.range (d - (a + 1))).map fun i => (a, a + 1 + i)
def before (r : List Nat) (p : Nat × Nat) : Bool := decide (pos r p.1 < pos r p.2)
def diffs (d : Nat) (r s : List Nat) : List (Nat × Nat) := (pairs d).filter fun p => before r p != before s p
def dist (d : Nat) (r s : List Nat) : Nat := (diffs d r s).length
/-- is_between(one, other, third) -/
def betw (d : Nat) (r s t : List Nat) : Bool := decide (dist d r t + dist d t s = dist d r s)
/-! lines -/
def worth (p : Int × Int) (t : Int) : Int := 0 - p.1 - p.2 * t
def worths (L : Line) (t : Int) : List (Int × Nat) := L.mapIdx fun i p => (worth p t, i)
def leW (x y : Int × Nat) : Bool := decide (x.1 < y.1 ∨ (x.1 = y.1 ∧ (x.2 : Int) ≤ y.2))
def rank (L : Line) (t : Int) : List Nat := ((worths L t).mergeSort leW).map (·.2)
def gapOf (L : Line) (p : Nat × Nat) : Int := (L.getD p.1 (0, 0)).1 - (L.getD p.2 (0, 0)).1
def slopeOf (L : Line) (p : Nat × Nat) : Int := (L.getD p.1 (0, 0)).2 - (L.getD p.2 (0, 0)).2
def chg (L : Line) (p : Nat × Nat) : Option Int :=
  if 0 ≤ gapOf L p then (if slopeOf L p < 0 then some (gapOf L p / (0 - slopeOf L p) + 1) else none)
  else (if 0 < slopeOf L p then some ((slopeOf L p - 1 - gapOf L p) / slopeOf L p) else none)
abbrev Chg := Int × Nat × Nat
def okC (low high : Int) (q : Option Int × Nat × Nat) : Bool := match q.1 with
  | some t => decide (low < t) && decide (t ≤ high)
  | none => false
def rawC (L : Line) (low high : Int) : List Chg := (((pairs L.length).map fun p => (chg L p, p)).filter (okC low high)).map fun q => (q.1.getD 0, q.2)
def leC (x y : Chg) : Bool := decide (x.1 < y.1 ∨ (x.1 = y.1 ∧ (x.2.1 < y.2.1 ∨ (x.2.1 = y.2.1 ∧ x.2.2 ≤ y.2.2))))
def lchanges (L : Line) (low high : Int) : List Chg := (rawC L low high).mergeSort leC
def times (L : Line) (low high : Int) : List Int := ((List.range (high - low).toNat).map fun i => low + 1 + (i : Nat)).filter fun t => decide (t ∈ (lchanges L low high).map (·.1))
abbrev Seg := Int × Int × List Nat
def segs (L : Line) (low high : Int) : List Seg := ((low :: times L low high).zip ((times L low high).map (· - 1) ++ [high])).map fun q => (q.1, q.2, rank L q.1)
/-! tables: rows -/
def onceL (d : Nat) (R : List (List Nat)) (o : List Nat) : List (Nat × Nat) := (o.zip o.tail).flatMap fun q => diffs d (R.getD q.1 []) (R.getD q.2 [])
def once (d : Nat) (R : List (List Nat)) (o : List Nat) : Bool := decide (onceL d R o).Nodup
def spl (d : Nat) (R : List (List Nat)) (p : Nat × Nat) : List Nat := (List.range R.length).filter fun j => decide (p ∈ diffs d (R.getD 0 []) (R.getD j []))
def dedupF : List (List Nat) → List (List Nat) → List (List Nat)
  | acc, [] => acc
  | acc, k :: ks => dedupF (if k ∈ acc then acc else acc ++ [k]) ks
def splK (d : Nat) (R : List (List Nat)) : List (List Nat) := (dedupF [] ((pairs d).map (spl d R))).filter fun k => !k.isEmpty
def largestF (S : List (List Nat)) : List Nat := S.foldl (fun r m => if r.length < m.length then m else r) []
def offs (t : Nat) (S : List (List Nat)) (right : List Nat) : Int := if t ∈ right then ((S.filter fun m => decide (t ∈ m)).length : Int) else 0 - ((S.filter fun m => decide (t ∈ m)).length : Int)
def gAdd (gs : List (List Nat × List Nat)) (k : List Nat) (t : Nat) : List (List Nat × List Nat) := if k ∈ gs.map (·.1) then gs.map (fun g => if g.1 = k then (g.1, g.2 ++ [t]) else g) else gs ++ [(k, [t])]
def gOf (R : List (List Nat)) : Nat → List (List Nat × List Nat)
  | 0 => []
  | n + 1 => match R[n]? with
    | some k => gAdd (gOf R n) k n
    | none => gOf R n
def grp (R : List (List Nat)) : List (List Nat) := (gOf R R.length).map (·.2)
def best (r m : List Nat) : Nat := (r.filter fun x => decide (x ∈ m)).headD 0
def costF (R : List (List Nat)) (m : List Nat) : Nat := (R.map fun r => pos r (best r m)).sum
/-! spans -/
def lsupport (L : Line) (low high : Int) (a b : Nat) : Int := (((segs L low high).filter fun s => before s.2.2 (a, b)).map fun s => s.2.1 - s.1 + 1).sum
def lmedRaw (L : Line) (low high : Int) : List (List Nat) := ((segs L low high).filter fun s => decide (2 * (s.1 - low) ≤ high - low + 1) && decide (high - low + 1 ≤ 2 * (s.2.1 - low + 1))).map (·.2.2)
def chAdd (acc : List (Nat × Int × Int)) (m : List Nat) (s : Seg) : List (Nat × Int × Int) := match acc.getLast? with
  | some x => if x.1 = best s.2.2 m then acc.dropLast ++ [(best s.2.2 m, x.2.1, s.2.1)] else acc ++ [(best s.2.2 m, s.1, s.2.1)]
  | none => acc ++ [(best s.2.2 m, s.1, s.2.1)]
def lchoices (L : Line) (low high : Int) (m : List Nat) : List (Nat × Int × Int) := (segs L low high).foldl (fun acc s => chAdd acc m s) []
def lcost (L : Line) (low high : Int) (m : List Nat) : Int := ((segs L low high).map fun s => (s.2.1 - s.1 + 1) * (pos s.2.2 (best s.2.2 m) : Int)).sum
def leI (x y : Int × Int) : Bool := decide (x.1 < y.1 ∨ (x.1 = y.1 ∧ x.2 ≤ y.2))
def mgAdd (acc : List (Int × Int)) (q : Int × Int) : List (Int × Int) := match acc.getLast? with
  | some x => if q.1 ≤ x.2 + 1 then acc.dropLast ++ [(x.1, max q.2 x.2)] else acc ++ [q]
  | none => acc ++ [q]
def merge (rs : List (Int × Int)) : List (Int × Int) := (rs.mergeSort leI).foldl mgAdd []
def insStep (d : Nat) (r : List Nat) (prev : Option Seg) (s : Seg) : List (Int × Int) :=
  (if s.2.2 = r then [(s.1, s.2.1 + 1)] else []) ++ (match prev with
    | some q => if betw d q.2.2 s.2.2 r then [(s.1, s.1)] else []
    | none => [])
def insFrom (d : Nat) (r : List Nat) : Option Seg → List Seg → List (Int × Int)
  | _, [] => []
  | prev, s :: ss => insStep d r prev s ++ insFrom d r (some s) ss
def insRaw (L : Line) (low high : Int) (r : List Nat) : List (Int × Int) :=
  let sg := segs L low high
  let hd := (sg.headD (0, 0, [])).2.2
  let tl := (sg.getLastD (0, 0, [])).2.2
  (if betw L.length r tl hd then [(low, low)] else []) ++ (if betw L.length r hd tl then [(high + 1, high + 1)] else []) ++ insFrom L.length r none sg
def insR (L : Line) (low high : Int) (r : List Nat) : List (Int × Int) := merge (insRaw L low high r)
/-- seating with the new taster at k -/
def putAt (n k : Nat) : List Nat := (List.range n).take k ++ n :: (List.range n).drop k
def insPos (d : Nat) (R : List (List Nat)) (r : List Nat) : List Nat := (List.range (R.length + 1)).filter fun k => once d (R ++ [r]) (putAt R.length k)
/-! medians of groups: (row, weight) -/
def medGo (whole : Int) : List (List Nat) → Int → List (List Nat × Int) → List (List Nat)
  | res, _, [] => res
  | res, seen, q :: qs => medGo whole (if (res.isEmpty && decide (whole ≤ 2 * (seen + q.2))) || decide (2 * seen = whole) then res ++ [q.1] else res) (seen + q.2) qs
def medRaw (rows : List (List Nat × Int)) : List (List Nat) := medGo (rows.map (·.2)).sum [] 0 rows
def medRows (R : List (List Nat)) (order : List (List Nat)) : List (List Nat × Int) := order.map fun g => (R.getD (g.headD 0) [], (g.length : Int))
end TR
set_option linter.all false
/-! M2: rankings, plainly -/
namespace TR
theorem IsRk.nodup {d : Nat} {r : List Nat} (h : IsRk d r) : r.Nodup := h.nodup_iff.mpr List.nodup_range
theorem IsRk.mem {d : Nat} {r : List Nat} (h : IsRk d r) {x : Nat} : x ∈ r ↔ x < d := by rw [h.mem_iff, List.mem_range]
theorem IsRk.len {d : Nat} {r : List Nat} (h : IsRk d r) : r.length = d := by rw [h.length_eq, List.length_range]
theorem pos_lt {r : List Nat} {x : Nat} (h : x ∈ r) : pos r x < r.length := List.findIdx_lt_length_of_exists ⟨x, h, by simp⟩
theorem pos_at {r : List Nat} {x : Nat} (h : x ∈ r) : r[pos r x]? = some x := by
  have hl := pos_lt h
  have e := List.findIdx_getElem (w := hl)
  rw [List.getElem?_eq_getElem hl]
  have e2 : r[r.findIdx (· == x)] = x := by simpa using e
  exact congrArg some e2
theorem pos_get {r : List Nat} (hn : r.Nodup) {i x : Nat} (h : r[i]? = some x) : pos r x = i := by
  have hx : x ∈ r := List.mem_of_getElem? h
  have h1 := pos_at hx
  have hl := pos_lt hx
  exact (List.getElem?_inj hl hn).mp (h1.trans h.symm)
theorem pos_inj {r : List Nat} {x y : Nat} (hx : x ∈ r) (hy : y ∈ r) (h : pos r x = pos r y) : x = y := by
  have h1 := pos_at hx
  have h2 := pos_at hy
  rw [h] at h1
  exact Option.some.inj (h1.symm.trans h2)
/-- positions_of, as far as it has come -/
def posP (r : List Nat) (i : Nat) : List Nat := (List.range r.length).map fun x => if pos r x < i then pos r x else 0
theorem posP_zero (r : List Nat) : posP r 0 = List.replicate r.length 0 := by
  unfold posP
  apply List.ext_getElem
  · simp
  · intro i h1 h2
    simp
theorem posP_step {d : Nat} {r : List Nat} (h : IsRk d r) {i x : Nat} (hx : r[i]? = some x) : (posP r i).set x i = posP r (i + 1) := by
  have hxr := h.mem.mp (List.mem_of_getElem? hx)
  have hp := pos_get h.nodup hx
  unfold posP
  apply List.ext_getElem
  · simp
  · intro j h1 h2
    have hj : j < d := by simpa [h.len] using h2
    rw [List.getElem_set]
    simp only [List.getElem_map, List.getElem_range]
    by_cases e : x = j
    · subst e
      simp [hp]
    · rw [if_neg e]
      have hne : pos r j ≠ i := fun z => e (pos_inj (List.mem_of_getElem? hx) (h.mem.mpr hj) (hp.trans z.symm))
      by_cases hlt : pos r j < i
      · rw [if_pos hlt, if_pos (by omega)]
      · rw [if_neg hlt, if_neg (by omega)]
theorem posP_end {d : Nat} {r : List Nat} (h : IsRk d r) : posP r r.length = posL r := by
  unfold posP posL
  refine List.map_congr_left fun x hx => ?_
  have hx : x < r.length := List.mem_range.mp hx
  rw [if_pos]
  exact pos_lt (h.mem.mpr (by rw [← h.len]; exact hx))
theorem posL_get {d : Nat} {r : List Nat} (h : IsRk d r) {x : Nat} (hx : x < d) : (posL r)[x]? = some (pos r x) := by
  unfold posL
  rw [List.getElem?_map, List.getElem?_range (by rw [h.len]; exact hx)]
  rfl
theorem mem_pairs {d : Nat} {p : Nat × Nat} : p ∈ pairs d ↔ p.1 < p.2 ∧ p.2 < d := by
  unfold pairs
  rw [List.mem_flatMap]
  constructor
  · rintro ⟨a, ha, h⟩
    obtain ⟨i, hi, rfl⟩ := List.mem_map.mp h
    have h1 := List.mem_range.mp ha
    have h2 := List.mem_range.mp hi
    exact ⟨by show a < a + 1 + i; omega, by show a + 1 + i < d; omega⟩
  · rintro ⟨h1, h2⟩
    refine ⟨p.1, List.mem_range.mpr (by omega), List.mem_map.mpr ⟨p.2 - (p.1 + 1), List.mem_range.mpr (by omega), ?_⟩⟩
    have : p.1 + 1 + (p.2 - (p.1 + 1)) = p.2 := by omega
    rw [this]
theorem pairs_len (d : Nat) (h : d ≤ 8) : (pairs d).length ≤ 28 := by
  have : ∀ d, d < 9 → (pairs d).length ≤ 28 := by decide
  exact this d (by omega)
theorem pairs_nodup (d : Nat) (h : d ≤ 8) : (pairs d).Nodup := by
  have : ∀ d, d < 9 → (pairs d).Nodup := by decide
  exact this d (by omega)
theorem mem_diffs {d : Nat} {r s : List Nat} {p : Nat × Nat} : p ∈ diffs d r s ↔ p ∈ pairs d ∧ before r p ≠ before s p := by
  unfold diffs
  rw [List.mem_filter]
  simp
theorem diffs_len {d : Nat} (h : d ≤ 8) (r s : List Nat) : (diffs d r s).length ≤ 28 := Nat.le_trans (List.length_filter_le _ _) (pairs_len d h)
theorem worths_perm (L : Line) (t : Int) : ((worths L t).map (·.2)).Perm (List.range L.length) := by
  have e : (worths L t).map (·.2) = List.range L.length := by
    unfold worths
    apply List.ext_getElem
    · simp
    · intro i h1 h2
      simp
  rw [e]
theorem rank_rk (L : Line) (t : Int) : IsRk L.length (rank L t) := ((List.mergeSort_perm _ _).map _).trans (worths_perm L t)
end TR
set_option linter.all false
/-! M3: lines, plainly -/
namespace TR
theorem mapIdx_map' {α β : Type} (g : α → β) (L : List α) : L.map g = (L.mapIdx fun i p => (i, p)).map fun q => g q.2 := by
  apply List.ext_getElem
  · simp
  · intro i h1 h2
    simp
theorem rawC_mem {L : Line} {low high : Int} {x : Chg} (h : x ∈ rawC L low high) : x.2 ∈ pairs L.length ∧ chg L x.2 = some x.1 ∧ low < x.1 ∧ x.1 ≤ high := by
  unfold rawC at h
  obtain ⟨q, hq, rfl⟩ := List.mem_map.mp h
  obtain ⟨h1, h2⟩ := List.mem_filter.mp hq
  obtain ⟨p, hp, rfl⟩ := List.mem_map.mp h1
  unfold okC at h2
  simp only at h2 ⊢
  cases e : chg L p with
  | none => rw [e] at h2; cases h2
  | some t =>
    rw [e] at h2
    simp at h2
    exact ⟨hp, rfl, h2.1, h2.2⟩
theorem rawC_len {L : Line} (h : L.length ≤ 8) (low high : Int) : (rawC L low high).length ≤ 28 := by
  unfold rawC
  rw [List.length_map]
  refine Nat.le_trans (List.length_filter_le _ _) ?_
  rw [List.length_map]
  exact pairs_len _ h
theorem lchanges_mem {L : Line} {low high : Int} {x : Chg} : x ∈ lchanges L low high ↔ x ∈ rawC L low high := List.mem_mergeSort
theorem lchanges_len {L : Line} (h : L.length ≤ 8) (low high : Int) : (lchanges L low high).length ≤ 28 := by
  unfold lchanges
  rw [List.length_mergeSort]
  exact rawC_len h low high
theorem times_rise (L : Line) (low high : Int) : (times L low high).Pairwise (· < ·) := by
  unfold times
  refine List.Pairwise.filter _ ?_
  refine List.Pairwise.map _ (fun a b h => ?_) List.pairwise_lt_range
  show low + 1 + (a : Int) < low + 1 + (b : Int)
  omega
theorem times_mem {L : Line} {low high t : Int} : t ∈ times L low high ↔ t ∈ (lchanges L low high).map (·.1) := by
  unfold times
  rw [List.mem_filter]
  constructor
  · rintro ⟨_, h⟩
    exact of_decide_eq_true h
  · intro h
    refine ⟨?_, decide_eq_true h⟩
    obtain ⟨x, hx, rfl⟩ := List.mem_map.mp h
    obtain ⟨_, _, h1, h2⟩ := rawC_mem (lchanges_mem.mp hx)
    exact List.mem_map.mpr ⟨(x.1 - (low + 1)).toNat, List.mem_range.mpr (by omega), by omega⟩
theorem times_bd {L : Line} {low high t : Int} (h : t ∈ times L low high) : low < t ∧ t ≤ high := by
  obtain ⟨x, hx, rfl⟩ := List.mem_map.mp (times_mem.mp h)
  obtain ⟨_, _, h1, h2⟩ := rawC_mem (lchanges_mem.mp hx)
  exact ⟨h1, h2⟩
theorem times_len {L : Line} (low high : Int) : (times L low high).length ≤ (high - low).toNat := by
  unfold times
  refine Nat.le_trans (List.length_filter_le _ _) ?_
  simp
theorem segs_mem {L : Line} {low high : Int} (hl : low ≤ high) {s : Seg} (h : s ∈ segs L low high) : low ≤ s.1 ∧ s.1 ≤ high ∧ low - 1 ≤ s.2.1 ∧ s.2.1 ≤ high ∧ s.2.2 = rank L s.1 := by
  unfold segs at h
  obtain ⟨q, hq, rfl⟩ := List.mem_map.mp h
  obtain ⟨h1, h2⟩ := List.of_mem_zip hq
  refine ⟨?_, ?_, ?_, ?_, rfl⟩
  · rcases List.mem_cons.mp h1 with e | h1
    · show low ≤ q.1; omega
    · have := times_bd h1; show low ≤ q.1; omega
  · rcases List.mem_cons.mp h1 with e | h1
    · show q.1 ≤ high; omega
    · have := times_bd h1; show q.1 ≤ high; omega
  · rcases List.mem_append.mp h2 with h2 | h2
    · obtain ⟨t, ht, e⟩ := List.mem_map.mp h2
      have := times_bd ht
      show low - 1 ≤ q.2; omega
    · have := List.mem_singleton.mp h2
      show low - 1 ≤ q.2; omega
  · rcases List.mem_append.mp h2 with h2 | h2
    · obtain ⟨t, ht, e⟩ := List.mem_map.mp h2
      have := times_bd ht
      show q.2 ≤ high; omega
    · have := List.mem_singleton.mp h2
      show q.2 ≤ high; omega
theorem segs_len {L : Line} (low high : Int) : (segs L low high).length = (times L low high).length + 1 := by
  unfold segs
  simp
theorem segs_rk {L : Line} {low high : Int} (hl : low ≤ high) {s : Seg} (h : s ∈ segs L low high) : IsRk L.length s.2.2 := by
  rw [(segs_mem hl h).2.2.2.2]
  exact rank_rk _ _
end TR
set_option linter.all false
/-! M4: orders of tasters, plainly -/
namespace TR
theorem zip_tail_get {α : Type} : ∀ (o : List α), o.zip o.tail = o.zip (o.drop 1)
  | [] => rfl
  | _ :: _ => rfl
theorem best_mem {d : Nat} {r m : List Nat} (hr : IsRk d r) (hm : m ≠ []) (hb : ∀ x ∈ m, x < d) : best r m ∈ r ∧ best r m ∈ m ∧ (r.filter fun x => decide (x ∈ m))[0]? = some (best r m) := by
  obtain ⟨y, hy⟩ := List.exists_mem_of_ne_nil m hm
  have hyr := hr.mem.mpr (hb y hy)
  have hne : (r.filter fun x => decide (x ∈ m)) ≠ [] := List.ne_nil_of_mem (List.mem_filter.mpr ⟨hyr, decide_eq_true hy⟩)
  unfold best
  cases e : r.filter (fun x => decide (x ∈ m)) with
  | nil => exact absurd e hne
  | cons z zs =>
    have hz : z ∈ r.filter (fun x => decide (x ∈ m)) := by rw [e]; exact List.mem_cons_self
    obtain ⟨h1, h2⟩ := List.mem_filter.mp hz
    exact ⟨h1, of_decide_eq_true h2, rfl⟩
theorem getD_mem {α : Type} {l : List α} {i : Nat} {x : α} (h : i < l.length) : l.getD i x ∈ l := by
  rw [List.getD_eq_getElem?_getD, List.getElem?_eq_getElem h]
  exact List.getElem_mem h
theorem getD_get {α : Type} {l : List α} {i : Nat} {x : α} (h : i < l.length) : l[i]? = some (l.getD i x) := by
  rw [List.getD_eq_getElem?_getD, List.getElem?_eq_getElem h]
  rfl
end TR
set_option linter.all false
/-! M5: splits, plainly -/
namespace TR
theorem dedupF_snoc : ∀ (l : List (List Nat)) (acc : List (List Nat)) (k : List Nat), dedupF acc (l ++ [k]) = if k ∈ dedupF acc l then dedupF acc l else dedupF acc l ++ [k]
  | [], acc, k => rfl
  | x :: l, acc, k => by
    show dedupF _ (l ++ [k]) = _
    rw [dedupF_snoc l]
    rfl
theorem dedupF_nodup : ∀ (l acc : List (List Nat)), acc.Nodup → (dedupF acc l).Nodup
  | [], acc, h => h
  | x :: l, acc, h => by
    show (dedupF (if x ∈ acc then acc else acc ++ [x]) l).Nodup
    refine dedupF_nodup l _ ?_
    by_cases hx : x ∈ acc
    · rw [if_pos hx]; exact h
    · rw [if_neg hx, List.nodup_append]
      exact ⟨h, by simp, fun a ha b hb e => hx (by rw [List.mem_singleton.mp hb] at e; exact e ▸ ha)⟩
theorem dedupF_mem : ∀ (l acc : List (List Nat)) (k : List Nat), k ∈ dedupF acc l ↔ k ∈ acc ∨ k ∈ l
  | [], acc, k => by simp [dedupF]
  | x :: l, acc, k => by
    show k ∈ dedupF (if x ∈ acc then acc else acc ++ [x]) l ↔ _
    rw [dedupF_mem l]
    by_cases hx : x ∈ acc
    · rw [if_pos hx, List.mem_cons]
      constructor
      · rintro (h | h)
        · exact .inl h
        · exact .inr (.inr h)
      · rintro (h | h | h)
        · exact .inl h
        · exact .inl (h ▸ hx)
        · exact .inr h
    · rw [if_neg hx, List.mem_append, List.mem_singleton, List.mem_cons, or_assoc]
theorem diffs_nodup {d : Nat} (h : d ≤ 8) (r s : List Nat) : (diffs d r s).Nodup := (pairs_nodup d h).filter _
def medS (whole : Int) (st : List (List Nat) × Int) (q : List Nat × Int) : List (List Nat) × Int :=
  (if (st.1.isEmpty && decide (whole ≤ 2 * (st.2 + q.2))) || decide (2 * st.2 = whole) then st.1 ++ [q.1] else st.1, st.2 + q.2)
theorem medGo_fold (whole : Int) : ∀ (qs : List (List Nat × Int)) (res : List (List Nat)) (seen : Int), medGo whole res seen qs = (qs.foldl (medS whole) (res, seen)).1
  | [], _, _ => rfl
  | q :: qs, res, seen => by
    show medGo whole _ _ qs = _
    rw [medGo_fold whole qs]
    rfl
theorem medS_mem (whole : Int) {P : List Nat → Prop} : ∀ (qs : List (List Nat × Int)) (st : List (List Nat) × Int), (∀ r ∈ st.1, P r) → (∀ q ∈ qs, P q.1) → ∀ r ∈ (qs.foldl (medS whole) st).1, P r
  | [], st, h, _ => h
  | q :: qs, st, h, h2 => by
    refine medS_mem whole qs _ ?_ fun q' hq' => h2 q' (List.mem_cons_of_mem _ hq')
    intro r hr
    unfold medS at hr
    split at hr
    · rcases List.mem_append.mp hr with z | z
      · exact h r z
      · rw [List.mem_singleton.mp z]; exact h2 q List.mem_cons_self
    · exact h r hr
theorem medS_len (whole : Int) : ∀ (qs : List (List Nat × Int)) (st : List (List Nat) × Int), (qs.foldl (medS whole) st).1.length ≤ st.1.length + qs.length
  | [], st => Nat.le_refl _
  | q :: qs, st => by
    have h := medS_len whole qs (medS whole st q)
    have h2 : (medS whole st q).1.length ≤ st.1.length + 1 := by
      unfold medS
      split <;> simp
    rw [List.foldl_cons, List.length_cons]
    omega
theorem gAdd_facts {gs : List (List Nat × List Nat)} {k : List Nat} {t n : Nat} (ht : t < n) (h : ∀ g ∈ gs, g.2 ≠ [] ∧ ∀ x ∈ g.2, x < n) : ∀ g ∈ gAdd gs k t, g.2 ≠ [] ∧ ∀ x ∈ g.2, x < n := fun g hg => by
  unfold gAdd at hg
  split at hg
  · obtain ⟨g2, h2, rfl⟩ := List.mem_map.mp hg
    have := h g2 h2
    split
    · refine ⟨by simp, fun x hx => ?_⟩
      rcases List.mem_append.mp hx with z | z
      · exact this.2 x z
      · rw [List.mem_singleton.mp z]; exact ht
    · exact this
  · rcases List.mem_append.mp hg with z | z
    · exact h g z
    · rw [List.mem_singleton.mp z]
      refine ⟨by simp, fun x hx => ?_⟩
      rw [List.mem_singleton.mp hx]; exact ht
theorem gOf_facts (R : List (List Nat)) (N : Nat) : ∀ n, n ≤ N → ∀ g ∈ gOf R n, g.2 ≠ [] ∧ ∀ x ∈ g.2, x < N
  | 0, _ => fun g hg => nomatch hg
  | n + 1, hn => by
    unfold gOf
    split
    · exact gAdd_facts (by omega) (gOf_facts R N n (by omega))
    · exact gOf_facts R N n (by omega)
theorem gOf_len (R : List (List Nat)) : ∀ n, (gOf R n).length ≤ n
  | 0 => Nat.le_refl _
  | n + 1 => by
    have := gOf_len R n
    unfold gOf
    split
    · unfold gAdd; split
      · simp; omega
      · simp; omega
    · omega
theorem grp_facts {R : List (List Nat)} {g : List Nat} (h : g ∈ grp R) : g ≠ [] ∧ ∀ x ∈ g, x < R.length := by
  obtain ⟨u, hu, rfl⟩ := List.mem_map.mp h
  exact gOf_facts R R.length R.length (Nat.le_refl _) u hu
theorem grp_len (R : List (List Nat)) : (grp R).length ≤ R.length := by unfold grp; rw [List.length_map]; exact gOf_len R _
end TR
set_option linter.all false
/-! M6: a line's rankings, plainly -/
namespace TR
structure LineOk (L : Line) : Prop where
  lo : 1 ≤ L.length
  hi : L.length ≤ 8
  bd : ∀ p ∈ L, p.1.natAbs ≤ 10 ^ 12 ∧ p.2.natAbs ≤ 10 ^ 12
structure SpanOk (low high : Int) : Prop where
  lo : 0 ≤ low
  le : low ≤ high
  hi : high ≤ 10 ^ 12
  few : high < low + 16
structure MenuOk (d : Nat) (m : List Nat) : Prop where
  ne : m ≠ []
  up : m.Pairwise (· < ·)
  lt : ∀ x ∈ m, x < d
def rawT (d : Nat) (R : List (List Nat)) (low : Int) : List Chg := (List.range (R.length - 1)).flatMap fun i => (diffs d (R.getD i []) (R.getD (i + 1) [])).map fun p => (low + (1 + (i : Nat)), p)
def runAdd (low : Int) (acc : List Seg) (q : Nat × List Nat) : List Seg := match acc.getLast? with
  | some x => if x.2.2 = q.2 then acc.dropLast ++ [(x.1, low + (q.1 : Nat), q.2)] else acc ++ [(low + (q.1 : Nat), low + (q.1 : Nat), q.2)]
  | none => acc ++ [(low + (q.1 : Nat), low + (q.1 : Nat), q.2)]
def runs (R : List (List Nat)) (low : Int) : List Seg := (R.mapIdx fun i r => (i, r)).foldl (runAdd low) []
abbrev hiOf (low : Int) (n : Nat) : Int := low + (n : Nat) - 1
abbrev rowsOf (L : Line) (low : Int) (n : Nat) : List (List Nat) := (List.range n).map fun i => rank L (low + (i : Nat))
/-! rankings from their pairs -/
theorem pos_pairwise {r : List Nat} (hn : r.Nodup) : r.Pairwise fun a b => pos r a < pos r b := by
  rw [List.pairwise_iff_getElem]
  intro i j hi hj hij
  rw [pos_get hn (List.getElem?_eq_getElem hi), pos_get hn (List.getElem?_eq_getElem hj)]
  exact hij
theorem pos_lt_of_pairwise {r : List Nat} {S : Nat → Nat → Prop} (h : r.Pairwise S) {a b : Nat} (ha : a ∈ r) (hb : b ∈ r) (hlt : pos r a < pos r b) : S a b := by
  have h1 := pos_at ha
  have h2 := pos_at hb
  have l1 := pos_lt ha
  have l2 := pos_lt hb
  have := (List.pairwise_iff_getElem.mp h) _ _ l1 l2 hlt
  rw [List.getElem?_eq_getElem l1] at h1
  rw [List.getElem?_eq_getElem l2] at h2
  rwa [Option.some.inj h1, Option.some.inj h2] at this
theorem rk_ext {d : Nat} {r s : List Nat} (hr : IsRk d r) (hs : IsRk d s) (h : ∀ p ∈ pairs d, before r p = before s p) : r = s := by
  have key : ∀ a ∈ r, ∀ b ∈ r, pos r a < pos r b → pos s a < pos s b := by
    intro a ha b hb hlt
    have ha' := hr.mem.mp ha
    have hb' := hr.mem.mp hb
    have hne : a ≠ b := fun e => by subst e; omega
    rcases Nat.lt_or_gt_of_ne hne with c | c
    · have := h (a, b) (mem_pairs.mpr ⟨c, hb'⟩)
      unfold before at this
      exact of_decide_eq_true (this ▸ decide_eq_true hlt)
    · have := h (b, a) (mem_pairs.mpr ⟨c, ha'⟩)
      unfold before at this
      have h2 : decide (pos s b < pos s a) = false := this ▸ decide_eq_false (Nat.not_lt.mpr (Nat.le_of_lt hlt))
      have h3 := of_decide_eq_false h2
      have h4 : pos s a ≠ pos s b := fun e => hne (pos_inj (hs.mem.mpr ha') (hs.mem.mpr hb') e)
      omega
  refine List.Perm.eq_of_pairwise (le := fun a b => pos s a ≤ pos s b) (fun a b ha hb h1 h2 => ?_) ?_ ?_ (hr.trans hs.symm)
  · exact pos_inj (hs.mem.mpr (hr.mem.mp ha)) hb (Nat.le_antisymm h1 h2)
  · refine List.Pairwise.imp_of_mem ?_ (pos_pairwise hr.nodup)
    intro a b ha hb hlt
    exact Nat.le_of_lt (key a ha b hb hlt)
  · exact (pos_pairwise hs.nodup).imp fun h => Nat.le_of_lt h
theorem diffs_nil {d : Nat} {r s : List Nat} (hr : IsRk d r) (hs : IsRk d s) : diffs d r s = [] ↔ r = s := by
  constructor
  · intro h
    refine rk_ext hr hs fun p hp => ?_
    apply Classical.byContradiction
    intro hne
    have : p ∈ diffs d r s := mem_diffs.mpr ⟨hp, hne⟩
    rw [h] at this
    cases this
  · rintro rfl
    refine List.eq_nil_iff_forall_not_mem.mpr fun p hp => ?_
    exact (mem_diffs.mp hp).2 rfl
/-! the line's rankings -/
theorem leW_trans (a b c : Int × Nat) (h1 : leW a b = true) (h2 : leW b c = true) : leW a c = true := by
  unfold leW at *
  have h1 := of_decide_eq_true h1
  have h2 := of_decide_eq_true h2
  exact decide_eq_true (by omega)
theorem leW_total (a b : Int × Nat) : (leW a b || leW b a) = true := by
  unfold leW
  rw [Bool.or_eq_true]
  by_cases h : a.1 < b.1 ∨ (a.1 = b.1 ∧ (a.2 : Int) ≤ b.2)
  · exact .inl (decide_eq_true h)
  · exact .inr (decide_eq_true (by omega))
abbrev wAt (L : Line) (t : Int) (a : Nat) : Int := worth (L.getD a (0, 0)) t
theorem worths_mem {L : Line} {t : Int} {x : Int × Nat} (h : x ∈ worths L t) : x.1 = wAt L t x.2 := by
  unfold worths at h
  rw [List.mem_mapIdx] at h
  obtain ⟨i, hi, rfl⟩ := h
  show worth L[i] t = worth (L.getD i (0, 0)) t
  rw [List.getD_eq_getElem?_getD, List.getElem?_eq_getElem hi]
  rfl
theorem rank_pairwise (L : Line) (t : Int) : (rank L t).Pairwise fun a b => leW (wAt L t a, a) (wAt L t b, b) = true := by
  unfold rank
  rw [List.pairwise_map]
  refine List.Pairwise.imp_of_mem ?_ (List.pairwise_mergeSort leW_trans leW_total (worths L t))
  intro x y hx hy h
  have e1 := worths_mem (List.mem_mergeSort.mp hx)
  have e2 := worths_mem (List.mem_mergeSort.mp hy)
  rw [← e1, ← e2]
  exact h
theorem before_rank {L : Line} {t : Int} {p : Nat × Nat} (hp : p ∈ pairs L.length) : before (rank L t) p = decide (0 ≤ gapOf L p + slopeOf L p * t) := by
  obtain ⟨h1, h2⟩ := mem_pairs.mp hp
  have hr := rank_rk L t
  have ha : p.1 ∈ rank L t := hr.mem.mpr (by omega)
  have hb : p.2 ∈ rank L t := hr.mem.mpr h2
  have hne : pos (rank L t) p.1 ≠ pos (rank L t) p.2 := fun e => by
    have := pos_inj ha hb e
    omega
  have e : slopeOf L p * t = (L.getD p.1 (0, 0)).2 * t - (L.getD p.2 (0, 0)).2 * t := by unfold slopeOf; rw [Int.sub_mul]
  unfold before
  rcases Nat.lt_or_gt_of_ne hne with c | c
  · have h := of_decide_eq_true (pos_lt_of_pairwise (rank_pairwise L t) ha hb c)
    rw [decide_eq_true c, decide_eq_true]
    rw [e]
    unfold gapOf
    unfold wAt worth at h
    simp only at h
    omega
  · have h := of_decide_eq_true (pos_lt_of_pairwise (rank_pairwise L t) hb ha c)
    rw [decide_eq_false (by omega), decide_eq_false]
    rw [e]
    unfold gapOf
    unfold wAt worth at h
    simp only at h
    omega
/-! when a pair changes -/
theorem chg_none {L : Line} {p : Nat × Nat} (hp : p ∈ pairs L.length) (h : chg L p = none) {s t : Int} (hs : 0 ≤ s) (ht : 0 ≤ t) : before (rank L s) p = before (rank L t) p := by
  rw [before_rank hp, before_rank hp]
  unfold chg at h
  split at h
  · split at h
    · cases h
    · have a1 := Int.mul_nonneg (show 0 ≤ slopeOf L p by omega) hs
      have a2 := Int.mul_nonneg (show 0 ≤ slopeOf L p by omega) ht
      rw [decide_eq_true (by omega), decide_eq_true (by omega)]
  · split at h
    · cases h
    · have a1 := Int.mul_nonneg (show 0 ≤ - slopeOf L p by omega) hs
      have a2 := Int.mul_nonneg (show 0 ≤ - slopeOf L p by omega) ht
      rw [Int.neg_mul] at a1 a2
      rw [decide_eq_false (by omega), decide_eq_false (by omega)]
theorem chg_some {L : Line} {p : Nat × Nat} (hp : p ∈ pairs L.length) {c : Int} (h : chg L p = some c) : ∃ b : Bool, ∀ t : Int, 0 ≤ t → before (rank L t) p = (if t < c then b else !b) := by
  unfold chg at h
  split at h
  · rename_i hg
    split at h
    · rename_i hs
      cases h
      refine ⟨true, fun t ht => ?_⟩
      rw [before_rank hp]
      have hd : (0 : Int) < 0 - slopeOf L p := by omega
      have key : (0 ≤ gapOf L p + slopeOf L p * t) ↔ t ≤ gapOf L p / (0 - slopeOf L p) := by
        rw [Int.le_ediv_iff_mul_le hd, Int.mul_sub, Int.mul_comm t (slopeOf L p), Int.mul_zero]
        omega
      by_cases hc : t < gapOf L p / (0 - slopeOf L p) + 1
      · rw [if_pos hc, decide_eq_true]
        exact key.mpr (by omega)
      · rw [if_neg hc, decide_eq_false]
        · rfl
        · intro h
          have := key.mp h
          omega
    · cases h
  · rename_i hg
    split at h
    · rename_i hs
      cases h
      refine ⟨false, fun t ht => ?_⟩
      rw [before_rank hp]
      have key : (0 ≤ gapOf L p + slopeOf L p * t) ↔ (slopeOf L p - 1 - gapOf L p) / slopeOf L p ≤ t := by
        rw [show ((slopeOf L p - 1 - gapOf L p) / slopeOf L p ≤ t) ↔ (slopeOf L p - 1 - gapOf L p) / slopeOf L p < t + 1 from Int.lt_add_one_iff.symm, Int.ediv_lt_iff_lt_mul hs, Int.add_mul, Int.one_mul, Int.mul_comm t (slopeOf L p)]
        omega
      by_cases hc : t < (slopeOf L p - 1 - gapOf L p) / slopeOf L p
      · rw [if_pos hc, decide_eq_false]
        intro h
        have := key.mp h
        omega
      · rw [if_neg hc, decide_eq_true]
        · rfl
        · exact key.mpr (by omega)
    · cases h
theorem before_ne {L : Line} {p : Nat × Nat} (hp : p ∈ pairs L.length) {s t : Int} (hs : 0 ≤ s) (hst : s ≤ t) : before (rank L s) p ≠ before (rank L t) p ↔ ∃ c, chg L p = some c ∧ s < c ∧ c ≤ t := by
  cases e : chg L p with
  | none =>
    constructor
    · intro h; exact absurd (chg_none hp e hs (by omega)) h
    · rintro ⟨c, h, _⟩; cases h
  | some c =>
    obtain ⟨b, hb⟩ := chg_some hp e
    rw [hb s hs, hb t (by omega)]
    constructor
    · intro h
      refine ⟨c, rfl, ?_⟩
      by_cases h1 : s < c
      · by_cases h2 : t < c
        · rw [if_pos h1, if_pos h2] at h; exact absurd rfl h
        · omega
      · rw [if_neg h1, if_neg (by omega)] at h; exact absurd rfl h
    · rintro ⟨c', h, h1, h2⟩
      cases h
      rw [if_pos h1, if_neg (by omega)]
      cases b <;> exact fun h => nomatch h
theorem diffs_rank {L : Line} {p : Nat × Nat} {s t : Int} (hs : 0 ≤ s) (hst : s ≤ t) : p ∈ diffs L.length (rank L s) (rank L t) ↔ p ∈ pairs L.length ∧ ∃ c, chg L p = some c ∧ s < c ∧ c ≤ t := by
  rw [mem_diffs]
  constructor
  · rintro ⟨h1, h2⟩; exact ⟨h1, (before_ne h1 hs hst).mp h2⟩
  · rintro ⟨h1, h2⟩; exact ⟨h1, (before_ne h1 hs hst).mpr h2⟩
theorem rank_eq_iff {L : Line} {s t : Int} (hs : 0 ≤ s) (hst : s ≤ t) : rank L s = rank L t ↔ ∀ p ∈ pairs L.length, ∀ c, chg L p = some c → ¬ (s < c ∧ c ≤ t) := by
  rw [← diffs_nil (rank_rk L s) (rank_rk L t), List.eq_nil_iff_forall_not_mem]
  constructor
  · intro h p hp c hc hh
    exact h p ((diffs_rank hs hst).mpr ⟨hp, c, hc, hh⟩)
  · intro h p hp
    obtain ⟨h1, c, h2, h3⟩ := (diffs_rank hs hst).mp hp
    exact h p h1 c h2 h3
end TR
set_option linter.all false
/-! M7: changes and segments of a span are those of its rows -/
namespace TR
theorem rowsOf_len (L : Line) (low : Int) (n : Nat) : (rowsOf L low n).length = n := by simp
theorem rowsOf_getD {L : Line} {low : Int} {n i : Nat} (h : i < n) : (rowsOf L low n).getD i [] = rank L (low + (i : Nat)) := by
  rw [List.getD_eq_getElem?_getD, List.getElem?_map, List.getElem?_range h]
  rfl
theorem rowsOf_snoc (L : Line) (low : Int) (n : Nat) : rowsOf L low (n + 1) = rowsOf L low n ++ [rank L (low + (n : Nat))] := by
  unfold rowsOf
  rw [List.range_succ, List.map_append]
  rfl
theorem leC_trans (a b c : Chg) (h1 : leC a b = true) (h2 : leC b c = true) : leC a c = true := by
  unfold leC at *
  have h1 := of_decide_eq_true h1
  have h2 := of_decide_eq_true h2
  exact decide_eq_true (by omega)
theorem leC_total (a b : Chg) : (leC a b || leC b a) = true := by
  unfold leC
  rw [Bool.or_eq_true]
  by_cases h : a.1 < b.1 ∨ (a.1 = b.1 ∧ (a.2.1 < b.2.1 ∨ (a.2.1 = b.2.1 ∧ a.2.2 ≤ b.2.2)))
  · exact .inl (decide_eq_true h)
  · exact .inr (decide_eq_true (by omega))
theorem leC_anti {a b : Chg} (h1 : leC a b = true) (h2 : leC b a = true) : a = b := by
  unfold leC at *
  have h1 := of_decide_eq_true h1
  have h2 := of_decide_eq_true h2
  obtain ⟨a1, a2, a3⟩ := a
  obtain ⟨b1, b2, b3⟩ := b
  simp only at h1 h2
  obtain rfl : a1 = b1 := by omega
  obtain rfl : a2 = b2 := by omega
  obtain rfl : a3 = b3 := by omega
  rfl
theorem sortC_perm {l m : List Chg} (h : l.Perm m) : l.mergeSort leC = m.mergeSort leC := by
  refine List.Perm.eq_of_pairwise (le := fun a b => leC a b = true) (fun a b _ _ h1 h2 => leC_anti h1 h2) (List.pairwise_mergeSort leC_trans leC_total _) (List.pairwise_mergeSort leC_trans leC_total _) ?_
  exact (List.mergeSort_perm _ _).trans (h.trans (List.mergeSort_perm _ _).symm)
theorem rawC_iff {L : Line} {low high : Int} {x : Chg} : x ∈ rawC L low high ↔ x.2 ∈ pairs L.length ∧ chg L x.2 = some x.1 ∧ low < x.1 ∧ x.1 ≤ high := by
  refine ⟨rawC_mem, fun ⟨h1, h2, h3, h4⟩ => ?_⟩
  unfold rawC
  refine List.mem_map.mpr ⟨(chg L x.2, x.2), List.mem_filter.mpr ⟨List.mem_map.mpr ⟨x.2, h1, rfl⟩, ?_⟩, ?_⟩
  · unfold okC
    simp only
    rw [h2]
    simp [h3, h4]
  · rw [h2]; rfl
theorem nodup_of_map {α β : Type} (f : α → β) {l : List α} (h : (l.map f).Nodup) : l.Nodup := by
  refine List.Pairwise.imp ?_ (List.pairwise_map.mp h)
  intro a b hne e
  exact hne (by rw [e])
theorem rawC_snd (L : Line) (low high : Int) : (rawC L low high).map (·.2) = (pairs L.length).filter fun p => okC low high (chg L p, p) := by
  unfold rawC
  rw [List.map_map, List.filter_map, List.map_map]
  have : ((fun x : Chg => x.2) ∘ fun q : Option Int × Nat × Nat => (q.1.getD 0, q.2)) ∘ (fun p => (chg L p, p)) = id := rfl
  rw [this, List.map_id]
  rfl
theorem rawC_nodup {L : Line} (h : L.length ≤ 8) (low high : Int) : (rawC L low high).Nodup := by
  refine nodup_of_map (·.2) ?_
  rw [rawC_snd]
  exact (pairs_nodup _ h).filter _
theorem rawT_iff {L : Line} {low : Int} (hl : 0 ≤ low) {n : Nat} (hn : 1 ≤ n) {x : Chg} : x ∈ rawT L.length (rowsOf L low n) low ↔ x.2 ∈ pairs L.length ∧ chg L x.2 = some x.1 ∧ low < x.1 ∧ x.1 ≤ hiOf low n := by
  unfold rawT
  rw [rowsOf_len, List.mem_flatMap]
  constructor
  · rintro ⟨i, hi, hx⟩
    have hi := List.mem_range.mp hi
    obtain ⟨p, hp, rfl⟩ := List.mem_map.mp hx
    rw [rowsOf_getD (by omega), rowsOf_getD (by omega)] at hp
    obtain ⟨h1, c, h2, h3, h4⟩ := (diffs_rank (by omega) (by omega)).mp hp
    refine ⟨h1, ?_, ?_, ?_⟩
    · rw [h2]
      show some c = some (low + (1 + (i : Nat)))
      congr 1
      omega
    · show low < low + (1 + (i : Nat)); omega
    · show low + (1 + (i : Nat)) ≤ low + (n : Nat) - 1; omega
  · rintro ⟨h1, h2, h3, h4⟩
    have h4 : x.1 ≤ low + (n : Nat) - 1 := h4
    refine ⟨(x.1 - low - 1).toNat, List.mem_range.mpr (by omega), List.mem_map.mpr ⟨x.2, ?_, ?_⟩⟩
    · rw [rowsOf_getD (by omega), rowsOf_getD (by omega)]
      exact (diffs_rank (by omega) (by omega)).mpr ⟨h1, x.1, h2, by omega, by omega⟩
    · have : low + (1 + ((x.1 - low - 1).toNat : Int)) = x.1 := by omega
      rw [this]
theorem rawT_nodup {L : Line} (h : L.length ≤ 8) {low : Int} (hl : 0 ≤ low) {n : Nat} (hn : 1 ≤ n) : ((rawT L.length (rowsOf L low n) low).map (·.2)).Nodup := by
  show List.Pairwise _ _
  rw [List.pairwise_map]
  unfold rawT
  rw [rowsOf_len, List.pairwise_flatMap]
  refine ⟨fun i hi => ?_, ?_⟩
  · rw [List.pairwise_map]
    exact diffs_nodup h _ _
  · refine List.Pairwise.imp_of_mem ?_ (List.pairwise_lt_range (n := n - 1))
    intro i j hi hj hij x hx y hy e
    have hi := List.mem_range.mp hi
    have hj := List.mem_range.mp hj
    obtain ⟨p, hp, rfl⟩ := List.mem_map.mp hx
    obtain ⟨q, hq, rfl⟩ := List.mem_map.mp hy
    simp only at e
    subst e
    rw [rowsOf_getD (by omega), rowsOf_getD (by omega)] at hp hq
    obtain ⟨_, c, h2, h3, h4⟩ := (diffs_rank (by omega) (by omega)).mp hp
    obtain ⟨_, c', h2', h3', h4'⟩ := (diffs_rank (by omega) (by omega)).mp hq
    rw [h2] at h2'
    cases h2'
    omega
theorem ch_ok {L : Line} (h : L.length ≤ 8) {low : Int} (hl : 0 ≤ low) {n : Nat} (hn : 1 ≤ n) : lchanges L low (hiOf low n) = (rawT L.length (rowsOf L low n) low).mergeSort leC := by
  refine sortC_perm ?_
  rw [List.perm_ext_iff_of_nodup (rawC_nodup h _ _) (nodup_of_map _ (rawT_nodup h hl hn))]
  intro x
  rw [rawC_iff, rawT_iff hl hn]
theorem di_ok {L : Line} {low : Int} (hl : 0 ≤ low) {n : Nat} (hn : 1 ≤ n) : (lchanges L low (hiOf low n)).length = dist L.length ((rowsOf L low n).getD 0 []) ((rowsOf L low n).getD (n - 1) []) := by
  unfold lchanges dist diffs
  rw [List.length_mergeSort, ← List.length_map (f := (·.2)), rawC_snd]
  congr 1
  refine List.filter_congr fun p hp => ?_
  rw [rowsOf_getD (by omega), rowsOf_getD (by omega)]
  have hb := before_ne hp (s := low + ((0 : Nat) : Int)) (t := low + ((n - 1 : Nat) : Int)) (by omega) (by omega)
  by_cases hne : before (rank L (low + ((0 : Nat) : Int))) p ≠ before (rank L (low + ((n - 1 : Nat) : Int))) p
  · obtain ⟨c, h1, h2, h3⟩ := hb.mp hne
    have e : (before (rank L (low + ((0 : Nat) : Int))) p != before (rank L (low + ((n - 1 : Nat) : Int))) p) = true := by simpa using hne
    rw [e]
    unfold okC
    simp only
    rw [h1]
    have h2' : low < c := by omega
    have h3' : c ≤ hiOf low n := by show c ≤ low + (n : Nat) - 1; omega
    simp only [decide_eq_true h2', decide_eq_true h3']
    rfl
  · have e : (before (rank L (low + ((0 : Nat) : Int))) p != before (rank L (low + ((n - 1 : Nat) : Int))) p) = false := by simpa using hne
    rw [e]
    unfold okC
    simp only
    cases h1 : chg L p with
    | none => rfl
    | some c =>
      simp only
      by_cases h2 : low < c
      · by_cases h3 : c ≤ hiOf low n
        · exact absurd (hb.mpr ⟨c, h1, by omega, by have h3 : c ≤ low + (n : Nat) - 1 := h3; omega⟩) hne
        · rw [decide_eq_false h3, Bool.and_false]
      · rw [decide_eq_false h2, Bool.false_and]
/-! segments -/
def chAt (L : Line) (t : Int) : Bool := (pairs L.length).any fun p => decide (chg L p = some t)
theorem chAt_iff {L : Line} {t : Int} : chAt L t = true ↔ ∃ p ∈ pairs L.length, chg L p = some t := by
  unfold chAt
  rw [List.any_eq_true]
  constructor
  · rintro ⟨p, h1, h2⟩; exact ⟨p, h1, of_decide_eq_true h2⟩
  · rintro ⟨p, h1, h2⟩; exact ⟨p, h1, decide_eq_true h2⟩
theorem chAt_step {L : Line} {t : Int} (ht : 0 ≤ t) : chAt L (t + 1) = true ↔ rank L t ≠ rank L (t + 1) := by
  rw [chAt_iff, Ne, rank_eq_iff ht (by omega)]
  constructor
  · rintro ⟨p, h1, h2⟩ h
    exact h p h1 _ h2 ⟨by omega, by omega⟩
  · intro h
    apply Classical.byContradiction
    intro hn
    refine h fun p hp c hc hh => hn ⟨p, hp, ?_⟩
    rw [hc]; congr 1; omega
theorem times_eq (L : Line) (low high : Int) : times L low high = ((List.range (high - low).toNat).map fun i => low + 1 + (i : Nat)).filter (chAt L) := by
  unfold times
  refine List.filter_congr fun t ht => ?_
  obtain ⟨i, hi, rfl⟩ := List.mem_map.mp ht
  have hi := List.mem_range.mp hi
  have : (low + 1 + (i : Int) ∈ (lchanges L low high).map (·.1)) ↔ chAt L (low + 1 + (i : Nat)) = true := by
    rw [chAt_iff, List.mem_map]
    constructor
    · rintro ⟨x, hx, e⟩
      obtain ⟨h1, h2, _⟩ := rawC_mem (lchanges_mem.mp hx)
      exact ⟨x.2, h1, by rw [h2, e]⟩
    · rintro ⟨p, hp, h⟩
      exact ⟨(low + 1 + (i : Nat), p), lchanges_mem.mpr (rawC_iff.mpr ⟨hp, h, by show low < low + 1 + (i : Int); omega, by show low + 1 + (i : Int) ≤ high; omega⟩), rfl⟩
  cases h : chAt L (low + 1 + (i : Nat)) with
  | true => exact decide_eq_true (this.mpr h)
  | false => exact decide_eq_false fun z => by rw [this.mp z] at h; cases h
theorem times_snoc (L : Line) (low : Int) (n : Nat) : times L low (low + (n : Nat) + 1) = times L low (low + (n : Nat)) ++ (if chAt L (low + (n : Nat) + 1) then [low + (n : Nat) + 1] else []) := by
  rw [times_eq, times_eq]
  have e1 : (low + (n : Nat) + 1 - low).toNat = n + 1 := by omega
  have e2 : (low + (n : Nat) - low).toNat = n := by omega
  rw [e1, e2, List.range_succ, List.map_append, List.filter_append]
  congr 1
  have e3 : low + 1 + (n : Int) = low + (n : Nat) + 1 := by omega
  simp only [List.map_cons, List.map_nil, e3]
  rw [List.filter_cons]
  rfl
def segF (L : Line) (low : Int) (T : List Int) (high : Int) : List Seg := ((low :: T).zip (T.map (· - 1) ++ [high])).map fun q => (q.1, q.2, rank L q.1)
theorem segF_new (L : Line) (low : Int) (T : List Int) (h : Int) : segF L low (T ++ [h]) h = segF L low T (h - 1) ++ [(h, h, rank L h)] := by
  unfold segF
  rw [List.map_append, ← List.cons_append, List.zip_append (by simp), List.map_append]
  rfl
theorem segF_last (L : Line) (low : Int) (T : List Int) (h : Int) : ∃ l I, low :: T = I ++ [l] ∧ segF L low T h = (I.zip (T.map (· - 1))).map (fun q => (q.1, q.2, rank L q.1)) ++ [(l, h, rank L l)] := by
  obtain ⟨l, I, e⟩ : ∃ l I, low :: T = I ++ [l] := ⟨(low :: T).getLast (by simp), (low :: T).dropLast, (List.dropLast_concat_getLast (by simp)).symm⟩
  refine ⟨l, I, e, ?_⟩
  unfold segF
  have hl : I.length = (T.map (· - 1)).length := by
    have := congrArg List.length e
    simp at this
    simp [this]
  rw [e, List.zip_append hl, List.map_append]
  rfl
theorem runs_snoc (R : List (List Nat)) (r : List Nat) (low : Int) : runs (R ++ [r]) low = runAdd low (runs R low) (R.length, r) := by
  unfold runs
  rw [List.mapIdx_concat, List.foldl_append]
  rfl
theorem runAdd_eq {low : Int} {I : List Seg} {x : Seg} {q : Nat × List Nat} (he : x.2.2 = q.2) : runAdd low (I ++ [x]) q = I ++ [(x.1, low + (q.1 : Nat), q.2)] := by
  unfold runAdd
  rw [List.getLast?_concat, List.dropLast_concat]
  exact if_pos he
theorem runAdd_neq {low : Int} {I : List Seg} {x : Seg} {q : Nat × List Nat} (he : ¬ x.2.2 = q.2) : runAdd low (I ++ [x]) q = I ++ [x] ++ [(low + (q.1 : Nat), low + (q.1 : Nat), q.2)] := by
  unfold runAdd
  rw [List.getLast?_concat]
  exact if_neg he
theorem runAdd_last (low : Int) (acc : List Seg) (q : Nat × List Nat) : ∃ I x, runAdd low acc q = I ++ [x] ∧ x.2.2 = q.2 ∧ x.2.1 = low + (q.1 : Nat) := by
  unfold runAdd
  split
  · split
    · exact ⟨_, _, rfl, rfl, rfl⟩
    · exact ⟨_, _, rfl, rfl, rfl⟩
  · exact ⟨_, _, rfl, rfl, rfl⟩
theorem segs_runs (L : Line) {low : Int} (hl : 0 ≤ low) : ∀ n : Nat, segs L low (low + (n : Nat)) = runs (rowsOf L low (n + 1)) low
  | 0 => by
    have : times L low (low + ((0 : Nat) : Int)) = [] := by
      rw [times_eq]
      have : (low + ((0 : Nat) : Int) - low).toNat = 0 := by omega
      rw [this]; rfl
    have e0 : low + ((0 : Nat) : Int) = low := by omega
    have e1 : rowsOf L low (0 + 1) = [rank L low] := by show [rank L (low + ((0 : Nat) : Int))] = _; rw [e0]
    unfold segs
    rw [this, e1, e0]
    show [(low, low, rank L low)] = [(low + ((0 : Nat) : Int), low + ((0 : Nat) : Int), rank L low)]
    rw [e0]
  | n + 1 => by
    have ih := segs_runs L hl n
    rw [rowsOf_snoc, runs_snoc, ← ih, rowsOf_len]
    have eh : low + ((n + 1 : Nat) : Int) = low + (n : Nat) + 1 := by omega
    have hrow : ∃ I x, segs L low (low + (n : Nat)) = I ++ [x] ∧ x.2.2 = rank L (low + (n : Nat)) := by
      rw [ih, rowsOf_snoc, runs_snoc, rowsOf_len]
      obtain ⟨I, x, e, h1, _⟩ := runAdd_last low (runs (rowsOf L low n) low) (n, rank L (low + (n : Nat)))
      exact ⟨I, x, e, h1⟩
    obtain ⟨I, x, eI, hx⟩ := hrow
    show segF L low (times L low (low + ((n + 1 : Nat) : Int))) (low + ((n + 1 : Nat) : Int)) = _
    rw [eh, times_snoc]
    have hst := chAt_step (L := L) (t := low + (n : Nat)) (by omega)
    by_cases hc : chAt L (low + (n : Nat) + 1) = true
    · have hne := hst.mp hc
      rw [if_pos hc, segF_new, eI, runAdd_neq (by rw [hx]; exact hne)]
      have : segF L low (times L low (low + (n : Nat))) (low + (n : Nat) + 1 - 1) = I ++ [x] := by
        rw [Int.add_sub_cancel]; exact eI
      rw [this]
      show _ = I ++ [x] ++ [(low + ((n + 1 : Nat) : Int), low + ((n + 1 : Nat) : Int), rank L (low + (n : Nat) + 1))]
      rw [eh]
    · have he : rank L (low + (n : Nat)) = rank L (low + (n : Nat) + 1) := Classical.byContradiction fun z => hc (hst.mpr z)
      rw [if_neg hc, List.append_nil]
      obtain ⟨l, J, e1, e2⟩ := segF_last L low (times L low (low + (n : Nat))) (low + (n : Nat) + 1)
      obtain ⟨l', J', e1', e2'⟩ := segF_last L low (times L low (low + (n : Nat))) (low + (n : Nat))
      rw [e1] at e1'
      obtain ⟨rfl, e3⟩ := List.append_inj' e1' rfl
      cases e3
      have e4 : I ++ [x] = (J.zip ((times L low (low + (n : Nat))).map (· - 1))).map (fun q => (q.1, q.2, rank L q.1)) ++ [(l, low + (n : Nat), rank L l)] := by rw [← e2']; exact eI.symm
      obtain ⟨e5, e6⟩ := List.append_inj' e4 rfl
      have e6 : x = (l, low + (n : Nat), rank L l) := List.head_eq_of_cons_eq e6
      rw [eI, runAdd_eq (by rw [hx, he]), e2, e5]
      have e7 : rank L l = rank L (low + (n : Nat) + 1) := by
        rw [← he, ← hx, e6]
      rw [e6]
      show _ ++ [(l, low + (n : Nat) + 1, rank L l)] = _ ++ [(l, low + ((n + 1 : Nat) : Int), rank L (low + (n : Nat) + 1))]
      rw [e7, eh]
theorem sg_ok (L : Line) {low : Int} (hl : 0 ≤ low) {n : Nat} (hn : 1 ≤ n) : segs L low (hiOf low n) = runs (rowsOf L low n) low := by
  obtain ⟨m, rfl⟩ : ∃ m, n = m + 1 := ⟨n - 1, by omega⟩
  have := segs_runs L hl m
  have e : hiOf low (m + 1) = low + (m : Nat) := by show low + ((m + 1 : Nat) : Int) - 1 = _; omega
  rw [e]
  exact this
end TR
set_option linter.all false
/-! M8: pairs that change along a sequence of rankings -/
namespace TR
def nch : List Bool → Nat
  | a :: b :: l => (if a = b then 0 else 1) + nch (b :: l)
  | _ => 0
def chL (d : Nat) (X : List (List Nat)) : List (Nat × Nat) := (X.zip X.tail).flatMap fun q => diffs d q.1 q.2
theorem chL_cons (d : Nat) (a b : List Nat) (X : List (List Nat)) : chL d (a :: b :: X) = diffs d a b ++ chL d (b :: X) := rfl
theorem count_diffs {d : Nat} (h : d ≤ 8) {p : Nat × Nat} (hp : p ∈ pairs d) (a b : List Nat) : (diffs d a b).count p = if before a p = before b p then 0 else 1 := by
  rw [(diffs_nodup h a b).count]
  by_cases e : before a p = before b p
  · rw [if_pos e, if_neg fun z => (mem_diffs.mp z).2 e]
  · rw [if_neg e, if_pos (mem_diffs.mpr ⟨hp, e⟩)]
theorem count_chL {d : Nat} (h : d ≤ 8) {p : Nat × Nat} (hp : p ∈ pairs d) : ∀ X : List (List Nat), (chL d X).count p = nch (X.map fun r => before r p)
  | [] => rfl
  | [a] => rfl
  | a :: b :: X => by
    rw [chL_cons, List.count_append, count_chL h hp (b :: X), count_diffs h hp]
    rfl
theorem chL_mem {d : Nat} {p : Nat × Nat} {X : List (List Nat)} (h : p ∈ chL d X) : p ∈ pairs d := by
  obtain ⟨q, _, hq⟩ := List.mem_flatMap.mp h
  exact (mem_diffs.mp hq).1
theorem chL_nodup {d : Nat} (h : d ≤ 8) (X : List (List Nat)) : (chL d X).Nodup ↔ ∀ p ∈ pairs d, nch (X.map fun r => before r p) ≤ 1 := by
  rw [List.nodup_iff_count]
  constructor
  · intro hc p hp
    rw [← count_chL h hp]
    exact hc p
  · intro hc p
    by_cases hp : p ∈ pairs d
    · rw [count_chL h hp]; exact hc p hp
    · rw [List.count_eq_zero.mpr fun z => hp (chL_mem z)]
      exact Nat.zero_le _
theorem zip_tail_eq (X : List (List Nat)) : X.zip X.tail = (List.range (X.length - 1)).map fun i => (X.getD i [], X.getD (i + 1) []) := by
  apply List.ext_getElem
  · simp
  · intro i h1 h2
    have h3 : i < X.length - 1 := by simpa using h2
    simp only [List.getElem_zip, List.getElem_map, List.getElem_range, List.getElem_tail]
    rw [List.getD_eq_getElem?_getD, List.getD_eq_getElem?_getD, List.getElem?_eq_getElem (show i < X.length by omega), List.getElem?_eq_getElem (show i + 1 < X.length by omega)]
    rfl
theorem chL_rawT (d : Nat) (R : List (List Nat)) (low : Int) : chL d R = (rawT d R low).map (·.2) := by
  unfold chL rawT
  rw [zip_tail_eq, List.flatMap_map, List.map_flatMap]
  congr 1
  funext i
  rw [List.map_map]
  exact (List.map_id _).symm
theorem zip_map2 {α β : Type} (f : α → β) (l m : List α) : (l.map f).zip (m.map f) = (l.zip m).map fun q => (f q.1, f q.2) := by
  rw [List.zip_map]
  rfl
theorem onceL_eq (d : Nat) (R : List (List Nat)) (o : List Nat) : onceL d R o = chL d (o.map fun i => R.getD i []) := by
  unfold onceL chL
  rw [← List.map_tail, zip_map2, List.flatMap_map]
theorem range_getD (R : List (List Nat)) : ((List.range R.length).map fun i => R.getD i []) = R := by
  apply List.ext_getElem
  · simp
  · intro i h1 h2
    simp only [List.getElem_map, List.getElem_range]
    rw [List.getD_eq_getElem?_getD, List.getElem?_eq_getElem h2]
    rfl
theorem once_iff (d : Nat) (R : List (List Nat)) (o : List Nat) : once d R o = true ↔ (chL d (o.map fun i => R.getD i [])).Nodup := by
  unfold once
  rw [onceL_eq]
  exact decide_eq_true_iff
theorem rows_nodup {L : Line} (h : L.length ≤ 8) {low : Int} (hl : 0 ≤ low) {n : Nat} (hn : 1 ≤ n) : (chL L.length (rowsOf L low n)).Nodup := by
  rw [chL_rawT _ _ low]
  exact rawT_nodup h hl hn
theorem on_ok {L : Line} (h : L.length ≤ 8) {low : Int} (hl : 0 ≤ low) {n : Nat} (hn : 1 ≤ n) : once L.length (rowsOf L low n) (List.range (rowsOf L low n).length) = true := by
  rw [once_iff, range_getD]
  exact rows_nodup h hl hn
/-! the counts -/
theorem nch_cat (x y : Bool) : ∀ (xs ys : List Bool), nch (xs ++ x :: y :: ys) = nch (xs ++ [x]) + (if x = y then 0 else 1) + nch (y :: ys)
  | [], ys => by
    show (if x = y then 0 else 1) + nch (y :: ys) = 0 + _ + _
    omega
  | [a], ys => by
    show (if a = x then 0 else 1) + ((if x = y then 0 else 1) + nch (y :: ys)) = (if a = x then 0 else 1) + 0 + _ + _
    omega
  | a :: b :: xs, ys => by
    have ih := nch_cat x y (b :: xs) ys
    show (if a = b then 0 else 1) + nch (b :: xs ++ x :: y :: ys) = (if a = b then 0 else 1) + nch (b :: xs ++ [x]) + _ + _
    rw [ih]
    omega
/-- a sequence that changes at most once changes as its ends say -/
theorem nch_ends (x y : Bool) : ∀ (xs : List Bool), nch (x :: xs ++ [y]) ≤ 1 → nch (x :: xs ++ [y]) = if x = y then 0 else 1
  | [], _ => by
    show (if x = y then 0 else 1) + 0 = _
    omega
  | a :: xs, h => by
    have e : nch (x :: a :: xs ++ [y]) = (if x = a then 0 else 1) + nch (a :: xs ++ [y]) := rfl
    have ih := nch_ends a y xs (by rw [e] at h; omega)
    rw [e] at h ⊢
    rw [ih] at h ⊢
    clear ih e
    revert h
    cases x <;> cases a <;> cases y <;> simp_all
/-! between -/
def Mid (d : Nat) (r s t : List Nat) : Prop := ∀ p ∈ pairs d, before r p = before s p → before t p = before r p
theorem sum_filters {α : Type} (f g h : α → Bool) : ∀ (l : List α), (∀ p ∈ l, h p = (f p != g p)) → ((l.filter f).length + (l.filter g).length = (l.filter h).length ↔ ∀ p ∈ l, ¬ (f p = true ∧ g p = true)) ∧ (l.filter h).length ≤ (l.filter f).length + (l.filter g).length
  | [], _ => ⟨⟨fun _ p hp => (nomatch hp), fun _ => rfl⟩, Nat.le_refl _⟩
  | p :: l, hh => by
    obtain ⟨ih1, ih2⟩ := sum_filters f g h l fun q hq => hh q (List.mem_cons_of_mem _ hq)
    have hp := hh p List.mem_cons_self
    have key : (∀ q ∈ p :: l, ¬ (f q = true ∧ g q = true)) ↔ (¬ (f p = true ∧ g p = true)) ∧ ∀ q ∈ l, ¬ (f q = true ∧ g q = true) := List.forall_mem_cons
    rw [key, ← ih1, List.filter_cons, List.filter_cons, List.filter_cons, hp]
    cases hf : f p <;> cases hg : g p <;> simp <;> omega
theorem betw_iff {d : Nat} {r s t : List Nat} : betw d r s t = true ↔ Mid d r s t := by
  unfold betw dist diffs
  rw [decide_eq_true_iff]
  obtain ⟨h, _⟩ := sum_filters (fun p => before r p != before t p) (fun p => before t p != before s p) (fun p => before r p != before s p) (pairs d) fun p _ => by cases before r p <;> cases before t p <;> cases before s p <;> rfl
  rw [h]
  refine forall_congr' fun p => forall_congr' fun hp => ?_
  cases before r p <;> cases before t p <;> cases before s p <;> simp
/-! inserting one more -/
theorem map_last {X : List (List Nat)} {z : List Nat} (f : List Nat → Bool) (xs : List (List Nat)) (h : X = xs ++ [z]) : X.map f = xs.map f ++ [f z] := by
  rw [h, List.map_append]; rfl
theorem ins_mid {d : Nat} (hd : d ≤ 8) {xs ys : List (List Nat)} {x y r : List Nat} (h : (chL d (xs ++ x :: y :: ys)).Nodup) : (chL d (xs ++ x :: r :: y :: ys)).Nodup ↔ Mid d x y r := by
  rw [chL_nodup hd] at h ⊢
  refine forall_congr' fun p => forall_congr' fun hp => ?_
  have h := h p hp
  simp only [List.map_append, List.map_cons] at h ⊢
  rw [nch_cat] at h ⊢
  rw [show nch (before r p :: before y p :: ys.map fun r => before r p) = (if before r p = before y p then 0 else 1) + nch (before y p :: ys.map fun r => before r p) from rfl]
  generalize nch ((xs.map fun r => before r p) ++ [before x p]) = A at h ⊢
  generalize nch (before y p :: ys.map fun r => before r p) = B at h ⊢
  revert h
  cases before x p <;> cases before y p <;> cases before r p <;> simp <;> omega
theorem ins_fst {d : Nat} (hd : d ≤ 8) {X xs : List (List Nat)} {x z r : List Nat} (h : (chL d X).Nodup) (h1 : X.head? = some x) (h2 : X.getLast? = some z) : (chL d (r :: X)).Nodup ↔ Mid d r z x := by
  rw [chL_nodup hd] at h ⊢
  refine forall_congr' fun p => forall_congr' fun hp => ?_
  have h := h p hp
  cases X with
  | nil => cases h1
  | cons x' X =>
    cases h1
    have e : nch ((r :: x :: X).map fun r => before r p) = (if before r p = before x p then 0 else 1) + nch ((x :: X).map fun r => before r p) := rfl
    rw [e]
    have e2 : nch ((x :: X).map fun r => before r p) = if before x p = before z p then 0 else 1 := by
      rcases List.eq_nil_or_concat X with rfl | ⟨ys, z', rfl⟩
      · cases h2
        simp [nch]
      · have e3 : (x :: (ys ++ [z'])).getLast? = some z' := by rw [← List.cons_append, List.getLast?_concat]
        rw [List.concat_eq_append] at h h2 ⊢
        rw [e3] at h2
        cases h2
        simp only [List.map_cons, List.map_append, List.map_nil] at h ⊢
        exact nch_ends _ _ _ h
    rw [e2] at h ⊢
    cases before x p <;> cases before z p <;> cases before r p <;> simp
theorem ins_lst {d : Nat} (hd : d ≤ 8) {X : List (List Nat)} {x z r : List Nat} (h : (chL d X).Nodup) (h1 : X.head? = some x) (h2 : X.getLast? = some z) : (chL d (X ++ [r])).Nodup ↔ Mid d r x z := by
  rw [chL_nodup hd] at h ⊢
  refine forall_congr' fun p => forall_congr' fun hp => ?_
  have h := h p hp
  rcases List.eq_nil_or_concat X with rfl | ⟨ys, z', rfl⟩
  · cases h1
  · rw [List.concat_eq_append] at h h1 h2 ⊢
    rw [List.getLast?_concat] at h2
    cases h2
    have e : nch ((ys ++ [z] ++ [r]).map fun r => before r p) = nch ((ys ++ [z]).map fun r => before r p) + (if before z p = before r p then 0 else 1) := by
      simp only [List.map_append, List.map_cons, List.map_nil, List.append_assoc, List.cons_append, List.nil_append]
      rw [nch_cat]
      rfl
    have e2 : nch ((ys ++ [z]).map fun r => before r p) = if before x p = before z p then 0 else 1 := by
      cases ys with
      | nil => cases h1; simp [nch]
      | cons y ys =>
        cases h1
        simp only [List.map_cons, List.map_append, List.map_nil] at h ⊢
        exact nch_ends _ _ _ h
    rw [e]
    rw [e2] at h ⊢
    cases before x p <;> cases before z p <;> cases before r p <;> simp
end TR
set_option linter.all false
/-! M9: groups of a span's table -/
namespace TR
/-- equal rows stand together -/
def Cvx (R : List (List Nat)) : Prop := ∀ i j : Nat, i ≤ j → ∀ k, j ≤ k → ∀ r, R[i]? = some r → R[k]? = some r → R[j]? = some r
theorem rowsOf_get {L : Line} {low : Int} {n i : Nat} {r : List Nat} : (rowsOf L low n)[i]? = some r ↔ i < n ∧ r = rank L (low + (i : Nat)) := by
  rw [List.getElem?_map]
  constructor
  · intro h
    obtain ⟨a, h1, rfl⟩ := Option.map_eq_some_iff.mp h
    obtain ⟨h2, h3⟩ := List.getElem?_eq_some_iff.mp h1
    rw [List.length_range] at h2
    rw [List.getElem_range] at h3
    subst h3
    exact ⟨h2, rfl⟩
  · rintro ⟨h, rfl⟩
    rw [List.getElem?_range h]
    rfl
theorem rows_cvx (L : Line) {low : Int} (hl : 0 ≤ low) (n : Nat) : Cvx (rowsOf L low n) := by
  intro i j hij k hjk r h1 h2
  obtain ⟨a1, rfl⟩ := rowsOf_get.mp h1
  obtain ⟨a2, h3⟩ := rowsOf_get.mp h2
  refine rowsOf_get.mpr ⟨by omega, ?_⟩
  have h4 := (rank_eq_iff (L := L) (s := low + (i : Nat)) (t := low + (k : Nat)) (by omega) (by omega)).mp h3
  refine (rank_eq_iff (by omega) (by omega)).mpr fun p hp c hc hh => h4 p hp c hc ⟨by omega, by omega⟩
structure GI (R : List (List Nat)) (low : Int) (n : Nat) : Prop where
  fl : ((gOf R n).map (·.2)).flatten = List.range n
  nd : ((gOf R n).map (·.1)).Nodup
  ky : ∀ g ∈ gOf R n, g.2 ≠ [] ∧ ∀ t ∈ g.2, R[t]? = some g.1
  la : n = 0 ∨ ∃ I g, gOf R n = I ++ [g] ∧ R[n - 1]? = some g.1
  ru : runs (R.take n) low = (gOf R n).map fun g => (low + (g.2.headD 0 : Nat), low + (g.2.headD 0 : Nat) + (g.2.length : Nat) - 1, g.1)
theorem last_block {I g : List Nat} {n : Nat} (h : I ++ g = List.range n) (hg : g ≠ []) : g.headD 0 + g.length = n := by
  have h1 := congrArg List.length h
  rw [List.length_append, List.length_range] at h1
  cases g with
  | nil => exact absurd rfl hg
  | cons x g =>
    have h2 : (I ++ x :: g)[I.length]? = some x := by simp
    rw [h] at h2
    obtain ⟨_, h3⟩ := List.getElem?_eq_some_iff.mp h2
    rw [List.getElem_range] at h3
    show x + _ = n
    omega
theorem gi_ok {R : List (List Nat)} (hc : Cvx R) (low : Int) : ∀ n, n ≤ R.length → GI R low n
  | 0, _ => ⟨rfl, .nil, (fun g h => nomatch h), .inl rfl, rfl⟩
  | n + 1, hn => by
    obtain ⟨fl, nd, ky, la, ru⟩ := gi_ok hc low n (by omega)
    have hk : R[n]? = some R[n] := List.getElem?_eq_getElem (by omega)
    have hg : gOf R (n + 1) = gAdd (gOf R n) R[n] n := by
      show (match R[n]? with | some k => gAdd (gOf R n) k n | none => gOf R n) = _
      rw [hk]
    have htk : R.take (n + 1) = R.take n ++ [R[n]] := by rw [List.take_add_one, hk]; rfl
    have hru : runs (R.take (n + 1)) low = runAdd low (runs (R.take n) low) (n, R[n]) := by
      rw [htk, runs_snoc, List.length_take, Nat.min_eq_left (by omega)]
    generalize hkk : R[n] = k at hk hg hru
    by_cases hm : k ∈ (gOf R n).map (·.1)
    · obtain ⟨g0, hg0, e0⟩ := List.mem_map.mp hm
      obtain ⟨hne0, ht0⟩ := ky g0 hg0
      obtain ⟨t0, ht0'⟩ := List.exists_mem_of_ne_nil _ hne0
      have hR0 := ht0 t0 ht0'
      rw [e0] at hR0
      have htn : t0 < n := by
        have : t0 ∈ ((gOf R n).map (·.2)).flatten := List.mem_flatten.mpr ⟨g0.2, List.mem_map.mpr ⟨g0, hg0, rfl⟩, ht0'⟩
        rw [fl] at this
        exact List.mem_range.mp this
      have hprev := hc t0 (n - 1) (by omega) n (by omega) k hR0 hk
      rcases la with h0 | ⟨I, g, eI, hla⟩
      · omega
      rw [hprev] at hla
      cases hla
      have hI : ∀ x ∈ I, x.1 ≠ g.1 := fun x hx e => by
        rw [eI, List.map_append, List.nodup_append] at nd
        exact nd.2.2 x.1 (List.mem_map.mpr ⟨x, hx, rfl⟩) g.1 List.mem_cons_self e
      have hgn := ky g (by rw [eI]; exact List.mem_append_right _ List.mem_cons_self)
      have eN : gOf R (n + 1) = I ++ [(g.1, g.2 ++ [n])] := by
        rw [hg]
        unfold gAdd
        rw [if_pos hm, eI, List.map_append]
        congr 1
        · conv => rhs; rw [← List.map_id I]
          refine List.map_congr_left fun x hx => ?_
          rw [if_neg (hI x hx)]
          rfl
        · show [if g.1 = g.1 then _ else _] = _
          rw [if_pos rfl]
      have hblk : g.2.headD 0 + g.2.length = n := by
        rw [eI, List.map_append, List.flatten_append] at fl
        exact last_block (by simpa using fl) hgn.1
      have hhd : (g.2 ++ [n]).headD 0 = g.2.headD 0 := by
        have := hgn.1
        cases e : g.2 with
        | nil => exact absurd e this
        | cons x l => rfl
      refine ⟨?_, ?_, ?_, .inr ⟨I, _, eN, hk⟩, ?_⟩
      · rw [eN, List.range_succ, ← fl, eI]
        simp
      · rw [eN]
        rw [eI] at nd
        simpa using nd
      · rw [eN]
        intro x hx
        rcases List.mem_append.mp hx with hx | hx
        · exact ky x (by rw [eI]; exact List.mem_append_left _ hx)
        · rw [List.mem_singleton.mp hx]
          refine ⟨by simp, fun t ht => ?_⟩
          rcases List.mem_append.mp ht with ht | ht
          · exact hgn.2 t ht
          · rw [List.mem_singleton.mp ht]; exact hk
      · rw [hru, ru, eI, List.map_append, List.map_cons, List.map_nil, runAdd_eq (by rfl), eN, List.map_append]
        congr 1
        show [(low + (g.2.headD 0 : Nat), low + (n : Nat), g.1)] = [(low + ((g.2 ++ [n]).headD 0 : Nat), low + ((g.2 ++ [n]).headD 0 : Nat) + ((g.2 ++ [n]).length : Nat) - 1, g.1)]
        rw [hhd]
        have : low + (n : Nat) = low + (g.2.headD 0 : Nat) + ((g.2 ++ [n]).length : Nat) - 1 := by
          rw [List.length_append, List.length_singleton]
          omega
        rw [this]
    · have eN : gOf R (n + 1) = gOf R n ++ [(k, [n])] := by
        rw [hg]
        unfold gAdd
        rw [if_neg hm]
      refine ⟨?_, ?_, ?_, .inr ⟨gOf R n, _, eN, hk⟩, ?_⟩
      · rw [eN, List.range_succ, ← fl]
        simp
      · rw [eN, List.map_append, List.nodup_append]
        refine ⟨nd, by simp, fun a ha b hb e => ?_⟩
        rw [List.mem_singleton.mp hb] at e
        have e : a = k := e
        rw [e] at ha
        exact hm ha
      · rw [eN]
        intro x hx
        rcases List.mem_append.mp hx with hx | hx
        · exact ky x hx
        · rw [List.mem_singleton.mp hx]
          refine ⟨by simp, fun t ht => ?_⟩
          rw [List.mem_singleton.mp ht]; exact hk
      · rw [hru, ru, eN, List.map_append]
        have e2 : low + (n : Nat) = low + (n : Nat) + (([n] : List Nat).length : Nat) - 1 := by
          rw [List.length_singleton]; omega
        rcases la with h0 | ⟨I, g, eI, hla⟩
        · subst h0
          show [(low + ((0 : Nat) : Int), low + ((0 : Nat) : Int), k)] = [(low + ((0 : Nat) : Int), low + ((0 : Nat) : Int) + (([0] : List Nat).length : Nat) - 1, k)]
          rw [← e2]
        · have hne : ¬ g.1 = k := fun e => hm (List.mem_map.mpr ⟨g, by rw [eI]; exact List.mem_append_right _ List.mem_cons_self, e⟩)
          rw [eI, List.map_append, List.map_cons, List.map_nil, runAdd_neq hne]
          congr 1
          show [(low + (n : Nat), low + (n : Nat), k)] = [(low + (n : Nat), low + (n : Nat) + (([n] : List Nat).length : Nat) - 1, k)]
          rw [← e2]
/-! splits and offsets -/
theorem filter_le {α : Type} (f g : α → Bool) : ∀ (l : List α), (∀ x ∈ l, f x = true → g x = true) → (l.filter f).length ≤ (l.filter g).length
  | [], _ => Nat.le_refl _
  | x :: l, h => by
    have ih := filter_le f g l fun y hy => h y (List.mem_cons_of_mem _ hy)
    have hx := h x List.mem_cons_self
    rw [List.filter_cons, List.filter_cons]
    cases hf : f x with
    | false => cases g x <;> simp <;> omega
    | true => rw [hx hf]; simp; omega
theorem filter_lt {α : Type} (f g : α → Bool) : ∀ (l : List α), (∀ x ∈ l, f x = true → g x = true) → (∃ x ∈ l, g x = true ∧ f x = false) → (l.filter f).length < (l.filter g).length
  | [], _, ⟨x, hx, _⟩ => nomatch hx
  | x :: l, h, ⟨y, hy, hg, hf⟩ => by
    have h' := fun y hy => h y (List.mem_cons_of_mem x hy)
    rw [List.filter_cons, List.filter_cons]
    rcases List.mem_cons.mp hy with rfl | hy
    · have := filter_le f g l h'
      rw [hg, hf]
      simp; omega
    · have ih := filter_lt f g l h' ⟨y, hy, hg, hf⟩
      have hx := h x List.mem_cons_self
      cases hf : f x with
      | false => cases g x <;> simp <;> omega
      | true => rw [hx hf]; simp; omega
theorem largest_go : ∀ (S : List (List Nat)) (r : List Nat), (S.foldl (fun r m => if r.length < m.length then m else r) r = r ∨ S.foldl (fun r m => if r.length < m.length then m else r) r ∈ S) ∧ r.length ≤ (S.foldl (fun r m => if r.length < m.length then m else r) r).length ∧ ∀ m ∈ S, m.length ≤ (S.foldl (fun r m => if r.length < m.length then m else r) r).length
  | [], r => ⟨.inl rfl, Nat.le_refl _, fun m h => nomatch h⟩
  | x :: S, r => by
    obtain ⟨h1, h2, h3⟩ := largest_go S (if r.length < x.length then x else r)
    rw [List.foldl_cons]
    generalize S.foldl (fun r m => if r.length < m.length then m else r) (if r.length < x.length then x else r) = z at *
    by_cases hx : r.length < x.length
    · rw [if_pos hx] at h1 h2
      refine ⟨.inr ?_, by omega, fun m hm => ?_⟩
      · rcases h1 with rfl | h1
        · exact List.mem_cons_self
        · exact List.mem_cons_of_mem _ h1
      · rcases List.mem_cons.mp hm with rfl | hm
        · exact h2
        · exact h3 m hm
    · rw [if_neg hx] at h1 h2
      refine ⟨?_, h2, fun m hm => ?_⟩
      · rcases h1 with h1 | h1
        · exact .inl h1
        · exact .inr (List.mem_cons_of_mem _ h1)
      · rcases List.mem_cons.mp hm with rfl | hm
        · omega
        · exact h3 m hm
theorem splK_iff {d : Nat} {R : List (List Nat)} {m : List Nat} : m ∈ splK d R ↔ m ≠ [] ∧ ∃ p ∈ pairs d, spl d R p = m := by
  unfold splK
  rw [List.mem_filter, dedupF_mem]
  constructor
  · rintro ⟨h1, h2⟩
    refine ⟨fun e => by rw [e] at h2; simp at h2, ?_⟩
    rcases h1 with h1 | h1
    · cases h1
    · exact List.mem_map.mp h1
  · rintro ⟨h1, h2⟩
    refine ⟨.inr (List.mem_map.mpr h2), ?_⟩
    cases m with
    | nil => exact absurd rfl h1
    | cons a m => rfl
theorem spl_mem {L : Line} {low : Int} (hl : 0 ≤ low) {n : Nat} {p : Nat × Nat} {t : Nat} : t ∈ spl L.length (rowsOf L low n) p ↔ t < n ∧ p ∈ pairs L.length ∧ ∃ c, chg L p = some c ∧ low < c ∧ c ≤ low + (t : Nat) := by
  unfold spl
  rw [List.mem_filter, rowsOf_len, List.mem_range]
  constructor
  · rintro ⟨h1, h2⟩
    have h2 := of_decide_eq_true h2
    rw [rowsOf_getD (by omega), rowsOf_getD h1] at h2
    obtain ⟨h3, c, h4, h5, h6⟩ := (diffs_rank (by omega) (by omega)).mp h2
    exact ⟨h1, h3, c, h4, by omega, h6⟩
  · rintro ⟨h1, h3, c, h4, h5, h6⟩
    refine ⟨h1, decide_eq_true ?_⟩
    rw [rowsOf_getD (by omega), rowsOf_getD h1]
    exact (diffs_rank (by omega) (by omega)).mpr ⟨h3, c, h4, by omega, h6⟩
abbrev cntS (S : List (List Nat)) (t : Nat) : Nat := (S.filter fun m => decide (t ∈ m)).length
section
variable {L : Line} {low : Int} (hl : 0 ≤ low) {n : Nat} {S : List (List Nat)} (hS : ∀ m, m ∈ S ↔ m ∈ splK L.length (rowsOf L low n))
include hl hS
theorem cnt_strict {s t : Nat} (hst : s ≤ t) (ht : t < n) (hne : rank L (low + (s : Nat)) ≠ rank L (low + (t : Nat))) : cntS S s < cntS S t := by
  refine filter_lt _ _ S (fun m hm h => ?_) ?_
  · obtain ⟨_, p, hp, rfl⟩ := splK_iff.mp ((hS m).mp hm)
    obtain ⟨a1, a2, c, a3, a4, a5⟩ := (spl_mem hl).mp (of_decide_eq_true h)
    exact decide_eq_true ((spl_mem hl).mpr ⟨ht, a2, c, a3, a4, by omega⟩)
  · have hd : diffs L.length (rank L (low + (s : Nat))) (rank L (low + (t : Nat))) ≠ [] := fun e => hne ((diffs_nil (rank_rk _ _) (rank_rk _ _)).mp e)
    obtain ⟨p, hp⟩ := List.exists_mem_of_ne_nil _ hd
    obtain ⟨h1, c, h2, h3, h4⟩ := (diffs_rank (by omega) (by omega)).mp hp
    have hmem : t ∈ spl L.length (rowsOf L low n) p := (spl_mem hl).mpr ⟨ht, h1, c, h2, by omega, h4⟩
    refine ⟨spl L.length (rowsOf L low n) p, (hS _).mpr (splK_iff.mpr ⟨List.ne_nil_of_mem hmem, p, h1, rfl⟩), decide_eq_true hmem, decide_eq_false fun h => ?_⟩
    obtain ⟨_, _, c', a3, a4, a5⟩ := (spl_mem hl).mp h
    rw [h2] at a3
    cases a3
    omega
theorem in_right {m : List Nat} (hm : m ∈ S) {t : Nat} (ht : t ∈ m) : t ∈ largestF S := by
  obtain ⟨h1, h2, h3⟩ := largest_go S []
  have h3 := h3 m hm
  unfold largestF
  generalize S.foldl (fun r m => if r.length < m.length then m else r) [] = z at *
  have hml : 0 < m.length := List.length_pos_of_mem ht
  rcases h1 with rfl | h1
  · rw [List.length_nil] at h3; omega
  obtain ⟨_, p, hp, rfl⟩ := splK_iff.mp ((hS m).mp hm)
  obtain ⟨_, q, hq, rfl⟩ := splK_iff.mp ((hS z).mp h1)
  apply Classical.byContradiction
  intro hn
  obtain ⟨a1, a2, c, a3, a4, a5⟩ := (spl_mem hl).mp ht
  have : (spl L.length (rowsOf L low n) q).length < (spl L.length (rowsOf L low n) p).length := by
    refine filter_lt _ _ _ (fun j hj h => ?_) ⟨t, ?_, ?_, ?_⟩
    · have hj' : j ∈ spl L.length (rowsOf L low n) q := List.mem_filter.mpr ⟨hj, h⟩
      obtain ⟨b1, b2, c', b3, b4, b5⟩ := (spl_mem hl).mp hj'
      have hc : ¬ c' ≤ low + (t : Nat) := fun z => hn ((spl_mem hl).mpr ⟨a1, b2, c', b3, b4, z⟩)
      exact (List.mem_filter.mp ((spl_mem hl).mpr ⟨b1, a2, c, a3, a4, by omega⟩ : j ∈ spl L.length (rowsOf L low n) p)).2
    · rw [rowsOf_len]; exact List.mem_range.mpr a1
    · exact (List.mem_filter.mp ht).2
    · refine decide_eq_false fun e => hn ?_
      unfold spl
      exact List.mem_filter.mpr ⟨by rw [rowsOf_len]; exact List.mem_range.mpr a1, decide_eq_true e⟩
  omega
theorem offs_eq (t : Nat) : offs t S (largestF S) = (cntS S t : Nat) := by
  unfold offs
  by_cases h : t ∈ largestF S
  · rw [if_pos h]
  · rw [if_neg h]
    have : cntS S t = 0 := by
      unfold cntS
      rw [List.length_eq_zero_iff, List.filter_eq_nil_iff]
      intro m hm hh
      exact h (in_right hl hS hm (of_decide_eq_true hh))
    unfold cntS at this ⊢
    rw [this]
    rfl
theorem grp_offs : (grp (rowsOf L low n)).Pairwise fun g h => offs (g.headD 0) S (largestF S) < offs (h.headD 0) S (largestF S) := by
  obtain ⟨fl, nd, ky, _, _⟩ := gi_ok (rows_cvx L hl n) low n (by rw [rowsOf_len]; exact Nat.le_refl _)
  unfold grp
  rw [rowsOf_len, List.pairwise_map]
  have h1 : ((gOf (rowsOf L low n) n).map (·.2)).flatten.Pairwise (· < ·) := by rw [fl]; exact List.pairwise_lt_range
  rw [List.pairwise_flatten] at h1
  have h2 := List.pairwise_map.mp h1.2
  have h3 : (gOf (rowsOf L low n) n).Pairwise fun g h => g.1 ≠ h.1 := List.pairwise_map.mp nd
  refine List.Pairwise.imp_of_mem ?_ (h2.and h3)
  rintro g h hg hh ⟨b1, b2⟩
  obtain ⟨g1, g2⟩ := ky g hg
  obtain ⟨k1, k2⟩ := ky h hh
  have mg : g.2.headD 0 ∈ g.2 := by
    cases e : g.2 with
    | nil => exact absurd e g1
    | cons x l => exact List.mem_cons_self
  have mh : h.2.headD 0 ∈ h.2 := by
    cases e : h.2 with
    | nil => exact absurd e k1
    | cons x l => exact List.mem_cons_self
  have c1 := b1 _ mg _ mh
  obtain ⟨e1, e2⟩ := rowsOf_get.mp (g2 _ mg)
  obtain ⟨e3, e4⟩ := rowsOf_get.mp (k2 _ mh)
  rw [offs_eq hl hS, offs_eq hl hS]
  have := cnt_strict hl hS (Nat.le_of_lt c1) e3 (by rw [← e2, ← e4]; exact b2)
  omega
end
theorem grp_flat (L : Line) {low : Int} (hl : 0 ≤ low) (n : Nat) : (grp (rowsOf L low n)).flatten = List.range n := by
  obtain ⟨fl, nd, ky, _, _⟩ := gi_ok (rows_cvx L hl n) low n (by rw [rowsOf_len]; exact Nat.le_refl _)
  unfold grp
  rw [rowsOf_len]
  exact fl
theorem runs_grp (L : Line) {low : Int} (hl : 0 ≤ low) (n : Nat) : runs (rowsOf L low n) low = (gOf (rowsOf L low n) n).map fun g => (low + (g.2.headD 0 : Nat), low + (g.2.headD 0 : Nat) + (g.2.length : Nat) - 1, g.1) := by
  have h := gi_ok (rows_cvx L hl n) low n (by rw [rowsOf_len]; exact Nat.le_refl _)
  have := h.ru
  rwa [List.take_of_length_le (by rw [rowsOf_len]; exact Nat.le_refl _)] at this
end TR
set_option linter.all false
/-! M10: medians, support, choices, cost of a span are those of its table -/
namespace TR
abbrev Gp := List Nat × List Nat
def Ch : Nat → List Gp → Nat → Prop
  | k, [], e => k = e
  | k, g :: G, e => g.2 ≠ [] ∧ g.2.headD 0 = k ∧ Ch (k + g.2.length) G e
theorem ch_of : ∀ (G : List Gp) (k m : Nat), (∀ g ∈ G, g.2 ≠ []) → (G.map (·.2)).flatten = List.range' k m → Ch k G (k + m)
  | [], k, m, _, h => by
    have := congrArg List.length h
    simp at this
    show k = k + m
    omega
  | g :: G, k, m, hne, h => by
    have hg := hne g List.mem_cons_self
    rw [List.map_cons, List.flatten_cons] at h
    have hl := congrArg List.length h
    rw [List.length_append, List.length_range'] at hl
    have hlen : g.2.length ≤ m := by omega
    have e : List.range' k m = List.range' k g.2.length ++ List.range' (k + g.2.length) (m - g.2.length) := by
      rw [List.range'_append_1]; congr 1; omega
    rw [e] at h
    obtain ⟨h1, h2⟩ := List.append_inj h (by rw [List.length_range'])
    refine ⟨hg, ?_, ?_⟩
    · cases e2 : g.2 with
      | nil => exact absurd e2 hg
      | cons x l =>
        rw [e2] at h1
        rw [List.length_cons, List.range'_succ] at h1
        exact List.head_eq_of_cons_eq h1
    · have := ch_of G (k + g.2.length) (m - g.2.length) (fun x hx => hne x (List.mem_cons_of_mem _ hx)) h2
      have e3 : k + g.2.length + (m - g.2.length) = k + m := by omega
      rwa [e3] at this
abbrev sgG (low : Int) (g : Gp) : Seg := (low + (g.2.headD 0 : Nat), low + (g.2.headD 0 : Nat) + (g.2.length : Nat) - 1, g.1)
abbrev repG (g : Gp) : List (List Nat) := List.replicate g.2.length g.1
/-- what the rest needs of the groups -/
structure GOk (R : List (List Nat)) (n : Nat) (G : List Gp) : Prop where
  ch : Ch 0 G n
  ex : G.flatMap repG = R
  ky : ∀ g ∈ G, g.2 ≠ [] ∧ ∀ t ∈ g.2, R[t]? = some g.1
  ln : G.length ≤ n
theorem gok (L : Line) {low : Int} (hl : 0 ≤ low) (n : Nat) : GOk (rowsOf L low n) n (gOf (rowsOf L low n) n) := by
  obtain ⟨fl, nd, ky, _, _⟩ := gi_ok (rows_cvx L hl n) low n (by rw [rowsOf_len]; exact Nat.le_refl _)
  refine ⟨?_, ?_, ky, gOf_len _ _⟩
  · have := ch_of (gOf (rowsOf L low n) n) 0 n (fun g hg => (ky g hg).1) (by rw [fl, List.range_eq_range'])
    rwa [Nat.zero_add] at this
  · have h1 : ((gOf (rowsOf L low n) n).map (·.2)).flatten.map (fun i => (rowsOf L low n).getD i []) = rowsOf L low n := by
      rw [fl]
      have := range_getD (rowsOf L low n)
      rwa [rowsOf_len] at this
    rw [List.map_flatten, List.map_map, ← List.flatMap_def] at h1
    conv => rhs; rw [← h1]
    rw [List.flatMap_def, List.flatMap_def]
    congr 1
    refine List.map_congr_left fun g hg => ?_
    obtain ⟨_, h2⟩ := ky g hg
    show List.replicate g.2.length g.1 = g.2.map fun i => (rowsOf L low n).getD i []
    symm
    rw [List.eq_replicate_iff]
    refine ⟨by rw [List.length_map], fun b hb => ?_⟩
    obtain ⟨t, ht, rfl⟩ := List.mem_map.mp hb
    rw [List.getD_eq_getElem?_getD, h2 t ht]
    rfl
theorem sgG_eq (L : Line) {low : Int} (hl : 0 ≤ low) {n : Nat} (hn : 1 ≤ n) : segs L low (hiOf low n) = (gOf (rowsOf L low n) n).map (sgG low) := by
  rw [sg_ok L hl hn, runs_grp L hl n]
/-! support, cost -/
theorem sup_go (low : Int) (f : List Nat → Bool) : ∀ G : List Gp, ((((G.map (sgG low)).filter fun s => f s.2.2).map fun s => s.2.1 - s.1 + 1).sum : Int) = (((G.flatMap repG).filter f).length : Nat)
  | [] => rfl
  | g :: G => by
    have ih := sup_go low f G
    rw [List.map_cons, List.filter_cons, List.flatMap_cons, List.filter_append, List.length_append]
    cases h : f g.1 with
    | true =>
      rw [if_pos rfl, List.map_cons, List.sum_cons, ih, List.filter_replicate_of_pos h, List.length_replicate]
      show low + (g.2.headD 0 : Nat) + (g.2.length : Nat) - 1 - (low + (g.2.headD 0 : Nat)) + 1 + _ = _
      omega
    | false =>
      rw [if_neg Bool.false_ne_true, ih, List.filter_replicate_of_neg (by rw [h]; exact Bool.false_ne_true), List.length_nil, Nat.zero_add]
theorem sum_rep (k : Nat) : ∀ w : Nat, (List.replicate w k).sum = w * k
  | 0 => by simp
  | w + 1 => by rw [List.replicate_succ, List.sum_cons, sum_rep k w, Nat.succ_mul]; omega
theorem cost_go (low : Int) (f : List Nat → Nat) : ∀ G : List Gp, (((G.map (sgG low)).map fun s => (s.2.1 - s.1 + 1) * (f s.2.2 : Int)).sum : Int) = (((G.flatMap repG).map f).sum : Nat)
  | [] => rfl
  | g :: G => by
    have ih := cost_go low f G
    rw [List.map_cons, List.map_cons, List.sum_cons, ih, List.flatMap_cons, List.map_append, List.sum_append, List.map_replicate, sum_rep]
    have e : low + (g.2.headD 0 : Nat) + (g.2.length : Nat) - 1 - (low + (g.2.headD 0 : Nat)) + 1 = ((g.2.length : Nat) : Int) := by omega
    show (low + (g.2.headD 0 : Nat) + (g.2.length : Nat) - 1 - (low + (g.2.headD 0 : Nat)) + 1) * (f g.1 : Int) + _ = _
    rw [e, Int.natCast_add, Int.natCast_mul]
theorem su_ok (L : Line) {low : Int} (hl : 0 ≤ low) {n : Nat} (hn : 1 ≤ n) (a b : Nat) : lsupport L low (hiOf low n) a b = (((rowsOf L low n).filter fun r => before r (a, b)).length : Nat) := by
  unfold lsupport
  rw [sgG_eq L hl hn]
  rw [sup_go low (fun r => before r (a, b))]
  rw [(gok L hl n).ex]
theorem co_ok (L : Line) {low : Int} (hl : 0 ≤ low) {n : Nat} (hn : 1 ≤ n) (m : List Nat) : lcost L low (hiOf low n) m = (costF (rowsOf L low n) m : Nat) := by
  unfold lcost costF
  rw [sgG_eq L hl hn]
  rw [cost_go low (fun r => pos r (best r m))]
  rw [(gok L hl n).ex]
/-! medians -/
theorem med_go (low : Int) (n : Nat) : ∀ (G : List Gp) (k : Nat) (res : List (List Nat)), Ch k G n → ((res = [] ∧ 2 * k < n) ∨ (res ≠ [] ∧ n ≤ 2 * k)) →
    medGo (n : Int) res (k : Int) (G.map fun g => (g.1, (g.2.length : Int))) = res ++ (((G.map (sgG low)).filter fun s => decide (2 * (s.1 - low) ≤ (n : Int)) && decide ((n : Int) ≤ 2 * (s.2.1 - low + 1))).map (·.2.2))
  | [], k, res, _, _ => by simp [medGo]
  | g :: G, k, res, ⟨h1, h2, h3⟩, hI => by
    have hw : 0 < g.2.length := List.length_pos_iff.mpr h1
    have ea : low + (g.2.headD 0 : Nat) - low = (k : Int) := by rw [h2]; omega
    have eb : low + (g.2.headD 0 : Nat) + (g.2.length : Nat) - 1 - low + 1 = ((k + g.2.length : Nat) : Int) := by rw [h2]; omega
    have ek : (k : Int) + (g.2.length : Int) = ((k + g.2.length : Nat) : Int) := by omega
    have ih := med_go low n G (k + g.2.length)
    rw [List.map_cons, List.map_cons, List.filter_cons]
    simp only [ea, eb]
    show medGo (n : Int) (if (res.isEmpty && decide ((n : Int) ≤ 2 * ((k : Int) + (g.2.length : Int)))) || decide (2 * (k : Int) = n) then res ++ [g.1] else res) ((k : Int) + (g.2.length : Int)) _ = _
    rw [ek]
    rcases hI with ⟨rfl, hk⟩ | ⟨hr, hk⟩
    · by_cases hc : n ≤ 2 * (k + g.2.length)
      · have c1 : (decide ((n : Int) ≤ 2 * ((k + g.2.length : Nat) : Int))) = true := decide_eq_true (by omega)
        have c2 : (decide (2 * (k : Int) ≤ (n : Int))) = true := decide_eq_true (by omega)
        have c3 : (decide (2 * (k : Int) = (n : Int))) = false := decide_eq_false (by omega)
        rw [c1, c2, c3]
        simp only [List.isEmpty_nil, Bool.and_self, Bool.or_false, if_true, List.map_cons]
        rw [ih _ h3 (.inr ⟨by simp, hc⟩), List.append_assoc]
        rfl
      · have c1 : (decide ((n : Int) ≤ 2 * ((k + g.2.length : Nat) : Int))) = false := decide_eq_false (by omega)
        have c3 : (decide (2 * (k : Int) = (n : Int))) = false := decide_eq_false (by omega)
        rw [c1, c3]
        simp only [Bool.and_false, Bool.or_false, Bool.false_eq_true, if_false]
        rw [ih _ h3 (.inl ⟨rfl, by omega⟩)]
    · have hre : res.isEmpty = false := by
        cases res with
        | nil => exact absurd rfl hr
        | cons _ _ => rfl
      have c1 : (decide ((n : Int) ≤ 2 * ((k + g.2.length : Nat) : Int))) = true := decide_eq_true (by omega)
      rw [hre, c1]
      simp only [Bool.false_and, Bool.false_or, Bool.and_true]
      by_cases hc : 2 * k = n
      · have c2 : (decide (2 * (k : Int) ≤ (n : Int))) = true := decide_eq_true (by omega)
        have c3 : (decide (2 * (k : Int) = (n : Int))) = true := decide_eq_true (by omega)
        rw [c2, c3]
        simp only [if_true, List.map_cons]
        rw [ih _ h3 (.inr ⟨by simp, by omega⟩), List.append_assoc]
        rfl
      · have c2 : (decide (2 * (k : Int) ≤ (n : Int))) = false := decide_eq_false (by omega)
        have c3 : (decide (2 * (k : Int) = (n : Int))) = false := decide_eq_false (by omega)
        rw [c2, c3]
        simp only [Bool.false_eq_true, if_false]
        rw [ih _ h3 (.inr ⟨hr, by omega⟩)]
theorem ch_sum : ∀ (G : List Gp) (k n : Nat), Ch k G n → (k : Int) + ((G.map fun g => (g.1, (g.2.length : Int))).map (·.2)).sum = n
  | [], k, n, h => by
    have h : k = n := h
    simp [h]
  | g :: G, k, n, ⟨h1, h2, h3⟩ => by
    have := ch_sum G (k + g.2.length) n h3
    rw [List.map_cons, List.map_cons, List.sum_cons]
    simp only
    omega
theorem md_ok (L : Line) {low : Int} (hl : 0 ≤ low) {n : Nat} (hn : 1 ≤ n) : lmedRaw L low (hiOf low n) = medRaw (medRows (rowsOf L low n) (grp (rowsOf L low n))) := by
  have hg := gok L hl n
  have e1 : medRows (rowsOf L low n) (grp (rowsOf L low n)) = (gOf (rowsOf L low n) n).map fun g => (g.1, (g.2.length : Int)) := by
    unfold medRows grp
    rw [rowsOf_len, List.map_map]
    refine List.map_congr_left fun g hgm => ?_
    obtain ⟨h1, h2⟩ := hg.ky g hgm
    have mg : g.2.headD 0 ∈ g.2 := by
      cases e : g.2 with
      | nil => exact absurd e h1
      | cons x l => exact List.mem_cons_self
    show ((rowsOf L low n).getD (g.2.headD 0) [], (g.2.length : Int)) = _
    rw [List.getD_eq_getElem?_getD, h2 _ mg]
    rfl
  rw [e1]
  unfold medRaw
  have e2 := ch_sum _ _ _ hg.ch
  have e3 : ((((gOf (rowsOf L low n) n).map fun g => (g.1, (g.2.length : Int))).map (·.2)).sum : Int) = n := (Int.zero_add _).symm.trans e2
  rw [e3]
  have := med_go low n (gOf (rowsOf L low n) n) 0 [] hg.ch (.inl ⟨rfl, by omega⟩)
  rw [show (((0 : Nat) : Int)) = 0 from rfl] at this
  rw [this, List.nil_append]
  unfold lmedRaw
  rw [sgG_eq L hl hn]
  have e4 : hiOf low n - low + 1 = (n : Int) := by show low + (n : Nat) - 1 - low + 1 = _; omega
  rw [e4]
/-! choices -/
abbrev expC (x : Nat × Int × Int) : List Nat := List.replicate (x.2.2 - x.2.1 + 1).toNat x.1
structure AccOk (low : Int) (k : Nat) (acc : List (Nat × Int × Int)) : Prop where
  la : ∀ I x, acc = I ++ [x] → x.2.2 = low + (k : Nat) - 1
  bd : ∀ x ∈ acc, low ≤ x.2.1 ∧ x.2.1 ≤ x.2.2 ∧ x.2.2 ≤ low + (k : Nat) - 1
theorem accOk_snoc {low : Int} {k k' : Nat} {I : List (Nat × Int × Int)} {x : Nat × Int × Int} (hk : k ≤ k') (hI : ∀ x ∈ I, low ≤ x.2.1 ∧ x.2.1 ≤ x.2.2 ∧ x.2.2 ≤ low + (k : Nat) - 1) (h1 : low ≤ x.2.1) (h2 : x.2.1 ≤ x.2.2) (h3 : x.2.2 = low + (k' : Nat) - 1) : AccOk low k' (I ++ [x]) := by
  refine ⟨fun J y e => ?_, fun y hy => ?_⟩
  · have := (List.append_inj' e rfl).2
    rw [← List.head_eq_of_cons_eq this]; exact h3
  · rcases List.mem_append.mp hy with hy | hy
    · have := hI y hy; omega
    · rw [List.mem_singleton.mp hy]; omega
theorem cho_go (low : Int) (m : List Nat) (n : Nat) : ∀ (G : List Gp) (k : Nat) (acc : List (Nat × Int × Int)), Ch k G n → AccOk low k acc →
    AccOk low n ((G.map (sgG low)).foldl (fun acc s => chAdd acc m s) acc) ∧ ((G.map (sgG low)).foldl (fun acc s => chAdd acc m s) acc).flatMap expC = acc.flatMap expC ++ (G.flatMap repG).map (fun r => best r m) ∧ ((G.map (sgG low)).foldl (fun acc s => chAdd acc m s) acc).length ≤ acc.length + G.length
  | [], k, acc, h, ha => by
    have h : k = n := h
    subst h
    exact ⟨ha, by simp, Nat.le_refl _⟩
  | g :: G, k, acc, ⟨h1, h2, h3⟩, ha => by
    have hw : 0 < g.2.length := List.length_pos_iff.mpr h1
    have ih := cho_go low m n G (k + g.2.length) (chAdd acc m (sgG low g)) h3
    have key : AccOk low (k + g.2.length) (chAdd acc m (sgG low g)) ∧ (chAdd acc m (sgG low g)).flatMap expC = acc.flatMap expC ++ List.replicate g.2.length (best g.1 m) ∧ (chAdd acc m (sgG low g)).length ≤ acc.length + 1 := by
      have hnew : ∀ I : List (Nat × Int × Int), (∀ x ∈ I, low ≤ x.2.1 ∧ x.2.1 ≤ x.2.2 ∧ x.2.2 ≤ low + (k : Nat) - 1) → AccOk low (k + g.2.length) (I ++ [(best g.1 m, low + (g.2.headD 0 : Nat), low + (g.2.headD 0 : Nat) + (g.2.length : Nat) - 1)]) ∧ (I ++ [(best g.1 m, low + (g.2.headD 0 : Nat), low + (g.2.headD 0 : Nat) + (g.2.length : Nat) - 1)]).flatMap expC = I.flatMap expC ++ List.replicate g.2.length (best g.1 m) := fun I hI => by
        refine ⟨accOk_snoc (Nat.le_add_right k _) hI (by simp only [h2]; omega) (by simp only [h2]; omega) (by simp only [h2]; omega), ?_⟩
        rw [List.flatMap_append]
        congr 1
        show List.replicate (low + (g.2.headD 0 : Nat) + (g.2.length : Nat) - 1 - (low + (g.2.headD 0 : Nat)) + 1).toNat _ ++ [] = _
        rw [List.append_nil]
        congr 1
        omega
      rcases List.eq_nil_or_concat acc with rfl | ⟨I, x, rfl⟩
      · obtain ⟨b1, b2⟩ := hnew [] fun x hx => nomatch hx
        exact ⟨b1, b2, Nat.le_refl _⟩
      · rw [List.concat_eq_append] at ha ⊢
        have hx := ha.la I x rfl
        have hxb := ha.bd x (List.mem_append_right _ List.mem_cons_self)
        unfold chAdd
        rw [List.getLast?_concat, List.dropLast_concat]
        show AccOk low _ (if x.1 = best g.1 m then _ else _) ∧ (if x.1 = best g.1 m then _ else _ : List (Nat × Int × Int)).flatMap expC = _ ∧ (if x.1 = best g.1 m then _ else _ : List (Nat × Int × Int)).length ≤ _
        by_cases hb : x.1 = best g.1 m
        · rw [if_pos hb]
          refine ⟨accOk_snoc (Nat.le_add_right k _) (fun y hy => ha.bd y (List.mem_append_left _ hy)) hxb.1 (by simp only [h2]; omega) (by simp only [h2]; omega), ?_, by rw [List.length_append, List.length_append]; exact Nat.le_succ _⟩
          rw [List.flatMap_append, List.flatMap_append, List.append_assoc]
          congr 1
          show List.replicate (low + (g.2.headD 0 : Nat) + (g.2.length : Nat) - 1 - x.2.1 + 1).toNat (best g.1 m) ++ [] = (List.replicate (x.2.2 - x.2.1 + 1).toNat x.1 ++ []) ++ List.replicate g.2.length (best g.1 m)
          rw [List.append_nil, List.append_nil, hb, List.replicate_append_replicate]
          congr 1
          rw [h2]
          omega
        · rw [if_neg hb]
          obtain ⟨b1, b2⟩ := hnew (I ++ [x]) ha.bd
          exact ⟨b1, b2, by rw [List.length_append (as := I ++ [x])]; exact Nat.le_refl _⟩
    obtain ⟨k1, k2, k3⟩ := key
    obtain ⟨i1, i2, i3⟩ := ih k1
    rw [List.map_cons, List.foldl_cons]
    refine ⟨i1, ?_, ?_⟩
    · rw [i2, k2, List.flatMap_cons, List.map_append, List.append_assoc, List.map_replicate]
    · rw [List.length_cons]; omega
theorem cho_all (L : Line) {low : Int} (hl : 0 ≤ low) {n : Nat} (hn : 1 ≤ n) (m : List Nat) : (∀ x ∈ lchoices L low (hiOf low n) m, low ≤ x.2.1 ∧ x.2.1 ≤ x.2.2 ∧ x.2.2 ≤ low + (n : Nat) - 1) ∧ ((lchoices L low (hiOf low n) m).flatMap expC = (rowsOf L low n).map fun r => best r m) ∧ (lchoices L low (hiOf low n) m).length ≤ n := by
  have hg := gok L hl n
  obtain ⟨h1, h2, h3⟩ := cho_go low m n (gOf (rowsOf L low n) n) 0 [] hg.ch ⟨fun I x e => absurd e (by simp), fun x hx => nomatch hx⟩
  unfold lchoices
  rw [sgG_eq L hl hn]
  refine ⟨h1.bd, ?_, Nat.le_trans h3 ?_⟩
  · rw [h2, hg.ex]; rfl
  · rw [List.length_nil, Nat.zero_add]; exact hg.ln
end TR
set_option linter.all false
/-! M11: insert ranges of a span are the insert positions of its table -/
namespace TR
/-! merging ranges -/
def Cov (rs : List (Int × Int)) (t : Int) : Prop := ∃ x ∈ rs, x.1 ≤ t ∧ t ≤ x.2
structure MgOk (lo hi : Int) (acc : List (Int × Int)) : Prop where
  pw : acc.Pairwise fun x y => x.2 + 1 < y.1
  bd : ∀ x ∈ acc, lo ≤ x.1 ∧ x.1 ≤ x.2 ∧ x.2 ≤ hi
theorem cov_app {a b : List (Int × Int)} {t : Int} : Cov (a ++ b) t ↔ Cov a t ∨ Cov b t := by
  unfold Cov
  constructor
  · rintro ⟨x, hx, h⟩
    rcases List.mem_append.mp hx with hx | hx
    · exact .inl ⟨x, hx, h⟩
    · exact .inr ⟨x, hx, h⟩
  · rintro (⟨x, hx, h⟩ | ⟨x, hx, h⟩)
    · exact ⟨x, List.mem_append_left _ hx, h⟩
    · exact ⟨x, List.mem_append_right _ hx, h⟩
theorem cov_one {x : Int × Int} {t : Int} : Cov [x] t ↔ x.1 ≤ t ∧ t ≤ x.2 := ⟨fun ⟨y, hy, h⟩ => by rw [List.mem_singleton.mp hy] at h; exact h, fun h => ⟨x, List.mem_cons_self, h⟩⟩
theorem cov_nil {t : Int} : Cov [] t ↔ False := ⟨fun ⟨y, hy, h⟩ => (nomatch hy), fun h => h.elim⟩
theorem mg_step {lo hi : Int} {acc : List (Int × Int)} {q : Int × Int} (ha : MgOk lo hi acc) (hq : lo ≤ q.1 ∧ q.1 ≤ q.2 ∧ q.2 ≤ hi) (hle : ∀ x ∈ acc, x.1 ≤ q.1) :
    MgOk lo hi (mgAdd acc q) ∧ (∀ x ∈ mgAdd acc q, x.1 ≤ q.1) ∧ (∀ t, Cov (mgAdd acc q) t ↔ Cov acc t ∨ (q.1 ≤ t ∧ t ≤ q.2)) ∧ (mgAdd acc q).length ≤ acc.length + 1 := by
  rcases List.eq_nil_or_concat acc with rfl | ⟨I, x, rfl⟩
  · have e : mgAdd [] q = [q] := rfl
    rw [e]
    refine ⟨⟨List.pairwise_singleton _ _, fun x hx => by rw [List.mem_singleton.mp hx]; exact hq⟩, fun x hx => by rw [List.mem_singleton.mp hx]; exact Int.le_refl _, fun t => ?_, Nat.le_refl _⟩
    rw [cov_one, cov_nil, false_or]
  · rw [List.concat_eq_append] at ha hle ⊢
    have hx := ha.bd x (List.mem_append_right _ List.mem_cons_self)
    have hxq := hle x (List.mem_append_right _ List.mem_cons_self)
    obtain ⟨p1, p2, p3⟩ := List.pairwise_append.mp ha.pw
    have e : mgAdd (I ++ [x]) q = if q.1 ≤ x.2 + 1 then I ++ [(x.1, max q.2 x.2)] else I ++ [x] ++ [q] := by
      unfold mgAdd
      rw [List.getLast?_concat, List.dropLast_concat]
    rw [e]
    by_cases hc : q.1 ≤ x.2 + 1
    · rw [if_pos hc]
      refine ⟨⟨?_, fun y hy => ?_⟩, fun y hy => ?_, fun t => ?_, by rw [List.length_append, List.length_append]; exact Nat.le_succ _⟩
      · rw [List.pairwise_append]
        exact ⟨p1, List.pairwise_singleton _ _, fun a ha' b hb => by rw [List.mem_singleton.mp hb]; exact p3 a ha' x List.mem_cons_self⟩
      · rcases List.mem_append.mp hy with hy | hy
        · exact ha.bd y (List.mem_append_left _ hy)
        · rw [List.mem_singleton.mp hy]
          show lo ≤ x.1 ∧ x.1 ≤ max q.2 x.2 ∧ max q.2 x.2 ≤ hi
          omega
      · rcases List.mem_append.mp hy with hy | hy
        · exact hle y (List.mem_append_left _ hy)
        · rw [List.mem_singleton.mp hy]; exact hxq
      · rw [cov_app, cov_app, cov_one, cov_one, or_assoc]
        have : (x.1 ≤ t ∧ t ≤ max q.2 x.2) ↔ (x.1 ≤ t ∧ t ≤ x.2) ∨ (q.1 ≤ t ∧ t ≤ q.2) := by omega
        rw [this]
    · rw [if_neg hc]
      refine ⟨⟨?_, fun y hy => ?_⟩, fun y hy => ?_, fun t => ?_, by rw [List.length_append (as := I ++ [x])]; exact Nat.le_refl _⟩
      · rw [List.pairwise_append]
        refine ⟨ha.pw, List.pairwise_singleton _ _, fun a ha' b hb => ?_⟩
        rw [List.mem_singleton.mp hb]
        rcases List.mem_append.mp ha' with h | h
        · have := p3 a h x List.mem_cons_self
          omega
        · rw [List.mem_singleton.mp h]; omega
      · rcases List.mem_append.mp hy with hy | hy
        · exact ha.bd y hy
        · rw [List.mem_singleton.mp hy]; exact hq
      · rcases List.mem_append.mp hy with hy | hy
        · exact hle y hy
        · rw [List.mem_singleton.mp hy]; exact Int.le_refl _
      · rw [cov_app (b := [q]), cov_one]
theorem mg_go {lo hi : Int} : ∀ (rs acc : List (Int × Int)), MgOk lo hi acc → (∀ q ∈ rs, lo ≤ q.1 ∧ q.1 ≤ q.2 ∧ q.2 ≤ hi) → (∀ x ∈ acc, ∀ q ∈ rs, x.1 ≤ q.1) → rs.Pairwise (fun a b => a.1 ≤ b.1) →
    MgOk lo hi (rs.foldl mgAdd acc) ∧ (∀ t, Cov (rs.foldl mgAdd acc) t ↔ Cov acc t ∨ Cov rs t) ∧ (rs.foldl mgAdd acc).length ≤ acc.length + rs.length
  | [], acc, ha, _, _, _ => ⟨ha, fun t => by rw [cov_nil, or_false]; rfl, Nat.le_refl _⟩
  | q :: rs, acc, ha, hb, hle, hp => by
    obtain ⟨p1, p2⟩ := List.pairwise_cons.mp hp
    obtain ⟨s1, s2, s3, s4⟩ := mg_step ha (hb q List.mem_cons_self) fun x hx => hle x hx q List.mem_cons_self
    obtain ⟨g1, g2, g3⟩ := mg_go rs (mgAdd acc q) s1 (fun x hx => hb x (List.mem_cons_of_mem _ hx)) (fun x hx y hy => Int.le_trans (s2 x hx) (p1 y hy)) p2
    rw [List.foldl_cons]
    refine ⟨g1, fun t => ?_, by rw [List.length_cons]; omega⟩
    have e : Cov (q :: rs) t ↔ (q.1 ≤ t ∧ t ≤ q.2) ∨ Cov rs t := by rw [← List.singleton_append, cov_app, cov_one]
    rw [g2, s3, e, or_assoc]
theorem leI_trans (a b c : Int × Int) (h1 : leI a b = true) (h2 : leI b c = true) : leI a c = true := by
  unfold leI at *
  have h1 := of_decide_eq_true h1
  have h2 := of_decide_eq_true h2
  exact decide_eq_true (by omega)
theorem leI_total (a b : Int × Int) : (leI a b || leI b a) = true := by
  unfold leI
  rw [Bool.or_eq_true]
  by_cases h : a.1 < b.1 ∨ (a.1 = b.1 ∧ a.2 ≤ b.2)
  · exact .inl (decide_eq_true h)
  · exact .inr (decide_eq_true (by omega))
theorem merge_ok {lo hi : Int} {rs : List (Int × Int)} (h : ∀ q ∈ rs, lo ≤ q.1 ∧ q.1 ≤ q.2 ∧ q.2 ≤ hi) : MgOk lo hi (merge rs) ∧ (∀ t, Cov (merge rs) t ↔ Cov rs t) ∧ (merge rs).length ≤ rs.length := by
  have hp : (rs.mergeSort leI).Pairwise fun a b => a.1 ≤ b.1 := by
    refine (List.pairwise_mergeSort leI_trans leI_total rs).imp fun h => ?_
    unfold leI at h
    have := of_decide_eq_true h
    omega
  obtain ⟨h1, h2, h3⟩ := mg_go (lo := lo) (hi := hi) (rs.mergeSort leI) [] ⟨.nil, fun x hx => nomatch hx⟩ (fun q hq => h q (List.mem_mergeSort.mp hq)) (fun x hx => nomatch hx) hp
  unfold merge
  refine ⟨h1, fun t => ?_, ?_⟩
  · rw [h2, cov_nil, false_or]
    unfold Cov
    constructor
    · rintro ⟨x, hx, z⟩; exact ⟨x, List.mem_mergeSort.mp hx, z⟩
    · rintro ⟨x, hx, z⟩; exact ⟨x, List.mem_mergeSort.mpr hx, z⟩
  · rw [List.length_nil, Nat.zero_add, List.length_mergeSort] at h3
    exact h3
abbrev expR (low : Int) (x : Int × Int) : List Nat := List.range' (x.1 - low).toNat (x.2 - x.1 + 1).toNat
theorem expR_mem {low : Int} {x : Int × Int} (h1 : low ≤ x.1) (h2 : x.1 ≤ x.2) {k : Nat} : k ∈ expR low x ↔ x.1 ≤ low + (k : Nat) ∧ low + (k : Nat) ≤ x.2 := by
  rw [List.mem_range'_1]
  omega
theorem exp_eq {low hi : Int} {rs : List (Int × Int)} (h : MgOk low hi rs) {l : List Nat} (hl : l.Pairwise (· < ·)) (hm : ∀ k, k ∈ l ↔ Cov rs (low + (k : Nat))) : rs.flatMap (expR low) = l := by
  have hmem : ∀ k, k ∈ rs.flatMap (expR low) ↔ Cov rs (low + (k : Nat)) := fun k => by
    rw [List.mem_flatMap]
    constructor
    · rintro ⟨x, hx, hk⟩
      obtain ⟨b1, b2, b3⟩ := h.bd x hx
      exact ⟨x, hx, (expR_mem b1 b2).mp hk⟩
    · rintro ⟨x, hx, hk⟩
      obtain ⟨b1, b2, b3⟩ := h.bd x hx
      exact ⟨x, hx, (expR_mem b1 b2).mpr hk⟩
  have hpw : (rs.flatMap (expR low)).Pairwise (· < ·) := by
    rw [List.pairwise_flatMap]
    refine ⟨fun x hx => List.pairwise_lt_range', ?_⟩
    refine List.Pairwise.imp_of_mem ?_ h.pw
    intro x y hx hy hxy a ha b hb
    obtain ⟨b1, b2, b3⟩ := h.bd x hx
    obtain ⟨c1, c2, c3⟩ := h.bd y hy
    have := (expR_mem b1 b2).mp ha
    have := (expR_mem c1 c2).mp hb
    omega
  refine List.Perm.eq_of_pairwise (le := fun a b => a < b) (fun a b _ _ h1 h2 => by omega) hpw hl ?_
  rw [List.perm_ext_iff_of_nodup (hpw.imp fun h => Nat.ne_of_lt h) (hl.imp fun h => Nat.ne_of_lt h)]
  intro k
  rw [hmem, hm]
/-! the raw ranges -/
def ChR (R : List (List Nat)) : Nat → List Gp → Nat → Prop
  | k, [], e => k = e
  | k, g :: G, e => 0 < g.2.length ∧ g.2.headD 0 = k ∧ (∀ i, k ≤ i → i < k + g.2.length → R[i]? = some g.1) ∧ ChR R (k + g.2.length) G e
theorem chR_of (R : List (List Nat)) : ∀ (G : List Gp) (k e : Nat), Ch k G e → R.drop k = G.flatMap repG → ChR R k G e
  | [], k, e, h, _ => h
  | g :: G, k, e, ⟨h1, h2, h3⟩, h => by
    have hw : 0 < g.2.length := List.length_pos_iff.mpr h1
    rw [List.flatMap_cons] at h
    refine ⟨hw, h2, fun i hi hi2 => ?_, chR_of R G _ e h3 ?_⟩
    · have h4 : (R.drop k)[i - k]? = some g.1 := by
        rw [h, List.getElem?_append_left (by rw [List.length_replicate]; omega), List.getElem?_replicate, if_pos (by omega)]
      rw [List.getElem?_drop] at h4
      have e3 : k + (i - k) = i := by omega
      rwa [e3] at h4
    · rw [← List.drop_drop, h]
      rw [List.drop_append_of_le_length (by rw [List.length_replicate]; exact Nat.le_refl _)]
      rw [List.drop_of_length_le (by rw [List.length_replicate]; exact Nat.le_refl _), List.nil_append]
/-- where the new taster may stand, from taster k on -/
def InsAt (d : Nat) (R : List (List Nat)) (n : Nat) (r : List Nat) (k j : Nat) : Prop :=
  (∃ i, k ≤ i ∧ i < n ∧ R[i]? = some r ∧ (j = i ∨ j = i + 1)) ∨ (k ≤ j ∧ j < n ∧ 0 < j ∧ ∃ a b, R[j - 1]? = some a ∧ R[j]? = some b ∧ Mid d a b r)
theorem chR_le {R : List (List Nat)} : ∀ {G : List Gp} {k e : Nat}, ChR R k G e → k ≤ e
  | [], k, e, h => by have h : k = e := h; omega
  | g :: G, k, e, ⟨h1, _, _, h4⟩ => by have := chR_le h4; omega
theorem insFrom_go {d : Nat} {R : List (List Nat)} {low : Int} {n : Nat} {r : List Nat} (hr : IsRk d r) (hR : ∀ x ∈ R, IsRk d x) (j : Nat) : ∀ (G : List Gp) (k : Nat) (prev : Option Seg), ChR R k G n → (∀ q, prev = some q → 0 < k ∧ R[k - 1]? = some q.2.2) → (prev = none → k = 0) →
    (Cov (insFrom d r prev (G.map (sgG low))) (low + (j : Nat)) ↔ InsAt d R n r k j)
  | [], k, prev, h, _, _ => by
    have h : k = n := h
    rw [List.map_nil]
    show Cov [] _ ↔ _
    rw [cov_nil]
    refine ⟨fun z => z.elim, ?_⟩
    rintro (⟨i, h1, h2, _⟩ | ⟨h1, h2, _⟩) <;> omega
  | g :: G, k, prev, ⟨h1, h2, h3, h4⟩, hp, hq => by
    have hkn := chR_le h4
    have hlast : R[k + g.2.length - 1]? = some g.1 := h3 _ (by omega) (by omega)
    have ih := insFrom_go (low := low) hr hR j G (k + g.2.length) (some (sgG low g)) h4 (fun q e => by cases e; exact ⟨by omega, hlast⟩) (fun e => nomatch e)
    have hk0 : R[k]? = some g.1 := h3 k (Nat.le_refl _) (by omega)
    have hrg : IsRk d g.1 := hR _ (List.mem_of_getElem? hk0)
    rw [List.map_cons]
    show Cov (insStep d r prev (sgG low g) ++ insFrom d r (some (sgG low g)) (G.map (sgG low))) _ ↔ _
    rw [cov_app, ih]
    have hstep : Cov (insStep d r prev (sgG low g)) (low + (j : Nat)) ↔ (g.1 = r ∧ k ≤ j ∧ j ≤ k + g.2.length) ∨ (j = k ∧ ∃ q, prev = some q ∧ Mid d q.2.2 g.1 r) := by
      unfold insStep
      rw [cov_app]
      have e1 : Cov (if (sgG low g).2.2 = r then [((sgG low g).1, (sgG low g).2.1 + 1)] else []) (low + (j : Nat)) ↔ (g.1 = r ∧ k ≤ j ∧ j ≤ k + g.2.length) := by
        show Cov (if g.1 = r then [(low + (g.2.headD 0 : Nat), low + (g.2.headD 0 : Nat) + (g.2.length : Nat) - 1 + 1)] else []) _ ↔ _
        rw [h2]
        by_cases hgr : g.1 = r
        · rw [if_pos hgr, cov_one]
          simp only
          exact ⟨fun z => ⟨hgr, by omega, by omega⟩, fun z => by have := z.2; omega⟩
        · rw [if_neg hgr, cov_nil]
          exact ⟨fun z => z.elim, fun z => hgr z.1⟩
      rw [e1]
      refine or_congr Iff.rfl ?_
      cases prev with
      | none =>
        show Cov [] _ ↔ _
        rw [cov_nil]
        exact ⟨fun z => z.elim, fun ⟨_, q, z, _⟩ => nomatch z⟩
      | some q =>
        show Cov (if betw d q.2.2 g.1 r = true then [(low + (g.2.headD 0 : Nat), low + (g.2.headD 0 : Nat))] else []) _ ↔ _
        rw [h2]
        by_cases hb : betw d q.2.2 g.1 r = true
        · rw [if_pos hb, cov_one]
          simp only
          constructor
          · intro z; exact ⟨by omega, q, rfl, betw_iff.mp hb⟩
          · rintro ⟨z, _⟩; omega
        · rw [if_neg hb, cov_nil]
          exact ⟨fun z => z.elim, fun ⟨_, q', z, hm⟩ => by cases z; exact hb (betw_iff.mpr hm)⟩
    rw [hstep]
    constructor
    · rintro ((⟨e, z1, z2⟩ | ⟨z, q, e, hm⟩) | (⟨i, z1, z2, z3⟩ | ⟨z1, z2, z3, z4⟩))
      · subst e
        refine .inl ?_
        by_cases hj : j < k + g.2.length
        · exact ⟨j, z1, by omega, h3 j z1 hj, .inl rfl⟩
        · exact ⟨k + g.2.length - 1, by omega, by omega, hlast, .inr (by omega)⟩
      · subst z
        obtain ⟨p1, p2⟩ := hp q e
        exact .inr ⟨Nat.le_refl _, by omega, p1, q.2.2, g.1, p2, hk0, hm⟩
      · exact .inl ⟨i, by omega, z2, z3⟩
      · exact .inr ⟨by omega, z2, z3, z4⟩
    · rintro (⟨i, z1, z2, z3, z4⟩ | ⟨z1, z2, z3, a, b, z4, z5, z6⟩)
      · by_cases hi : i < k + g.2.length
        · have := h3 i z1 hi
          rw [z3] at this
          cases this
          exact .inl (.inl ⟨rfl, by omega, by omega⟩)
        · exact .inr (.inl ⟨i, by omega, z2, z3, z4⟩)
      · by_cases hj : j < k + g.2.length
        · have e1 := h3 j z1 hj
          rw [z5] at e1
          cases e1
          by_cases hjk : j = k
          · subst hjk
            cases prev with
            | none => have := hq rfl; omega
            | some q =>
              obtain ⟨p1, p2⟩ := hp q rfl
              rw [p2] at z4
              cases z4
              exact .inl (.inr ⟨rfl, q, rfl, z6⟩)
          · have e2 := h3 (j - 1) (by omega) (by omega)
            rw [z4] at e2
            cases e2
            have : g.1 = r := (rk_ext hr hrg fun p hp => z6 p hp rfl).symm
            exact .inl (.inl ⟨this, z1, by omega⟩)
        · exact .inr (.inr ⟨by omega, z2, z3, a, b, z4, z5, z6⟩)
theorem insFrom_bd {d : Nat} {R : List (List Nat)} {low : Int} {n : Nat} {r : List Nat} : ∀ (G : List Gp) (k : Nat) (prev : Option Seg), ChR R k G n → (∀ q ∈ insFrom d r prev (G.map (sgG low)), low ≤ q.1 ∧ q.1 ≤ q.2 ∧ q.2 ≤ low + (n : Nat)) ∧ (insFrom d r prev (G.map (sgG low))).length ≤ 2 * G.length
  | [], k, prev, h => ⟨fun q hq => (nomatch hq), Nat.le_refl _⟩
  | g :: G, k, prev, ⟨h1, h2, h3, h4⟩ => by
    have hkn := chR_le h4
    obtain ⟨i1, i2⟩ := insFrom_bd (d := d) (low := low) (r := r) G (k + g.2.length) (some (sgG low g)) h4
    have e : insFrom d r prev ((g :: G).map (sgG low)) = insStep d r prev (sgG low g) ++ insFrom d r (some (sgG low g)) (G.map (sgG low)) := rfl
    have hs : (∀ q ∈ insStep d r prev (sgG low g), low ≤ q.1 ∧ q.1 ≤ q.2 ∧ q.2 ≤ low + (n : Nat)) ∧ (insStep d r prev (sgG low g)).length ≤ 2 := by
      have b1 : low ≤ low + (g.2.headD 0 : Nat) := by omega
      have b2 : low + (g.2.headD 0 : Nat) ≤ low + (n : Nat) := by rw [h2]; omega
      have b3 : low + (g.2.headD 0 : Nat) + (g.2.length : Nat) - 1 + 1 ≤ low + (n : Nat) := by rw [h2]; omega
      unfold insStep
      refine ⟨fun q hq => ?_, ?_⟩
      · rcases List.mem_append.mp hq with hq | hq
        · split at hq
          · rw [List.mem_singleton.mp hq]
            exact ⟨b1, by show low + (g.2.headD 0 : Nat) ≤ low + (g.2.headD 0 : Nat) + (g.2.length : Nat) - 1 + 1; omega, b3⟩
          · cases hq
        · split at hq
          · split at hq
            · rw [List.mem_singleton.mp hq]
              exact ⟨b1, Int.le_refl _, b2⟩
            · cases hq
          · cases hq
      · rw [List.length_append]
        have c1 : (if (sgG low g).2.2 = r then [((sgG low g).1, (sgG low g).2.1 + 1)] else []).length ≤ 1 := by split <;> simp
        refine (Nat.add_le_add c1 (?_ : _ ≤ 1) : _ ≤ 1 + 1)
        split
        · split <;> simp
        · simp
    rw [e]
    refine ⟨fun q hq => ?_, ?_⟩
    · rcases List.mem_append.mp hq with hq | hq
      · exact hs.1 q hq
      · exact i1 q hq
    · rw [List.length_append, List.length_cons]
      have := hs.2
      omega
/-! the insert positions -/
theorem putAt_map {R : List (List Nat)} {r : List Nat} {k : Nat} (hk : k ≤ R.length) : (putAt R.length k).map (fun i => (R ++ [r]).getD i []) = R.take k ++ r :: R.drop k := by
  have h1 : ∀ l : List Nat, (∀ i ∈ l, i < R.length) → l.map (fun i => (R ++ [r]).getD i []) = l.map fun i => R.getD i [] := fun l hl => List.map_congr_left fun i hi => by
    rw [List.getD_eq_getElem?_getD, List.getElem?_append_left (hl i hi), ← List.getD_eq_getElem?_getD]
  unfold putAt
  rw [List.map_append, List.map_cons, h1 _ fun i hi => List.mem_range.mp (List.mem_of_mem_take hi), h1 _ fun i hi => List.mem_range.mp (List.mem_of_mem_drop hi), List.map_take, List.map_drop, range_getD R]
  congr 2
  rw [List.getD_eq_getElem?_getD, List.getElem?_append_right (Nat.le_refl _), Nat.sub_self]
  rfl
end TR
set_option linter.all false
/-! M12: insert positions of a span -/
namespace TR
theorem or_cr {a b c : Prop} (h : ¬ a → (b ↔ c)) : (a ∨ b) ↔ (a ∨ c) := by
  by_cases ha : a
  · exact ⟨fun _ => .inl ha, fun _ => .inl ha⟩
  · rw [h ha]
theorem take_mid {R : List (List Nat)} {j : Nat} {a b : List Nat} (h0 : 0 < j) (h1 : R[j - 1]? = some a) (h2 : R[j]? = some b) : R = R.take (j - 1) ++ a :: b :: R.drop (j + 1) ∧ R.take j = R.take (j - 1) ++ [a] ∧ R.drop j = b :: R.drop (j + 1) := by
  have ed : R.drop j = b :: R.drop (j + 1) := by
    obtain ⟨hl, e⟩ := List.getElem?_eq_some_iff.mp h2
    rw [List.drop_eq_getElem_cons hl, e]
  have et : R.take j = R.take (j - 1) ++ [a] := by
    have : j = (j - 1) + 1 := by omega
    conv => lhs; rw [this]
    rw [List.take_add_one, h1]
    rfl
  refine ⟨?_, et, ed⟩
  conv => lhs; rw [← List.take_append_drop j R, et, ed]
  rw [List.append_assoc]
  rfl
theorem valid_iff {d : Nat} (hd : d ≤ 8) {R : List (List Nat)} (hR : (chL d R).Nodup) {r x z : List Nat} (h1 : R.head? = some x) (h2 : R.getLast? = some z) {j : Nat} (hj : j ≤ R.length) :
    once d (R ++ [r]) (putAt R.length j) = true ↔ (j = 0 ∧ Mid d r z x) ∨ (j = R.length ∧ Mid d r x z) ∨ (0 < j ∧ j < R.length ∧ ∃ a b, R[j - 1]? = some a ∧ R[j]? = some b ∧ Mid d a b r) := by
  have hn : 0 < R.length := by
    cases R with
    | nil => cases h1
    | cons _ _ => exact Nat.succ_pos _
  rw [once_iff, putAt_map hj]
  by_cases j0 : j = 0
  · subst j0
    rw [List.take_zero, List.drop_zero, List.nil_append, ins_fst (xs := []) hd hR h1 h2]
    constructor
    · intro h; exact .inl ⟨rfl, h⟩
    · rintro (⟨_, h⟩ | ⟨e, _⟩ | ⟨e, _⟩)
      · exact h
      · omega
      · omega
  · by_cases jn : j = R.length
    · subst jn
      rw [List.take_length, List.drop_length, ins_lst hd hR h1 h2]
      constructor
      · intro h; exact .inr (.inl ⟨rfl, h⟩)
      · rintro (⟨e, _⟩ | ⟨_, h⟩ | ⟨_, e, _⟩)
        · omega
        · exact h
        · omega
    · have ha := List.getElem?_eq_getElem (l := R) (i := j - 1) (by omega)
      have hb := List.getElem?_eq_getElem (l := R) (i := j) (by omega)
      obtain ⟨e1, e2, e3⟩ := take_mid (by omega) ha hb
      have hR' := hR
      rw [e1] at hR'
      rw [e2, e3, List.append_assoc]
      show (chL d (R.take (j - 1) ++ R[j - 1] :: r :: R[j] :: R.drop (j + 1))).Nodup ↔ _
      rw [ins_mid hd hR']
      constructor
      · intro h; exact .inr (.inr ⟨by omega, by omega, _, _, ha, hb, h⟩)
      · rintro (⟨e, _⟩ | ⟨e, _⟩ | ⟨_, _, a, b, h3, h4, h5⟩)
        · omega
        · omega
        · rw [ha] at h3
          rw [hb] at h4
          cases h3
          cases h4
          exact h5
section
variable {L : Line} (h8 : L.length ≤ 8) {low : Int} (hl : 0 ≤ low) {n : Nat} (hn : 1 ≤ n)
include h8 hl hn
theorem raw_eq {r : List Nat} : ∃ x z, (rowsOf L low n).head? = some x ∧ (rowsOf L low n).getLast? = some z ∧ insRaw L low (hiOf low n) r = (if betw L.length r z x then [(low, low)] else []) ++ (if betw L.length r x z then [(low + (n : Nat), low + (n : Nat))] else []) ++ insFrom L.length r none ((gOf (rowsOf L low n) n).map (sgG low)) := by
  have hg := gok L hl n
  have hc := chR_of (rowsOf L low n) _ 0 n hg.ch (by rw [List.drop_zero]; exact hg.ex.symm)
  have hi := gi_ok (rows_cvx L hl n) low n (by rw [rowsOf_len]; exact Nat.le_refl _)
  obtain ⟨I, gl, eI, hla⟩ : ∃ I g, gOf (rowsOf L low n) n = I ++ [g] ∧ (rowsOf L low n)[n - 1]? = some g.1 := by
    rcases hi.la with h | h
    · omega
    · exact h
  cases e : gOf (rowsOf L low n) n with
  | nil => rw [e] at eI; simp at eI
  | cons g G =>
    have hx : (rowsOf L low n)[0]? = some g.1 := by
      rw [e] at hc
      exact hc.2.2.1 0 (Nat.le_refl _) (by have := hc.1; omega)
    refine ⟨g.1, gl.1, by rw [List.head?_eq_getElem?]; exact hx, by rw [List.getLast?_eq_getElem?, rowsOf_len]; exact hla, ?_⟩
    unfold insRaw
    have es := sgG_eq L hl hn
    have e1 : ((segs L low (hiOf low n)).headD (0, 0, [])).2.2 = g.1 := by rw [es, e]; rfl
    have e2 : ((segs L low (hiOf low n)).getLastD (0, 0, [])).2.2 = gl.1 := by
      rw [es, eI, List.map_append, List.map_cons, List.map_nil, List.getLastD_concat]
    have e3 : hiOf low n + 1 = low + (n : Nat) := by show low + (n : Nat) - 1 + 1 = _; omega
    simp only [e1, e2, e3]
    rw [es, e]
theorem cov_valid {r : List Nat} (hr : IsRk L.length r) {j : Nat} (hj : j ≤ n) : Cov (insRaw L low (hiOf low n) r) (low + (j : Nat)) ↔ once L.length (rowsOf L low n ++ [r]) (putAt (rowsOf L low n).length j) = true := by
  obtain ⟨x, z, hx, hz, e⟩ := raw_eq h8 hl hn (r := r)
  have hg := gok L hl n
  have hc := chR_of (rowsOf L low n) _ 0 n hg.ch (by rw [List.drop_zero]; exact hg.ex.symm)
  have hrk : ∀ y ∈ rowsOf L low n, IsRk L.length y := fun y hy => by
    obtain ⟨i, _, rfl⟩ := List.mem_map.mp hy
    exact rank_rk _ _
  have hi := insFrom_go (low := low) hr hrk j _ 0 none hc (fun q z => nomatch z) (fun _ => rfl)
  rw [valid_iff h8 (rows_nodup h8 hl hn) hx hz (by rw [rowsOf_len]; exact hj), e, cov_app, cov_app, hi, rowsOf_len]
  have hx0 : (rowsOf L low n)[0]? = some x := by rw [← List.head?_eq_getElem?]; exact hx
  have hzn : (rowsOf L low n)[n - 1]? = some z := by rw [List.getLast?_eq_getElem?, rowsOf_len] at hz; exact hz
  have c1 : Cov (if betw L.length r z x then [(low, low)] else []) (low + (j : Nat)) ↔ (j = 0 ∧ Mid L.length r z x) := by
    by_cases hb : betw L.length r z x = true
    · rw [if_pos hb, cov_one]
      exact ⟨fun h => ⟨by simp only at h; omega, betw_iff.mp hb⟩, fun h => by have := h.1; simp only; omega⟩
    · rw [if_neg hb, cov_nil]
      exact ⟨fun h => h.elim, fun h => hb (betw_iff.mpr h.2)⟩
  have c2 : Cov (if betw L.length r x z then [(low + (n : Nat), low + (n : Nat))] else []) (low + (j : Nat)) ↔ (j = n ∧ Mid L.length r x z) := by
    by_cases hb : betw L.length r x z = true
    · rw [if_pos hb, cov_one]
      exact ⟨fun h => ⟨by simp only at h; omega, betw_iff.mp hb⟩, fun h => by have := h.1; simp only; omega⟩
    · rw [if_neg hb, cov_nil]
      exact ⟨fun h => h.elim, fun h => hb (betw_iff.mpr h.2)⟩
  rw [c1, c2, or_assoc]
  refine or_cr fun hn1 => or_cr fun hn2 => ?_
  unfold InsAt
  constructor
  · rintro (⟨i, z1, z2, z3, z4⟩ | ⟨z1, z2, z3, z4⟩)
    · by_cases j0 : j = 0
      · exfalso
        have : i = 0 := by omega
        subst this
        rw [hx0] at z3
        cases z3
        exact hn1 ⟨j0, fun p hp h => rfl⟩
      · by_cases jn : j = n
        · exfalso
          have : i = n - 1 := by omega
          subst this
          rw [hzn] at z3
          cases z3
          exact hn2 ⟨jn, fun p hp h => rfl⟩
        · obtain ⟨a, ha⟩ : ∃ a, (rowsOf L low n)[j - 1]? = some a := ⟨_, List.getElem?_eq_getElem (by rw [rowsOf_len]; omega)⟩
          obtain ⟨b, hb⟩ : ∃ b, (rowsOf L low n)[j]? = some b := ⟨_, List.getElem?_eq_getElem (by rw [rowsOf_len]; omega)⟩
          refine ⟨by omega, by omega, _, _, ha, hb, fun p hp h => ?_⟩
          rcases z4 with rfl | rfl
          · rw [z3] at hb
            rw [Option.some.inj hb, ← h]
          · have e5 : i + 1 - 1 = i := by omega
            rw [e5] at ha
            rw [z3] at ha
            rw [Option.some.inj ha]
    · exact ⟨z3, z2, z4⟩
  · rintro ⟨z1, z2, z4⟩
    exact .inr ⟨Nat.zero_le _, z2, z1, z4⟩
theorem raw_bd {r : List Nat} : (∀ q ∈ insRaw L low (hiOf low n) r, low ≤ q.1 ∧ q.1 ≤ q.2 ∧ q.2 ≤ low + (n : Nat)) ∧ (insRaw L low (hiOf low n) r).length ≤ 2 + 2 * n := by
  obtain ⟨x, z, hx, hz, e⟩ := raw_eq h8 hl hn (r := r)
  have hg := gok L hl n
  have hc := chR_of (rowsOf L low n) _ 0 n hg.ch (by rw [List.drop_zero]; exact hg.ex.symm)
  obtain ⟨b1, b2⟩ := insFrom_bd (d := L.length) (low := low) (r := r) _ 0 none hc
  have hln := hg.ln
  rw [e]
  refine ⟨fun q hq => ?_, ?_⟩
  · rcases List.mem_append.mp hq with hq | hq
    · rcases List.mem_append.mp hq with hq | hq
      · split at hq
        · rw [List.mem_singleton.mp hq]
          simp only
          omega
        · cases hq
      · split at hq
        · rw [List.mem_singleton.mp hq]
          simp only
          omega
        · cases hq
    · exact b1 q hq
  · rw [List.length_append, List.length_append]
    have c1 : (if betw L.length r z x then [(low, low)] else [] : List (Int × Int)).length ≤ 1 := by split <;> simp
    have c2 : (if betw L.length r x z then [(low + (n : Nat), low + (n : Nat))] else [] : List (Int × Int)).length ≤ 1 := by split <;> simp
    omega
theorem ins_all {r : List Nat} (hr : IsRk L.length r) : (∀ x ∈ insR L low (hiOf low n) r, low ≤ x.1 ∧ x.1 ≤ x.2 ∧ x.2 ≤ low + (n : Nat)) ∧ (insR L low (hiOf low n) r).length ≤ 2 + 2 * n ∧ (insR L low (hiOf low n) r).flatMap (expR low) = insPos L.length (rowsOf L low n) r := by
  obtain ⟨b1, b2⟩ := raw_bd h8 hl hn (r := r)
  obtain ⟨m1, m2, m3⟩ := merge_ok b1
  refine ⟨m1.bd, Nat.le_trans m3 b2, exp_eq m1 ?_ fun k => ?_⟩
  · exact List.pairwise_lt_range.filter _
  · unfold insPos
    rw [List.mem_filter, List.mem_range, rowsOf_len, m2]
    constructor
    · rintro ⟨h1, h2⟩
      exact (cov_valid h8 hl hn hr (by omega)).mpr (by rw [rowsOf_len]; exact h2)
    · intro h
      obtain ⟨q, hq, h1, h2⟩ := h
      have := b1 q hq
      have hk : k ≤ n := by omega
      refine ⟨by omega, ?_⟩
      have := (cov_valid h8 hl hn hr hk).mp ⟨q, hq, h1, h2⟩
      rwa [rowsOf_len] at this
end
end TR
set_option Elab.async false
set_option linter.all false
set_option maxRecDepth 100000
set_option maxHeartbeats 1000000
/-! DL1: judgements on data. Rp: a value stands for a datum; Rel: an environment of data over the slots; EE, ET, EA: what an expression, a test, an argument list comes to. -/
namespace DL
open PySem PySem.Spec PyProof.Rows L2

/-- data: a tuple is plain (b = true: an exact tuple object, known to have no dict of its own) or not -/
inductive D where
  | none
  | bool (b : Bool)
  | int (i : Int)
  | str (s : Str)
  | list (xs : List D)
  | tup (b : Bool) (xs : List D)
  | dict (ks : List (List Int))
abbrev D.tuple (xs : List D) : D := .tup false xs
mutual
def toPy : D → PyData
  | .none => .none
  | .bool b => .bool b
  | .int i => .int i
  | .str x => .str x
  | .list xs => .list (toPyA xs)
  | .tup _ xs => .tuple (toPyA xs)
  | .dict _ => .dict []
def toPyA : List D → List PyData
  | [] => []
  | x :: xs => toPy x :: toPyA xs
end
theorem toPyA_map : ∀ xs : List D, toPyA xs = xs.map toPy
  | [] => by simp [toPyA]
  | x :: xs => by simp [toPyA, toPyA_map xs]
/-- a tuple stands there -/
def TupAt (H : Hp) : Bool → Addr → List V → Prop
  | false, a, xs => H a = some (.tup xs)
  | true, a, xs => ∃ o, o.dict = Option.none ∧ H a = some (.frz o (.tup xs))
theorem TupAt.mono {H H' : Hp} (e : Same H H') : ∀ {b : Bool} {a : Addr} {xs : List V}, TupAt H b a xs → TupAt H' b a xs
  | false, _, _, h => e _ _ h
  | true, _, _, ⟨o, d, h⟩ => ⟨o, d, e _ _ h⟩
theorem TupAt.sq {H : Hp} {K : PySem.W.Frag} : ∀ {b : Bool} {a : Addr} {xs : List V}, TupAt H b a xs → SqT K H a xs
  | false, _, _, h => SqT.of h
  | true, _, _, ⟨o, _, h⟩ => .inl (.inr ⟨o, h⟩)
mutual
/-- no dict lies within -/
def clean : D → Bool
  | .list xs => cleanA xs
  | .tup _ xs => cleanA xs
  | .dict _ => false
  | _ => true
def cleanA : List D → Bool
  | [] => true
  | x :: xs => clean x && cleanA xs
end
theorem cleanA_of : ∀ {xs : List D}, (∀ x ∈ xs, clean x = true) → cleanA xs = true
  | [], _ => by rw [cleanA]
  | x :: xs, h => by rw [cleanA, h x List.mem_cons_self, cleanA_of fun y hy => h y (List.mem_cons_of_mem _ hy)]; rfl
mutual
theorem clean_of : ∀ d : D, (toPy d).canLay0 = true → clean d = true
  | .none, _ => by rw [clean] <;> simp
  | .bool _, _ => by rw [clean] <;> simp
  | .int _, _ => by rw [clean] <;> simp
  | .str _, _ => by rw [clean] <;> simp
  | .list xs, h => by rw [clean]; exact cleanA_of' xs (by simpa [toPy, PyData.canLay0] using h)
  | .tup _ xs, h => by rw [clean]; exact cleanA_of' xs (by simpa [toPy, PyData.canLay0] using h)
  | .dict _, h => by simp [toPy, PyData.canLay0] at h
theorem cleanA_of' : ∀ ds : List D, PyData.canLayAll0 (toPyA ds) = true → cleanA ds = true
  | [], _ => by rw [cleanA]
  | d :: ds, h => by
    have h' : (toPy d).canLay0 = true ∧ PyData.canLayAll0 (toPyA ds) = true := by simpa [toPyA, PyData.canLayAll0] using h
    rw [cleanA, clean_of d h'.1, cleanA_of' ds h'.2]; rfl
end
theorem clean_sh {d : D} (h : SeqAt.shaped (toPy d) = true) : clean d = true := clean_of d (by
  unfold SeqAt.shaped at h
  exact (Bool.and_eq_true_iff.mp h).1)
/-! a dict keyed by tuples of ints, by its own entries -/
abbrev Ent := List Int × Addr × Value
def entD (x : Ent) : DictEntry := ⟨reduceHash (Builtin.Tuple.tupleHashOf (x.1.map hashInt)), .ref x.2.1, x.2.2⟩
theorem entD_eq {P : Program} {w : World} : entryOfKey (tupleKind (intKind P w)) = entD := rfl
def EntsAt (d : Addr) (xs : List Ent) (h : Heap) : Prop := (d == sysModules) = false ∧ xs.length ≤ sizeLine ∧ ∃ o es ep, h.get? d = some o ∧ o.ExactDict ∧ o.data = .dict es ep ∧ es.toList = xs.map entD ∧ (xs.map (·.1)).Nodup
def DRaw (d : Addr) (xs : List Ent) : HO := .ext (EntsAt d xs)
mutual
/-- the value stands for the datum, in the heap -/
inductive Rp (H : Hp) : V → D → Prop
  | non : Rp H .non .none
  | bl (b : Bool) : Rp H (.bl b) (.bool b)
  | int (i : Int) : Rp H (.int i) (.int i)
  | str (x : Str) : Rp H (.str x) (.str x)
  | lst {a : Addr} {xs : List V} {ds : List D} : H a = some (.lst xs) → RpA H xs ds → Rp H (.ref a) (.list ds)
  | tup {b : Bool} {a : Addr} {xs : List V} {ds : List D} : TupAt H b a xs → RpA H xs ds → Rp H (.ref a) (.tup b ds)
  | dct {a : Addr} {xs : List Ent} {ks : List (List Int)} : H a = some (DRaw a xs) → xs.map (·.1) = ks → (∀ x ∈ xs, H x.2.1 = some (.tup (x.1.map V.int))) → Rp H (.ref a) (.dict ks)
inductive RpA (H : Hp) : List V → List D → Prop
  | nil : RpA H [] []
  | cons {v : V} {vs : List V} {d : D} {ds : List D} : Rp H v d → RpA H vs ds → RpA H (v :: vs) (d :: ds)
end
section
variable {H H' : Hp} {K : PySem.W.Frag}
mutual
theorem Rp.mono (e : Same H H') : ∀ (d : D) (v : V), Rp H v d → Rp H' v d
  | .none, _, h => by cases h; exact .non
  | .bool b, _, h => by cases h; exact .bl b
  | .int i, _, h => by cases h; exact .int i
  | .str x, _, h => by cases h; exact .str x
  | .list ds, _, h => by
    cases h with
    | lst hs ha => exact .lst (e _ _ hs) (RpA.mono e ds _ ha)
  | .tup _ ds, _, h => by
    cases h with
    | tup hs ha => exact .tup (hs.mono e) (RpA.mono e ds _ ha)
  | .dict ks, _, h => by
    cases h with
    | dct h1 h2 h3 => exact .dct (e _ _ h1) h2 fun x hx => e _ _ (h3 x hx)
theorem RpA.mono (e : Same H H') : ∀ (ds : List D) (vs : List V), RpA H vs ds → RpA H' vs ds
  | [], _, h => by cases h; exact .nil
  | d :: ds, _, h => by
    cases h with
    | cons h1 h2 => exact .cons (Rp.mono e d _ h1) (RpA.mono e ds _ h2)
end
mutual
theorem Rp.dp : ∀ (d : D) (v : V), Rp H v d → clean d = true → Dp K H v (toPy d)
  | .none, _, h, _ => by cases h; exact .non
  | .bool b, _, h, _ => by cases h; exact .bl b
  | .int i, _, h, _ => by cases h; exact .int i
  | .str x, _, h, _ => by cases h; exact .str x
  | .list ds, _, h, c => by
    cases h with
    | lst hs ha => exact .lst (SqL.of hs) (RpA.dp ds _ ha (by rw [clean] at c; exact c))
  | .tup _ ds, _, h, c => by
    cases h with
    | tup hs ha => exact .tup hs.sq (RpA.dp ds _ ha (by rw [clean] at c; exact c))
  | .dict _, _, _, c => by rw [clean] at c; cases c
theorem RpA.dp : ∀ (ds : List D) (vs : List V), RpA H vs ds → cleanA ds = true → DpAll K H vs (toPyA ds)
  | [], _, h, _ => by cases h; exact .nil
  | d :: ds, _, h, c => by
    rw [cleanA] at c
    have c := Bool.and_eq_true_iff.mp c
    cases h with
    | cons h1 h2 => exact .cons (Rp.dp d _ h1 c.1) (RpA.dp ds _ h2 c.2)
end
theorem RpA.len : ∀ {ds : List D} {vs : List V}, RpA H vs ds → vs.length = ds.length
  | [], _, h => by cases h; rfl
  | d :: ds, _, h => by
    cases h with
    | cons h1 h2 => show _ + 1 = _ + 1; rw [RpA.len h2]
theorem RpA.get : ∀ {ds : List D} {vs : List V}, RpA H vs ds → ∀ {i : Nat} {d : D}, ds[i]? = some d → ∃ v, vs[i]? = some v ∧ Rp H v d
  | [], _, h, _, _, e => by simp at e
  | d :: ds, _, h, i, x, e => by
    cases h with
    | cons h1 h2 =>
      cases i with
      | zero => have e' : d = x := by simpa using e
                subst e'; exact ⟨_, rfl, h1⟩
      | succ i => exact RpA.get h2 (by simpa using e)
theorem RpA.getV {ds : List D} {vs : List V} (h : RpA H vs ds) {i : Nat} {v : V} (e : vs[i]? = some v) : ∃ d, ds[i]? = some d ∧ Rp H v d := by
  have hl := h.len
  have hi : i < ds.length := by rw [← hl]; exact (List.getElem?_eq_some_iff.mp e).1
  obtain ⟨v', e', r⟩ := h.get (List.getElem?_eq_getElem hi)
  rw [e] at e'; cases e'
  exact ⟨_, List.getElem?_eq_getElem hi, r⟩
theorem RpA.append : ∀ {ds es : List D} {vs ws : List V}, RpA H vs ds → RpA H ws es → RpA H (vs ++ ws) (ds ++ es)
  | [], _, _, _, h, h' => by cases h; exact h'
  | _ :: _, _, _, _, h, h' => by
    cases h with
    | cons h1 h2 => exact .cons h1 (RpA.append h2 h')
theorem RpA.take : ∀ {ds : List D} {vs : List V} (n : Nat), RpA H vs ds → RpA H (vs.take n) (ds.take n)
  | [], _, n, h => by cases h; simp; exact .nil
  | _ :: _, _, 0, h => by simp; exact .nil
  | _ :: _, _, n + 1, h => by
    cases h with
    | cons h1 h2 => exact .cons h1 (RpA.take n h2)
theorem RpA.drop : ∀ {ds : List D} {vs : List V} (n : Nat), RpA H vs ds → RpA H (vs.drop n) (ds.drop n)
  | [], _, n, h => by cases h; simp; exact .nil
  | _ :: _, _, 0, h => by simpa using h
  | _ :: _, _, n + 1, h => by
    cases h with
    | cons h1 h2 => exact RpA.drop n h2
theorem RpA.set : ∀ {ds : List D} {vs : List V} (n : Nat) {v : V} {d : D}, RpA H vs ds → Rp H v d → RpA H (vs.set n v) (ds.set n d)
  | [], _, n, _, _, h, _ => by cases h; exact .nil
  | _ :: _, _, 0, _, _, h, r => by
    cases h with
    | cons h1 h2 => exact .cons r h2
  | _ :: _, _, n + 1, _, _, h, r => by
    cases h with
    | cons h1 h2 => exact .cons h1 (RpA.set n h2 r)
theorem RpA.eraseIdx : ∀ {ds : List D} {vs : List V} (n : Nat), RpA H vs ds → RpA H (vs.eraseIdx n) (ds.eraseIdx n)
  | [], _, n, h => by cases h; exact .nil
  | _ :: _, _, 0, h => by
    cases h with
    | cons h1 h2 => exact h2
  | _ :: _, _, n + 1, h => by
    cases h with
    | cons h1 h2 => exact .cons h1 (RpA.eraseIdx n h2)
theorem RpA.reverse : ∀ {ds : List D} {vs : List V}, RpA H vs ds → RpA H vs.reverse ds.reverse
  | [], _, h => by cases h; exact .nil
  | _ :: _, _, h => by
    cases h with
    | cons h1 h2 =>
      rw [List.reverse_cons, List.reverse_cons]
      exact (RpA.reverse h2).append (.cons h1 .nil)
theorem RpA.one {v : V} {d : D} (h : Rp H v d) : RpA H [v] [d] := .cons h .nil
theorem RpA.ints : ∀ {ns : List Int} {vs : List V}, RpA H vs (ns.map D.int) → vs = ns.map V.int
  | [], _, h => by cases h; rfl
  | _ :: _, _, h => by
    cases h with
    | cons h1 h2 => cases h1; rw [RpA.ints h2]; rfl
theorem RpA.of_ints : ∀ (ns : List Int), RpA H (ns.map V.int) (ns.map .int)
  | [] => .nil
  | n :: ns => .cons (.int n) (RpA.of_ints ns)
theorem RpA.bools : ∀ {ns : List Bool} {vs : List V}, RpA H vs (ns.map .bool) → vs = ns.map V.bl
  | [], _, h => by cases h; rfl
  | _ :: _, _, h => by
    cases h with
    | cons h1 h2 => cases h1; rw [RpA.bools h2]; rfl
end

/-! ### environments -/
/-- what is said of the deck's digits, cells and counter -/
abbrev Dkp := List Int → List Int → Nat → Prop
def dkN (N : Nat) : Dkp := fun bigs cells j => (∀ b ∈ bigs, 0 ≤ b) ∧ cells ≠ [] ∧ (∀ b ∈ cells, 0 ≤ b) ∧ bigs.length ≤ 100 ∧ cells.length ≤ 100 ∧ j ≤ N
/-- a slot: anything; a datum; a list of its own (nobody else holds it); the deck, its counter at most N -/
inductive Sl where
  | any
  | d (x : D)
  | own (xs : List D)
  | ownD (kvs : List (List Int × D))
  | dk (N : Dkp)
def Sl.isOwn : Sl → Bool
  | .own _ => true
  | .ownD _ => true
  | _ => false
/-- at a def's entry: the data's heap, the heap, the deck's addresses -/
structure Fm where
  H0 : Hp
  He : Hp
  dk : List Addr
/-- the deck: a list of a list of digits, a list of cells, a counter -/
def DeckOk (H : Hp) (a p q : Addr) (N : Dkp) : Prop :=
  ∃ (bigs cells : List Int) (j : Nat), H a = some (.lst [.ref p, .ref q, .int j]) ∧ H p = some (.lst (bigs.map V.int)) ∧ H q = some (.lst (cells.map V.int)) ∧ N bigs cells j
/-- the entries of a dict, their keys' tuples and their values' data -/
def KR (H : Hp) : List Ent → List (List Int × D) → Prop := Paired fun x kv => x.1 = kv.1 ∧ H x.2.1 = some (.tup (x.1.map V.int)) ∧ ∃ v, RelV v x.2.2 ∧ Rp H v kv.2
theorem KR.mono {H H' : Hp} (e : Same H H') {xs : List Ent} {kvs : List (List Int × D)} (h : KR H xs kvs) : KR H' xs kvs := Paired.mapP h fun _ _ ⟨a, t, v, r, p⟩ => ⟨a, e _ _ t, v, r, p.mono e⟩
def SlOk (F : Fm) (H0 H : Hp) : Sl → Option (Option V) → Prop
  | .any, o => ∃ u, o = some u
  | .d x, o => ∃ v, o = some (some v) ∧ Rp H0 v x
  | .own xs, o => ∃ p vs, o = some (some (.ref p)) ∧ H0 p = none ∧ F.He p = none ∧ p ∉ F.dk ∧ H p = some (.lst vs) ∧ RpA H0 vs xs
  | .ownD kvs, o => ∃ p, o = some (some (.ref p)) ∧ H0 p = none ∧ F.He p = none ∧ p ∉ F.dk ∧ ∃ xs, H p = some (DRaw p xs) ∧ KR H0 xs kvs
  | .dk N, o => ∃ a p q, F.dk = [a, p, q] ∧ o = some (some (.ref a)) ∧ H0 a = none ∧ H0 p = none ∧ H0 q = none ∧ a ≠ p ∧ a ≠ q ∧ p ≠ q ∧ DeckOk H a p q N
def Ndk (ρ : List Sl) : Prop := ∀ (i j : Nat) (N M : Dkp), ρ[i]? = some (.dk N) → ρ[j]? = some (.dk M) → i = j
structure Rel (F : Fm) (ρ : List Sl) (σ : L2.St) (H0 H : Hp) : Prop where
  ex : Same H0 H
  fr : ∀ b o, F.He b = some o → b ∉ F.dk → H b = some o
  al : ∀ b, F.He b ≠ none → H b ≠ none
  ad : ∀ b ∈ F.dk, H b ≠ none
  ba : ∀ b o, F.He b = some o → H0 b = F.H0 b
  len : σ.length = ρ.length
  sl : ∀ (i : Nat) (s : Sl), ρ[i]? = some s → SlOk F H0 H s σ[i]?
  ne : ∀ (i j : Nat) (s s' : Sl) (p : Addr), ρ[i]? = some s → ρ[j]? = some s' → s.isOwn = true → s'.isOwn = true → σ[i]? = some (some (.ref p)) → σ[j]? = some (some (.ref p)) → i = j
  nd : Ndk ρ
theorem get_set {α : Type} {l : List α} {i j : Nat} {x s : α} (h : (l.set i x)[j]? = some s) : (j = i ∧ s = x) ∨ (j ≠ i ∧ l[j]? = some s) := by
  by_cases e : i = j
  · subst e
    have hl : i < l.length := by
      have := (List.getElem?_eq_some_iff.mp h).1
      simpa using this
    rw [List.getElem?_set_self hl] at h
    exact .inl ⟨rfl, (Option.some.inj h).symm⟩
  · rw [List.getElem?_set_ne e] at h
    exact .inr ⟨Ne.symm e, h⟩
theorem Ndk.set {ρ : List Sl} (h : Ndk ρ) {i : Nat} {s : Sl} (n : ∀ N, s ≠ .dk N) : Ndk (ρ.set i s) := fun a b N M h1 h2 => by
  rcases get_set h1 with ⟨_, z⟩ | ⟨_, z⟩
  · exact absurd z.symm (n N)
  · rcases get_set h2 with ⟨_, z'⟩ | ⟨_, z'⟩
    · exact absurd z'.symm (n M)
    · exact h a b N M z z'
theorem Ndk.set_dk {ρ : List Sl} (h : Ndk ρ) {i : Nat} {K M : Dkp} (hi : ρ[i]? = some (.dk K)) : Ndk (ρ.set i (.dk M)) := fun a b N L h1 h2 => by
  rcases get_set h1 with ⟨z, _⟩ | ⟨z, z'⟩
  · rcases get_set h2 with ⟨u, _⟩ | ⟨u, u'⟩
    · rw [z, u]
    · exact absurd (h b i L K u' hi) u
  · exact absurd (h a i N K z' hi) z
section
variable {F : Fm} {ρ : List Sl} {σ : L2.St} {H0 H H0' H' : Hp}
theorem DeckOk.same {a p q : Addr} {N : Dkp} (e : Same H H') (h : DeckOk H a p q N) : DeckOk H' a p q N := by
  obtain ⟨b, c, j, h1, h2, h3, h4⟩ := h
  exact ⟨b, c, j, e _ _ h1, e _ _ h2, e _ _ h3, h4⟩
theorem DeckOk.le {a p q : Addr} {N M : Dkp} (l : ∀ b c j, N b c j → M b c j) (h : DeckOk H a p q N) : DeckOk H a p q M := by
  obtain ⟨b, c, j, h1, h2, h3, h4⟩ := h
  exact ⟨b, c, j, h1, h2, h3, l _ _ _ h4⟩
theorem dkN_le {N M : Nat} (l : N ≤ M) {b c : List Int} {j : Nat} (h : dkN N b c j) : dkN M b c j := ⟨h.1, h.2.1, h.2.2.1, h.2.2.2.1, h.2.2.2.2.1, Nat.le_trans h.2.2.2.2.2 l⟩
/-- both heaps grow; the data's at new addresses alone -/
theorem Rel.grow (r : Rel F ρ σ H0 H) (e0 : Same H0 H0') (e : Same H H') (ed : ∀ b o, H b = some o → H0' b = H0 b) (ex : Same H0' H') : Rel F ρ σ H0' H' where
  ex := ex
  fr := fun b o h n => e _ _ (r.fr b o h n)
  al := fun b h z => by
    cases q : H b with
    | none => exact r.al b h q
    | some o => rw [e _ _ q] at z; cases z
  ad := fun b h z => by
    cases q : H b with
    | none => exact r.ad b h q
    | some o => rw [e _ _ q] at z; cases z
  ba := fun b o h => by
    cases q : H b with
    | none => exact absurd q (r.al b (by rw [h]; simp))
    | some o' => rw [ed b o' q]; exact r.ba b o h
  len := r.len
  sl := fun i s hs => by
    have h := r.sl i s hs
    cases s with
    | any => exact h
    | d x => obtain ⟨v, e1, e2⟩ := h; exact ⟨v, e1, e2.mono e0⟩
    | own xs =>
      obtain ⟨p, vs, e1, e2, e3, e4, e5, e6⟩ := h
      exact ⟨p, vs, e1, by rw [ed _ _ e5]; exact e2, e3, e4, e _ _ e5, e6.mono e0⟩
    | ownD ks =>
      obtain ⟨p, e1, e2, e3, e4, xs, e5, e6⟩ := h
      exact ⟨p, e1, by rw [ed _ _ e5]; exact e2, e3, e4, xs, e _ _ e5, e6.mono e0⟩
    | dk N =>
      obtain ⟨a, p, q, e1, e2, e3, e4, e5, e6, e7, e8, e9⟩ := h
      obtain ⟨b, c, j, h1, h2, h3, h4⟩ := id e9
      exact ⟨a, p, q, e1, e2, by rw [ed _ _ h1]; exact e3, by rw [ed _ _ h2]; exact e4, by rw [ed _ _ h3]; exact e5, e6, e7, e8, e9.same e⟩
  ne := r.ne
  nd := r.nd
theorem same_upd {p : Addr} {o : HO} (h : H p = none) : Same H (upd H p o) := fun b x e => by
  rw [upd_ne (ne_of_none e h)]; exact e
/-- a new object that both heaps get -/
theorem Rel.new (r : Rel F ρ σ H0 H) {p : Addr} {o : HO} (h : H p = none) : Rel F ρ σ (upd H0 p o) (upd H p o) ∧ Same H0 (upd H0 p o) := by
  have h0 : H0 p = none := by
    cases q : H0 p with
    | none => rfl
    | some u => rw [r.ex _ _ q] at h; cases h
  refine ⟨r.grow (same_upd h0) (same_upd h) (fun b u q => ?_) (fun b u q => ?_), same_upd h0⟩
  · rw [upd_ne]; intro z; rw [z, h] at q; cases q
  · by_cases z : b = p
    · subst z; rw [upd_same] at q ⊢; exact q
    · rw [upd_ne z] at q ⊢; exact r.ex _ _ q
theorem Rel.none0 (r : Rel F ρ σ H0 H) {p : Addr} (h : H p = none) : H0 p = none := by
  cases q : H0 p with
  | none => rfl
  | some u => rw [r.ex _ _ q] at h; cases h
/-- a new object of the heap alone -/
theorem Rel.new1 (r : Rel F ρ σ H0 H) {p : Addr} {o : HO} (h : H p = none) : Rel F ρ σ H0 (upd H p o) := by
  refine r.grow (fun _ _ q => q) (same_upd h) (fun b u q => rfl) (fun b u q => ?_)
  exact same_upd h _ _ (r.ex _ _ q)
theorem Rel.at_d (r : Rel F ρ σ H0 H) {i : Nat} {x : D} (h : ρ[i]? = some (.d x)) : ∃ v, σ[i]? = some (some v) ∧ Rp H0 v x := r.sl i _ h
/-- a slot stored -/
theorem Rel.set (r : Rel F ρ σ H0 H) {i : Nat} {s : Sl} {v : V} (h : SlOk F H0 H s (some (some v))) (no : s.isOwn = true → ∀ p j s', v = .ref p → ρ[j]? = some s' → s'.isOwn = true → σ[j]? = some (some (.ref p)) → j = i) (nk : ∀ N, s ≠ .dk N := by exact fun _ z => nomatch z) :
    Rel F (ρ.set i s) (σ.set i (some v)) H0 H where
  nd := r.nd.set nk
  ex := r.ex
  fr := r.fr
  al := r.al
  ad := r.ad
  ba := r.ba
  len := by simpa using r.len
  sl := fun j s' hs => by
    rcases get_set hs with ⟨e, e'⟩ | ⟨e, e'⟩
    · subst e e'
      have hl : j < σ.length := by
        have := (List.getElem?_eq_some_iff.mp hs).1
        rw [r.len]; simpa using this
      rw [List.getElem?_set_self hl]; exact h
    · rw [List.getElem?_set_ne (Ne.symm e)]; exact r.sl j s' e'
  ne := fun j k s1 s2 p h1 h2 o1 o2 e1 e2 => by
    rcases get_set h1 with ⟨a1, b1⟩ | ⟨a1, b1⟩ <;> rcases get_set h2 with ⟨a2, b2⟩ | ⟨a2, b2⟩
    · rw [a1, a2]
    · subst a1 b1
      rw [List.getElem?_set_ne (Ne.symm a2)] at e2
      rcases get_set e1 with ⟨_, z⟩ | ⟨z, _⟩
      · exact (no o1 p k s2 (Option.some.inj z).symm b2 o2 e2).symm
      · exact absurd rfl z
    · subst a2 b2
      rw [List.getElem?_set_ne (Ne.symm a1)] at e1
      rcases get_set e2 with ⟨_, z⟩ | ⟨z, _⟩
      · exact no o2 p j s1 (Option.some.inj z).symm b1 o1 e1
      · exact absurd rfl z
    · rw [List.getElem?_set_ne (Ne.symm a1)] at e1
      rw [List.getElem?_set_ne (Ne.symm a2)] at e2
      exact r.ne j k s1 s2 p b1 b2 o1 o2 e1 e2
theorem Rel.setD (r : Rel F ρ σ H0 H) {i : Nat} {x : D} {v : V} (h : Rp H0 v x) : Rel F (ρ.set i (.d x)) (σ.set i (some v)) H0 H :=
  r.set ⟨v, rfl, h⟩ (fun z => nomatch z)
/-- forgetting -/
theorem Rel.forget (r : Rel F ρ σ H0 H) (i : Nat) : Rel F (ρ.set i .any) σ H0 H where
  nd := r.nd.set fun _ z => nomatch z
  ex := r.ex
  fr := r.fr
  al := r.al
  ad := r.ad
  ba := r.ba
  len := by simpa using r.len
  sl := fun j s' hs => by
    rcases get_set hs with ⟨e, e'⟩ | ⟨e, e'⟩
    · subst e e'
      have hl : j < σ.length := by
        have := (List.getElem?_eq_some_iff.mp hs).1
        rw [r.len]; simpa using this
      exact ⟨σ[j], List.getElem?_eq_getElem hl⟩
    · exact r.sl j s' e'
  ne := fun j k s1 s2 p h1 h2 o1 o2 e1 e2 => by
    rcases get_set h1 with ⟨a1, b1⟩ | ⟨a1, b1⟩
    · subst b1; cases o1
    · rcases get_set h2 with ⟨a2, b2⟩ | ⟨a2, b2⟩
      · subst b2; cases o2
      · exact r.ne j k s1 s2 p b1 b2 o1 o2 e1 e2
/-- forgetting a slot, its value too -/
theorem Rel.wipe1 (r : Rel F ρ σ H0 H) (i : Nat) : Rel F (ρ.set i .any) (σ.set i none) H0 H where
  nd := r.nd.set fun _ z => nomatch z
  ex := r.ex
  fr := r.fr
  al := r.al
  ad := r.ad
  ba := r.ba
  len := by simpa using r.len
  sl := fun j s' hs => by
    rcases get_set hs with ⟨e, e'⟩ | ⟨e, e'⟩
    · subst e e'
      have hl : j < σ.length := by
        have := (List.getElem?_eq_some_iff.mp hs).1
        rw [r.len]; simpa using this
      rw [List.getElem?_set_self hl]; exact ⟨none, rfl⟩
    · rw [List.getElem?_set_ne (Ne.symm e)]; exact r.sl j s' e'
  ne := fun j k s1 s2 p h1 h2 o1 o2 e1 e2 => by
    rcases get_set h1 with ⟨a1, b1⟩ | ⟨a1, b1⟩
    · subst b1; cases o1
    · rcases get_set h2 with ⟨a2, b2⟩ | ⟨a2, b2⟩
      · subst b2; cases o2
      · rw [List.getElem?_set_ne (Ne.symm a1)] at e1
        rw [List.getElem?_set_ne (Ne.symm a2)] at e2
        exact r.ne j k s1 s2 p b1 b2 o1 o2 e1 e2
/-- an own list changes -/
theorem Rel.mutate (r : Rel F ρ σ H0 H) {i : Nat} {p : Addr} {s0 s : Sl} {o : HO} (hi : ρ[i]? = some s0) (ho : s0.isOwn = true) (hv : σ[i]? = some (some (.ref p))) (hs : s.isOwn = true)
    (hn : H0 p = none) (he : F.He p = none) (hd : p ∉ F.dk) (hk : SlOk F H0 (upd H p o) s (some (some (.ref p)))) : Rel F (ρ.set i s) σ H0 (upd H p o) where
  nd := r.nd.set fun _ z => by rw [z] at hs; cases hs
  ex := fun b u q => by rw [upd_ne (ne_of_none q hn)]; exact r.ex _ _ q
  fr := fun b u q n => by rw [upd_ne (ne_of_none q he)]; exact r.fr _ _ q n
  al := fun b q z => by
    by_cases e : b = p
    · subst e; rw [upd_same] at z; cases z
    · rw [upd_ne e] at z; exact r.al b q z
  ad := fun b q z => by
    by_cases e : b = p
    · subst e; rw [upd_same] at z; cases z
    · rw [upd_ne e] at z; exact r.ad b q z
  ba := r.ba
  len := by simpa using r.len
  sl := fun j s' hj => by
    rcases get_set hj with ⟨e, e'⟩ | ⟨e, e'⟩
    · subst e e'; rw [hv]; exact hk
    · have h := r.sl j s' e'
      cases s' with
      | any => exact h
      | d x => exact h
      | own xs =>
        obtain ⟨p', vs, e1, e2, e3, e4, e5, e6⟩ := h
        have hne : p' ≠ p := fun z => by
          subst z
          exact e (r.ne j i _ _ _ e' hi rfl ho e1 hv)
        exact ⟨p', vs, e1, e2, e3, e4, by rw [upd_ne hne]; exact e5, e6⟩
      | ownD ks =>
        obtain ⟨p', e1, e2, e3, e4, xs, e5, e6⟩ := h
        have hne : p' ≠ p := fun z => by
          subst z
          exact e (r.ne j i _ _ _ e' hi rfl ho e1 hv)
        exact ⟨p', e1, e2, e3, e4, xs, by rw [upd_ne hne]; exact e5, e6⟩
      | dk N =>
        obtain ⟨a, p', q, e1, e2, e3, e4, e5, e6, e7, e8, b, c, j', h1, h2, h3, h4⟩ := h
        have n1 : a ≠ p := fun z => hd (by rw [e1, ← z]; simp)
        have n2 : p' ≠ p := fun z => hd (by rw [e1, ← z]; simp)
        have n3 : q ≠ p := fun z => hd (by rw [e1, ← z]; simp)
        exact ⟨a, p', q, e1, e2, e3, e4, e5, e6, e7, e8, b, c, j', by rw [upd_ne n1]; exact h1, by rw [upd_ne n2]; exact h2, by rw [upd_ne n3]; exact h3, h4⟩
  ne := fun j k s1 s2 p' h1 h2 o1 o2 e1 e2 => by
    rcases get_set h1 with ⟨a1, b1⟩ | ⟨a1, b1⟩ <;> rcases get_set h2 with ⟨a2, b2⟩ | ⟨a2, b2⟩
    · rw [a1, a2]
    · subst a1; exact r.ne j k _ _ p' hi b2 ho o2 e1 e2
    · subst a2; exact r.ne j k _ _ p' b1 hi o1 ho e1 e2
    · exact r.ne j k s1 s2 p' b1 b2 o1 o2 e1 e2
/-- an own list becomes a datum -/
theorem Rel.freeze (r : Rel F ρ σ H0 H) {i : Nat} {xs : List D} (hi : ρ[i]? = some (.own xs)) : ∃ p vs, σ[i]? = some (some (.ref p)) ∧ Same H0 (upd H0 p (.lst vs)) ∧ Rel F (ρ.set i (.d (.list xs))) σ (upd H0 p (.lst vs)) H ∧ Rp (upd H0 p (.lst vs)) (.ref p) (.list xs) := by
  obtain ⟨p, vs, e1, e2, e3, e4, e5, e6⟩ := r.sl i _ hi
  have s0 : Same H0 (upd H0 p (.lst vs)) := same_upd e2
  have rp : Rp (upd H0 p (.lst vs)) (.ref p) (.list xs) := .lst upd_same (e6.mono s0)
  refine ⟨p, vs, e1, s0, ⟨fun b u q => ?_, r.fr, r.al, r.ad, fun b o q => ?_, by simpa using r.len, fun j s' hj => ?_, fun j k s1 s2 p' h1 h2 o1 o2 q1 q2 => ?_, r.nd.set fun _ z => nomatch z⟩, rp⟩
  · by_cases e : b = p
    · subst e; rw [upd_same] at q; cases q; exact e5
    · rw [upd_ne e] at q; exact r.ex _ _ q
  · rw [upd_ne (ne_of_none q e3)]; exact r.ba b o q
  · rcases get_set hj with ⟨e, e'⟩ | ⟨e, e'⟩
    · subst e e'; exact ⟨_, e1, rp⟩
    · have h := r.sl j s' e'
      cases s' with
      | any => exact h
      | d x => obtain ⟨v, q1, q2⟩ := h; exact ⟨v, q1, q2.mono s0⟩
      | own xs =>
        obtain ⟨p', vs', q1, q2, q3, q4, q5, q6⟩ := h
        have hne : p' ≠ p := fun z => by
          subst z
          exact e (r.ne j i _ _ _ e' hi rfl rfl q1 e1)
        exact ⟨p', vs', q1, by rw [upd_ne hne]; exact q2, q3, q4, q5, q6.mono s0⟩
      | ownD ks =>
        obtain ⟨p', q1, q2, q3, q4, xs, q5, q6⟩ := h
        have hne : p' ≠ p := fun z => by
          subst z
          exact e (r.ne j i _ _ _ e' hi rfl rfl q1 e1)
        exact ⟨p', q1, by rw [upd_ne hne]; exact q2, q3, q4, xs, q5, q6.mono s0⟩
      | dk N =>
        obtain ⟨a, p', q, q1, q2, q3, q4, q5, q6⟩ := h
        have n1 : a ≠ p := fun z => e4 (by rw [q1, ← z]; simp)
        have n2 : p' ≠ p := fun z => e4 (by rw [q1, ← z]; simp)
        have n3 : q ≠ p := fun z => e4 (by rw [q1, ← z]; simp)
        exact ⟨a, p', q, q1, q2, by rw [upd_ne n1]; exact q3, by rw [upd_ne n2]; exact q4, by rw [upd_ne n3]; exact q5, q6⟩
  · rcases get_set h1 with ⟨a1, b1⟩ | ⟨a1, b1⟩
    · subst b1; cases o1
    · rcases get_set h2 with ⟨a2, b2⟩ | ⟨a2, b2⟩
      · subst b2; cases o2
      · exact r.ne j k s1 s2 p' b1 b2 o1 o2 q1 q2

/-! ### an object that no slot holds, pinned -/
def Fm.pin (F : Fm) (p : Addr) (o : HO) : Fm := ⟨fun b => if b = p then none else F.H0 b, upd F.He p o, F.dk⟩
theorem pin_he {p b : Addr} {o : HO} (h : b ≠ p) : (F.pin p o).He b = F.He b := upd_ne h
theorem pin_h0 {p b : Addr} {o : HO} (h : b ≠ p) : (F.pin p o).H0 b = F.H0 b := by
  show (if b = p then none else F.H0 b) = _
  rw [if_neg h]
theorem Rel.pinned (r : Rel F ρ σ H0 H) {p : Addr} {o : HO} (hp : H p = some o) (h0 : H0 p = none)
    (ho : ∀ (i : Nat) (s : Sl), ρ[i]? = some s → s.isOwn = true → σ[i]? ≠ some (some (.ref p))) : Rel (F.pin p o) ρ σ H0 H where
  ex := r.ex
  fr := fun b u q n => by
    by_cases e : b = p
    · subst e
      have q' : some o = some u := by rw [← q]; exact (upd_same).symm
      rw [hp, q']
    · rw [pin_he e] at q; exact r.fr b u q n
  al := fun b q => by
    by_cases e : b = p
    · subst e; rw [hp]; simp
    · rw [pin_he e] at q; exact r.al b q
  ad := r.ad
  ba := fun b u q => by
    by_cases e : b = p
    · subst e
      rw [h0]
      show none = if b = b then none else F.H0 b
      rw [if_pos rfl]
    · rw [pin_he e] at q; rw [pin_h0 e]; exact r.ba b u q
  len := r.len
  sl := fun i s hs => by
    have h := r.sl i s hs
    cases s with
    | any => exact h
    | d x => exact h
    | own xs =>
      obtain ⟨q, vs, e1, e2, e3, e4, e5, e6⟩ := h
      have hne : q ≠ p := fun z => by subst z; exact ho i _ hs rfl e1
      exact ⟨q, vs, e1, e2, by rw [pin_he hne]; exact e3, e4, e5, e6⟩
    | ownD ks =>
      obtain ⟨q, e1, e2, e3, e4, e5⟩ := h
      have hne : q ≠ p := fun z => by subst z; exact ho i _ hs rfl e1
      exact ⟨q, e1, e2, by rw [pin_he hne]; exact e3, e4, e5⟩
    | dk N => exact h
  ne := r.ne
  nd := r.nd
theorem Rel.unpinned {p : Addr} {o : HO} (r : Rel (F.pin p o) ρ σ H0 H) (he : F.He p = none) (hd : p ∉ F.dk) : Rel F ρ σ H0 H ∧ H p = some o ∧ H0 p = none ∧ ∀ (i : Nat) (s : Sl), ρ[i]? = some s → s.isOwn = true → σ[i]? ≠ some (some (.ref p)) := by
  have hp : (F.pin p o).He p = some o := upd_same
  have ow : ∀ (i : Nat) (s : Sl), ρ[i]? = some s → s.isOwn = true → σ[i]? ≠ some (some (.ref p)) := fun i s hs ho z => by
    have h := r.sl i s hs
    cases s with
    | any => cases ho
    | d x => cases ho
    | dk N => cases ho
    | own xs =>
      obtain ⟨q, vs, e1, e2, e3, _⟩ := h
      rw [z] at e1; cases e1
      rw [hp] at e3; cases e3
    | ownD ks =>
      obtain ⟨q, e1, e2, e3, _⟩ := h
      rw [z] at e1; cases e1
      rw [hp] at e3; cases e3
  have h0 : H0 p = none := by
    rw [r.ba p o hp]
    show (if p = p then none else F.H0 p) = none
    rw [if_pos rfl]
  refine ⟨⟨r.ex, fun b u q n => ?_, fun b q => ?_, r.ad, fun b u q => ?_, r.len, fun i s hs => ?_, r.ne, r.nd⟩, r.fr p o hp hd, h0, ow⟩
  · have hne : b ≠ p := fun z => by subst z; rw [he] at q; cases q
    exact r.fr b u (by rw [pin_he hne]; exact q) n
  · have hne : b ≠ p := fun z => by subst z; exact q he
    exact r.al b (by rw [pin_he hne]; exact q)
  · have hne : b ≠ p := fun z => by subst z; rw [he] at q; cases q
    rw [← pin_h0 (o := o) hne]
    exact r.ba b u (by rw [pin_he hne]; exact q)
  · have h := r.sl i s hs
    cases s with
    | any => exact h
    | d x => exact h
    | own xs =>
      obtain ⟨q, vs, e1, e2, e3, e4, e5, e6⟩ := h
      have hne : q ≠ p := fun z => by subst z; exact ow i _ hs rfl e1
      exact ⟨q, vs, e1, e2, by rw [← pin_he (o := o) hne]; exact e3, e4, e5, e6⟩
    | ownD ks =>
      obtain ⟨q, e1, e2, e3, e4, e5⟩ := h
      have hne : q ≠ p := fun z => by subst z; exact ow i _ hs rfl e1
      exact ⟨q, e1, e2, by rw [← pin_he (o := o) hne]; exact e3, e4, e5⟩
    | dk N => exact h
/-- fresh addresses -/
theorem Rel.he_none (r : Rel F ρ σ H0 H) {p : Addr} (h : H p = none) : F.He p = none := by
  cases q : F.He p with
  | none => rfl
  | some u => exact absurd h (r.al p (by rw [q]; simp))
theorem Rel.dk_none (r : Rel F ρ σ H0 H) {p : Addr} (h : H p = none) : p ∉ F.dk := fun z => r.ad p z h
theorem Rel.own_ne (r : Rel F ρ σ H0 H) {p : Addr} (h : H p = none) : ∀ (i : Nat) (s : Sl), ρ[i]? = some s → s.isOwn = true → σ[i]? ≠ some (some (.ref p)) := fun i s hs ho z => by
  have q := r.sl i s hs
  cases s with
  | any => cases ho
  | d x => cases ho
  | dk N => cases ho
  | own xs =>
    obtain ⟨q, vs, e1, e2, e3, e4, e5, _⟩ := q
    rw [z] at e1; cases e1
    rw [h] at e5; cases e5
  | ownD ks =>
    obtain ⟨q, e1, e2, e3, e4, xs, e5, e6⟩ := q
    rw [z] at e1; cases e1
    rw [h] at e5; cases e5
/-- a new object, pinned -/
theorem Rel.newPin (r : Rel F ρ σ H0 H) {p : Addr} {o : HO} (h : H p = none) : Rel (F.pin p o) ρ σ H0 (upd H p o) :=
  (r.new1 h).pinned upd_same (r.none0 h) (r.own_ne h)
/-- the pinned object changes -/
theorem Rel.repin {p : Addr} {o o' : HO} (r : Rel (F.pin p o) ρ σ H0 H) (he : F.He p = none) (hd : p ∉ F.dk) : Rel (F.pin p o') ρ σ H0 (upd H p o') := by
  obtain ⟨r1, hp, h0, ow⟩ := r.unpinned he hd
  have r2 : Rel F ρ σ H0 (upd H p o') := by
    refine ⟨fun b u q => ?_, fun b u q n => ?_, fun b q z => ?_, fun b q z => ?_, r1.ba, r1.len, fun i s hs => ?_, r1.ne, r1.nd⟩
    · rw [upd_ne (ne_of_none q h0)]; exact r1.ex _ _ q
    · rw [upd_ne (ne_of_none q he)]; exact r1.fr _ _ q n
    · by_cases e : b = p
      · subst e; rw [upd_same] at z; cases z
      · rw [upd_ne e] at z; exact r1.al b q z
    · by_cases e : b = p
      · subst e; rw [upd_same] at z; cases z
      · rw [upd_ne e] at z; exact r1.ad b q z
    · have h := r1.sl i s hs
      cases s with
      | any => exact h
      | d x => exact h
      | own xs =>
        obtain ⟨q, vs, e1, e2, e3, e4, e5, e6⟩ := h
        have hne : q ≠ p := fun z => by subst z; exact ow i _ hs rfl e1
        exact ⟨q, vs, e1, e2, e3, e4, by rw [upd_ne hne]; exact e5, e6⟩
      | ownD ks =>
        obtain ⟨q, e1, e2, e3, e4, xs, e5, e6⟩ := h
        have hne : q ≠ p := fun z => by subst z; exact ow i _ hs rfl e1
        exact ⟨q, e1, e2, e3, e4, xs, by rw [upd_ne hne]; exact e5, e6⟩
      | dk N =>
        obtain ⟨a, p', q, e1, e2, e3, e4, e5, e6, e7, e8, b, c, j', h1, h2, h3, h4⟩ := h
        have n1 : a ≠ p := fun z => hd (by rw [e1, ← z]; simp)
        have n2 : p' ≠ p := fun z => hd (by rw [e1, ← z]; simp)
        have n3 : q ≠ p := fun z => hd (by rw [e1, ← z]; simp)
        exact ⟨a, p', q, e1, e2, e3, e4, e5, e6, e7, e8, b, c, j', by rw [upd_ne n1]; exact h1, by rw [upd_ne n2]; exact h2, by rw [upd_ne n3]; exact h3, h4⟩
  exact r2.pinned upd_same h0 ow
/-- the pinned object becomes a datum's -/
theorem Rel.unpinD {p : Addr} {o : HO} (r : Rel (F.pin p o) ρ σ H0 H) (he : F.He p = none) (hd : p ∉ F.dk) : Rel F ρ σ (upd H0 p o) H ∧ Same H0 (upd H0 p o) := by
  obtain ⟨r1, hp, h0, ow⟩ := r.unpinned he hd
  have s0 : Same H0 (upd H0 p o) := same_upd h0
  refine ⟨⟨fun b u q => ?_, r1.fr, r1.al, r1.ad, fun b u q => ?_, r1.len, fun i s hs => ?_, r1.ne, r1.nd⟩, s0⟩
  · by_cases e : b = p
    · subst e; rw [upd_same] at q; cases q; exact hp
    · rw [upd_ne e] at q; exact r1.ex _ _ q
  · rw [upd_ne (ne_of_none q he)]; exact r1.ba b u q
  · have h := r1.sl i s hs
    cases s with
    | any => exact h
    | d x => obtain ⟨v, q1, q2⟩ := h; exact ⟨v, q1, q2.mono s0⟩
    | own xs =>
      obtain ⟨q, vs, e1, e2, e3, e4, e5, e6⟩ := h
      have hne : q ≠ p := fun z => by subst z; exact ow i _ hs rfl e1
      exact ⟨q, vs, e1, by rw [upd_ne hne]; exact e2, e3, e4, e5, e6.mono s0⟩
    | ownD ks =>
      obtain ⟨q, e1, e2, e3, e4, xs, e5, e6⟩ := h
      have hne : q ≠ p := fun z => by subst z; exact ow i _ hs rfl e1
      exact ⟨q, e1, by rw [upd_ne hne]; exact e2, e3, e4, xs, e5, e6.mono s0⟩
    | dk N =>
      obtain ⟨a, p', q, q1, q2, q3, q4, q5, q6⟩ := h
      have n1 : a ≠ p := fun z => hd (by rw [q1, ← z]; simp)
      have n2 : p' ≠ p := fun z => hd (by rw [q1, ← z]; simp)
      have n3 : q ≠ p := fun z => hd (by rw [q1, ← z]; simp)
      exact ⟨a, p', q, q1, q2, by rw [upd_ne n1]; exact q3, by rw [upd_ne n2]; exact q4, by rw [upd_ne n3]; exact q5, q6⟩
/-- the pinned list is held by a slot -/
theorem Rel.setOwn {p : Addr} {vs : List V} {xs : List D} {i : Nat} (r : Rel (F.pin p (.lst vs)) ρ σ H0 H) (he : F.He p = none) (hd : p ∉ F.dk) (ra : RpA H0 vs xs) : Rel F (ρ.set i (.own xs)) (σ.set i (some (.ref p))) H0 H := by
  obtain ⟨r1, hp, h0, ow⟩ := r.unpinned he hd
  refine r1.set ⟨p, vs, rfl, h0, he, hd, hp, ra⟩ fun _ q j s' e hs ho z => ?_
  cases e
  exact absurd z (ow j s' hs ho)
theorem Rel.setOwnD {p : Addr} {xs : List Ent} {ks : List (List Int × D)} {i : Nat} (r : Rel (F.pin p (DRaw p xs)) ρ σ H0 H) (kr : KR H0 xs ks) (he : F.He p = none) (hd : p ∉ F.dk) : Rel F (ρ.set i (.ownD ks)) (σ.set i (some (.ref p))) H0 H := by
  obtain ⟨r1, hp, h0, ow⟩ := r.unpinned he hd
  refine r1.set ⟨p, rfl, h0, he, hd, xs, hp, kr⟩ fun _ q j s' e hs ho z => ?_
  cases e
  exact absurd z (ow j s' hs ho)
end
end DL
set_option Elab.async false
set_option linter.all false
set_option maxRecDepth 100000
set_option maxHeartbeats 1000000
/-! DL2: the weakest readings; expressions over data -/
namespace DL
open PySem PySem.Spec PyProof.Rows L2

/-! ### the weakest readings -/
def WE (X : Cx) (e : Expr) : TE := fun σ H Q => ∀ pins s, Inv X pins σ H s → wpAny (model X.prog X.w) X.A (eval e X.env) (EP X pins σ Q) X.xe s
def WT (X : Cx) (e : Expr) : TT := fun σ H Q => ∀ pins s, Inv X pins σ H s → wpAny (model X.prog X.w) X.A (isTrue e X.env (eval e X.env)) (TP X pins σ Q) X.xe s
def WW (X : Cx) (e : Expr) : TT := fun σ H Q => ∀ whole pins s, Inv X pins σ H s → wpAny (model X.prog X.w) X.A (isTrue e X.env whole) (TP X pins σ Q) X.xe s
def WA (X : Cx) (es : List Expr) : TA := fun σ H Q => ∀ pos pins s, Inv X pins σ H s → wpAny (model X.prog X.w) X.A (spliced (backTo pos (starEach es X.env))) (AP X pins σ Q) X.xe s
def WS (X : Cx) (st : Stmt) : TS := fun D σ H => ∀ pins s, Inv X pins σ H s → wpAny (model X.prog X.w) X.A (exec st X.env) (SP X pins D) X.xe s
def WSs (X : Cx) (st : List Stmt) : TS := fun D σ H => ∀ pins s, Inv X pins σ H s → wpAny (model X.prog X.w) X.A (execs st X.env) (SP X pins D) X.xe s
def WG (X : Cx) (tg : Expr) : TG := fun v σ H Q => ∀ pins s u, Inv X pins σ H s → RelV v u → wpAny (model X.prog X.w) X.A (assign tg X.env u) (fun _ s' => ∃ σ' H', Inv X pins σ' H' s' ∧ Q σ' H') X.xe s
def WI (X : Cx) (tg iter : Expr) : TI := fun σ H R => ∀ pins s, Inv X pins σ H s → wpAny (model X.prog X.w) X.A (eval iter X.env) (fun v s1 => wpAny (model X.prog X.w) X.A (pyIter v) (PIE X pins σ tg R) X.xe s1) X.xe s
section
variable {X : Cx} {e : Expr} {es : List Expr} {st : Stmt} {sts : List Stmt} {σ : L2.St} {H : Hp}
theorem pe_we : PE X e (WE X e) := ⟨fun pins s _ _ _ I h => h pins s I⟩
theorem pt_wt : PT X e (WT X e) := ⟨fun pins s _ _ _ I h => h pins s I⟩
theorem pw_ww : PW X e (WW X e) := ⟨fun wh pins s _ _ _ I h => h wh pins s I⟩
theorem pa_wa : PA X es (WA X es) := ⟨fun pos pins s _ _ _ I h => h pos pins s I⟩
theorem ps_ws : PS X st (WS X st) := ⟨fun pins s _ _ _ I h => h pins s I⟩
theorem pss_wss : PSs X sts (WSs X sts) := ⟨fun pins s _ _ _ I h => h pins s I⟩
theorem pg_wg {tg : Expr} : PG X tg (WG X tg) := ⟨fun pins s _ _ _ u _ I r h => h pins s u I r⟩
theorem pi_wi {tg iter : Expr} : PI X tg iter (WI X tg iter) := ⟨fun pins s _ _ _ I h => h pins s I⟩
theorem WE.of {t : TE} (h : PE X e t) {Q : VK} (q : t σ H Q) : WE X e σ H Q := fun pins s I => h.run pins s σ H Q I q
theorem WT.of {t : TT} (h : PT X e t) {Q : Bool → Hp → Prop} (q : t σ H Q) : WT X e σ H Q := fun pins s I => h.run pins s σ H Q I q
theorem WW.of {t : TT} (h : PW X e t) {Q : Bool → Hp → Prop} (q : t σ H Q) : WW X e σ H Q := fun wh pins s I => h.run wh pins s σ H Q I q
theorem WA.of {t : TA} (h : PA X es t) {Q : List V → Hp → Prop} (q : t σ H Q) : WA X es σ H Q := fun pos pins s I => h.run pos pins s σ H Q I q
theorem WS.of {t : TS} (h : PS X st t) {D : Ends} (q : t D σ H) : WS X st D σ H := fun pins s I => h.run pins s σ H D I q
theorem WSs.of {t : TS} (h : PSs X sts t) {D : Ends} (q : t D σ H) : WSs X sts D σ H := fun pins s I => h.run pins s σ H D I q
theorem WG.of {tg : Expr} {t : TG} (h : PG X tg t) {v : V} {Q : L2.St → Hp → Prop} (q : t v σ H Q) : WG X tg v σ H Q := fun pins s u I r => h.run pins s σ H v u Q I r q
theorem WI.of {tg iter : Expr} {t : TI} (h : PI X tg iter t) {R : It → Hp → Prop} (q : t σ H R) : WI X tg iter σ H R := fun pins s I => h.run pins s σ H R I q
end

/-! ### judgements -/
/-- e comes to some x, the environment to some ρ', of which Qd holds -/
def WD (X : Cx) (ρ : List Sl) (e : Expr) (Qd : List Sl → D → Prop) : Prop := ∀ F σ H0 H Q, Rel F ρ σ H0 H → (∀ v H0' H' ρ' x, Same H0 H0' → Rel F ρ' σ H0' H' → Rp H0' v x → Qd ρ' x → Q v H') → WE X e σ H Q
def EE (X : Cx) (ρ : List Sl) (e : Expr) (ρ' : List Sl) (x : D) : Prop := ∀ F σ H0 H Q, Rel F ρ σ H0 H → (∀ v H0' H', Same H0 H0' → Rel F ρ' σ H0' H' → Rp H0' v x → Q v H') → WE X e σ H Q
/-- a new list that nobody else holds -/
def EO (X : Cx) (ρ : List Sl) (e : Expr) (ρ' : List Sl) (xs : List D) : Prop := ∀ F σ H0 H Q, Rel F ρ σ H0 H → (∀ p vs H0' H', Same H0 H0' → F.He p = none → p ∉ F.dk → Rel (F.pin p (.lst vs)) ρ' σ H0' H' → RpA H0' vs xs → Q (.ref p) H') → WE X e σ H Q
def ET (X : Cx) (ρ : List Sl) (e : Expr) (ρ' : List Sl) (b : Bool) : Prop := ∀ F σ H0 H Q, Rel F ρ σ H0 H → (∀ H0' H', Same H0 H0' → Rel F ρ' σ H0' H' → Q b H') → WT X e σ H Q
def EW (X : Cx) (ρ : List Sl) (e : Expr) (ρ' : List Sl) (b : Bool) : Prop := ∀ F σ H0 H Q, Rel F ρ σ H0 H → (∀ H0' H', Same H0 H0' → Rel F ρ' σ H0' H' → Q b H') → WW X e σ H Q
def EA (X : Cx) (ρ : List Sl) (es : List Expr) (ρ' : List Sl) (xs : List D) : Prop := ∀ F σ H0 H Q, Rel F ρ σ H0 H → (∀ vs H0' H', Same H0 H0' → Rel F ρ' σ H0' H' → RpA H0' vs xs → Q vs H') → WA X es σ H Q
/-- a test by ways -/
def WTD (X : Cx) (ρ : List Sl) (e : Expr) (Qd : List Sl → Bool → Prop) : Prop := ∀ F σ H0 H Q, Rel F ρ σ H0 H → (∀ b H0' H' ρ', Same H0 H0' → Rel F ρ' σ H0' H' → Qd ρ' b → Q b H') → WT X e σ H Q
theorem same_tr {H H1 H2 : Hp} (a : Same H H1) (b : Same H1 H2) : Same H H2 := a.trans b

section
variable {X : Cx} {ρ ρ1 ρ2 ρ3 : List Sl} {e a b c : Expr} {x y z : D} {pos : Pos}
theorem EE.wd {Qd : List Sl → D → Prop} (h : EE X ρ e ρ1 x) (q : Qd ρ1 x) : WD X ρ e Qd := fun F σ H0 H Q r k => h F σ H0 H Q r fun v H0' H' s r' p => k v H0' H' ρ1 x s r' p q
theorem WD.mono {Qd Qd' : List Sl → D → Prop} (h : WD X ρ e Qd) (q : ∀ ρ x, Qd ρ x → Qd' ρ x) : WD X ρ e Qd' := fun F σ H0 H Q r k => h F σ H0 H Q r fun v H0' H' ρ' x s r' p d => k v H0' H' ρ' x s r' p (q _ _ d)
theorem EE.to {y : D} (h : EE X ρ e ρ1 x) (q : x = y) : EE X ρ e ρ1 y := q ▸ h
theorem ET.to {b c : Bool} (h : ET X ρ e ρ1 b) (q : b = c) : ET X ρ e ρ1 c := q ▸ h
theorem EE.of_o {xs : List D} (h : EO X ρ e ρ1 xs) : EE X ρ e ρ1 (.list xs) := fun F σ H0 H Q r k => h F σ H0 H Q r fun p vs H0' H' s he hd r' ra => by
  obtain ⟨r2, s2⟩ := r'.unpinD he hd
  exact k _ _ _ (s.trans s2) r2 (.lst upd_same (ra.mono s2))
/-- names and constants -/
theorem ee_var (i : Nat) {n : Str} (hr : ρ[i]? = some (.d x)) (hN : X.N[i]? = some n := by rfl) (hv : Vis X.env.scope n := by first | exact Or.inl rfl | exact Or.inr (Or.inl rfl) | exact Or.inr (Or.inr rfl))
    (hd : (n == ("__debug__" : Str)) = false := by decide) (hcd : (n == ("__classdict__" : Str)) = false := by decide) : EE X ρ (.Name n pos) ρ x := fun F σ H0 H Q r k => by
  obtain ⟨v, e, rp⟩ := r.at_d hr
  exact WE.of (pe_var hN hv hd hcd) ⟨v, e, k v H0 H (Same.refl _) r rp⟩
/-- an own list, read: from here on a datum -/
theorem ee_froz (i : Nat) {n : Str} {xs : List D} (hr : ρ[i]? = some (.own xs)) (hN : X.N[i]? = some n := by rfl) (hv : Vis X.env.scope n := by first | exact Or.inl rfl | exact Or.inr (Or.inl rfl) | exact Or.inr (Or.inr rfl))
    (hd : (n == ("__debug__" : Str)) = false := by decide) (hcd : (n == ("__classdict__" : Str)) = false := by decide) : EE X ρ (.Name n pos) (ρ.set i (.d (.list xs))) (.list xs) := fun F σ H0 H Q r k => by
  obtain ⟨p, vs, e1, s, r', rp⟩ := r.freeze hr
  exact WE.of (pe_var hN hv hd hcd) ⟨_, e1, k _ _ H s r' rp⟩
theorem ee_int {i : Int} {j : Nat} : EE X ρ (.Constant (.int i) j pos) ρ (.int i) := fun F σ H0 H Q r k => WE.of pe_int (k _ _ _ (Same.refl _) r (.int i))
theorem ee_bl {b : Bool} {j : Nat} : EE X ρ (.Constant (.bool b) j pos) ρ (.bool b) := fun F σ H0 H Q r k => WE.of pe_bl (k _ _ _ (Same.refl _) r (.bl b))
theorem ee_non {j : Nat} : EE X ρ (.Constant .none j pos) ρ .none := fun F σ H0 H Q r k => WE.of pe_non (k _ _ _ (Same.refl _) r .non)
theorem ee_glob {n : Str} {i : Int} {t : Tok} (hm : X.mg n = some (.int i t)) (hg : Gl X n := by rfl) (hd : (n == ("__debug__" : Str)) = false := by decide) : EE X ρ (.Name n pos) ρ (.int i) := fun F σ H0 H Q r k =>
  WE.of (pe_glob (v := .int i) hg hm ⟨t, rfl⟩ hd) (k _ _ _ (Same.refl _) r (.int i))

/-- two expressions, one after the other -/
theorem two (ha : EE X ρ a ρ1 x) (hb : EE X ρ1 b ρ2 y) {F : Fm} {σ : L2.St} {H0 H : Hp} {R : V → V → Hp → Prop} (r : Rel F ρ σ H0 H) (k : ∀ v w H0' H', Same H0 H0' → Rel F ρ2 σ H0' H' → Rp H0' v x → Rp H0' w y → R v w H') :
    WE X a σ H fun v H1 => WE X b σ H1 fun w H2 => R v w H2 :=
  ha F σ H0 H _ r fun v H01 H1 s1 r1 p1 => hb F σ H01 H1 _ r1 fun w H02 H2 s2 r2 p2 => k v w H02 H2 (s1.trans s2) r2 (p1.mono s2) p2
theorem twoW {P : List Sl → D → D → Prop} (ha : WD X ρ a fun ρ1 x => WD X ρ1 b fun ρ2 y => P ρ2 x y) {F : Fm} {σ : L2.St} {H0 H : Hp} {R : V → V → Hp → Prop} (r : Rel F ρ σ H0 H) (k : ∀ v w H0' H' ρ2 x y, Same H0 H0' → Rel F ρ2 σ H0' H' → Rp H0' v x → Rp H0' w y → P ρ2 x y → R v w H') :
    WE X a σ H fun v H1 => WE X b σ H1 fun w H2 => R v w H2 :=
  ha F σ H0 H _ r fun v H01 H1 ρ1 x s1 r1 p1 hb => hb F σ H01 H1 _ r1 fun w H02 H2 ρ2 y s2 r2 p2 q => k v w H02 H2 ρ2 x y (s1.trans s2) r2 (p1.mono s2) p2 q
/-- an operator on values, by data: it keeps the heap -/
def OpD (X : Cx) (f : Value → Value → Sem Value) (x y z : D) : Prop := ∃ r : R2, OpR X f r ∧ ∀ v w H0 H (Q : VK), Same H0 H → Rp H0 v x → Rp H0 w y → (∀ u, Rp H0 u z → Q u H) → r v w H Q
theorem opd_I {f : Value → Value → Sem Value} {C : Int → Int → Prop} {g : Int → Int → V} {i j : Int} {z : D} (h : OpR X f (rI C g)) (hc : C i j) (hz : ∀ H0, Rp H0 (g i j) z) : OpD X f (.int i) (.int j) z :=
  ⟨_, h, fun v w H0 H Q _ r1 r2 q => by cases r1; cases r2; exact ⟨i, j, rfl, rfl, hc, q _ (hz H0)⟩⟩
theorem opd_I0 {f : Value → Value → Sem Value} {g : Int → Int → V} {i j : Int} {z : D} (h : OpR X f (rI0 g)) (hz : ∀ H0, Rp H0 (g i j) z) : OpD X f (.int i) (.int j) z :=
  ⟨_, h, fun v w H0 H Q _ r1 r2 q => by cases r1; cases r2; exact ⟨i, j, rfl, rfl, q _ (hz H0)⟩⟩
theorem ee_opD {op : Operator} (o : OpD X (binaryOp op) x y z) (ha : EE X ρ a ρ1 x) (hb : EE X ρ1 b ρ2 y) : EE X ρ (.BinOp a op b pos) ρ2 z := fun F σ H0 H Q r k => by
  obtain ⟨rr, ho, hv⟩ := o
  exact WE.of (pe_op ho pe_we pe_we) (two ha hb r fun v w H0' H' s r' p1 p2 => hv v w H0' H' Q r'.ex p1 p2 fun u hu => k u H0' H' s r' hu)
theorem ee_cmpD {op : CmpOp} (o : OpD X (compareOp op) x y z) (hm : behindInMarks op b = false) (ha : EE X ρ a ρ1 x) (hb : EE X ρ1 b ρ2 y) : EE X ρ (.Compare a [op] [b] pos) ρ2 z := fun F σ H0 H Q r k => by
  obtain ⟨rr, ho, hv⟩ := o
  exact WE.of (pe_cmpR ho pe_we pe_we hm) (two ha hb r fun v w H0' H' s r' p1 p2 => hv v w H0' H' Q r'.ex p1 p2 fun u hu => k u H0' H' s r' hu)
theorem et_cmpD {op : CmpOp} {t : Bool} (o : OpD X (compareOp op) x y (.bool t)) (hm : behindInMarks op b = false) (ha : EE X ρ a ρ1 x) (hb : EE X ρ1 b ρ2 y) : ET X ρ (.Compare a [op] [b] pos) ρ2 t := fun F σ H0 H Q r k => by
  obtain ⟨rr, ho, hv⟩ := o
  exact WT.of (pt_cmpR ho pe_we pe_we hm) (two ha hb r fun v w H0' H' s r' p1 p2 => hv v w H0' H' _ r'.ex p1 p2 fun u hu => by cases hu; exact ⟨t, rfl, k H0' H' s r'⟩)
section
variable {i j : Int}
theorem od_add : OpD X (binaryOp .Add) (.int i) (.int j) (.int (i + j)) := opd_I0 op_add fun _ => .int _
theorem od_sub : OpD X (binaryOp .Sub) (.int i) (.int j) (.int (i - j)) := opd_I0 op_sub fun _ => .int _
theorem od_mul (h : CMul i j) : OpD X (binaryOp .Mult) (.int i) (.int j) (.int (i * j)) := opd_I op_mul h fun _ => .int _
theorem od_mulW (h : CMulW i j) : OpD X (binaryOp .Mult) (.int i) (.int j) (.int (i * j)) := opd_I op_mulW h fun _ => .int _
theorem od_div (h : CDivW i j) : OpD X (binaryOp .FloorDiv) (.int i) (.int j) (.int (i / j)) := opd_I op_fdivW h fun _ => .int _
theorem od_mod (h : 0 < j) : OpD X (binaryOp .Mod) (.int i) (.int j) (.int (i % j)) := opd_I op_mod h fun _ => .int _
theorem od_pow (h : CPow i j) : OpD X (binaryOp .Pow) (.int i) (.int j) (.int (i ^ j.toNat)) := opd_I op_pow h fun _ => .int _
theorem od_lt : OpD X (compareOp .Lt) (.int i) (.int j) (.bool (decide (i < j))) := opd_I0 op_lt fun _ => .bl _
theorem od_le : OpD X (compareOp .LtE) (.int i) (.int j) (.bool (decide (i ≤ j))) := opd_I0 op_le fun _ => .bl _
theorem od_gt : OpD X (compareOp .Gt) (.int i) (.int j) (.bool (decide (j < i))) := opd_I0 op_gt fun _ => .bl _
theorem od_ge : OpD X (compareOp .GtE) (.int i) (.int j) (.bool (decide (j ≤ i))) := opd_I0 op_ge fun _ => .bl _
end
theorem od_eq (hu : X.A.units + 64 < cLine) (hx : SeqAt.shaped (toPy x) = true) (hy : SeqAt.shaped (toPy y) = true) : OpD X (compareOp .Eq) x y (.bool (PyData.eqv (toPy x) (toPy y))) :=
  ⟨_, op_eqD hu, fun v w H0 H Q s r1 r2 q => ⟨toPy x, toPy y, (r1.mono s).dp _ _ (clean_sh hx), (r2.mono s).dp _ _ (clean_sh hy), hx, hy, q _ (.bl _)⟩⟩
theorem od_ne (hu : X.A.units + 64 < cLine) (hx : SeqAt.shaped (toPy x) = true) (hy : SeqAt.shaped (toPy y) = true) : OpD X (compareOp .NotEq) x y (.bool (!PyData.eqv (toPy x) (toPy y))) :=
  ⟨_, op_neD hu, fun v w H0 H Q s r1 r2 q => ⟨toPy x, toPy y, (r1.mono s).dp _ _ (clean_sh hx), (r2.mono s).dp _ _ (clean_sh hy), hx, hy, q _ (.bl _)⟩⟩
theorem od_eqi {i j : Int} : OpD X (compareOp .Eq) (.int i) (.int j) (.bool (decide (i = j))) :=
  ⟨_, op_eq, fun v w H0 H Q _ r1 r2 q => by cases r1; cases r2; exact ⟨rfl, q _ (by rw [show decide (V.int i = V.int j) = decide (i = j) from by simp]; exact .bl _)⟩⟩
theorem od_nei {i j : Int} : OpD X (compareOp .NotEq) (.int i) (.int j) (.bool (!decide (i = j))) :=
  ⟨_, op_ne, fun v w H0 H Q _ r1 r2 q => by cases r1; cases r2; exact ⟨rfl, q _ (by rw [show decide (V.int i = V.int j) = decide (i = j) from by simp]; exact .bl _)⟩⟩
theorem od_neb {i j : Bool} : OpD X (compareOp .NotEq) (.bool i) (.bool j) (.bool (!decide (i = j))) :=
  ⟨_, op_ne, fun v w H0 H Q _ r1 r2 q => by cases r1; cases r2; exact ⟨rfl, q _ (by rw [show decide (V.bl i = V.bl j) = decide (i = j) from by simp]; exact .bl _)⟩⟩
theorem od_isNotB {i j : Bool} : OpD X (compareOp .IsNot) (.bool i) (.bool j) (.bool (!decide (i = j))) :=
  ⟨_, op_notBl, fun v w H0 H Q _ r1 r2 q => by cases r1; cases r2; exact ⟨i, j, rfl, rfl, q _ (.bl _)⟩⟩
def isNone : D → Bool
  | .none => true
  | _ => false
theorem od_isN : OpD X (compareOp .Is) x .none (.bool (isNone x)) :=
  ⟨_, op_isN, fun v w H0 H Q _ r1 r2 q => by cases r2; exact ⟨rfl, q _ (by cases r1 <;> exact .bl _)⟩⟩
theorem od_isNotN : OpD X (compareOp .IsNot) x .none (.bool (!isNone x)) :=
  ⟨_, op_notN, fun v w H0 H Q _ r1 r2 q => by cases r2; exact ⟨rfl, q _ (by cases r1 <;> exact .bl _)⟩⟩
theorem flat_ints (ns : List Int) : (ns.map V.int).all flatV = true := by
  induction ns with
  | nil => rfl
  | cons n r ih => simp only [List.map_cons, List.all_cons, ih, Bool.and_true]; rfl
theorem inV_ints (i : Int) (ns : List Int) : inV (.int i) (ns.map V.int) = decide (i ∈ ns) := by
  induction ns with
  | nil => rfl
  | cons n r ih =>
    have e : inV (.int i) ((n :: r).map V.int) = (eqV (.int n) (.int i) || inV (.int i) (r.map V.int)) := rfl
    rw [e, ih]
    have e2 : eqV (.int n) (.int i) = decide (i = n) := by
      show (n == i) = decide (i = n)
      by_cases h : n = i
      · subst h; simp
      · rw [decide_eq_false (Ne.symm h)]; simpa using h
    rw [e2]
    by_cases h : i = n
    · simp [h]
    · by_cases h2 : i ∈ r <;> simp [h, h2]
theorem od_in {i : Int} {tb : Bool} {ns : List Int} : OpD X (compareOp .In) (.int i) (.tup tb (ns.map .int)) (.bool (decide (i ∈ ns))) :=
  ⟨_, op_in_seq, fun v w H0 H Q s r1 r2 q => by
    cases r1
    cases r2 with
    | tup hs ha =>
      rw [ha.ints] at hs
      exact ⟨_, _, rfl, .inr (hs.mono s).sq, rfl, flat_ints ns, q _ (by rw [inV_ints]; exact .bl _)⟩⟩
theorem od_inL {i : Int} {ns : List Int} : OpD X (compareOp .In) (.int i) (.list (ns.map .int)) (.bool (decide (i ∈ ns))) :=
  ⟨_, op_in_seq, fun v w H0 H Q s r1 r2 q => by
    cases r1
    cases r2 with
    | lst hs ha =>
      rw [ha.ints] at hs
      exact ⟨_, _, rfl, .inl (SqL.of (s _ _ hs)), rfl, flat_ints ns, q _ (by rw [inV_ints]; exact .bl _)⟩⟩
/-- chains of ints: lo <= x <= hi -/
theorem ee_chain {op op' : CmpOp} {t t' : Bool} (o : OpD X (compareOp op) x y (.bool t)) (o' : OpD X (compareOp op') y z (.bool t')) (ha : EE X ρ a ρ1 x) (hb : EE X ρ1 b ρ2 y) (hc : t = true → EE X ρ2 c ρ2 z)
    (hm : lastMarks [op, op'] [b, c] = false := by with_unfolding_all rfl) : EE X ρ (.Compare a [op, op'] [b, c] pos) ρ2 (.bool (t && t')) := fun F σ H0 H Q r k => by
  obtain ⟨rr, ho, hv⟩ := o
  obtain ⟨rr', ho', hv'⟩ := o'
  refine WE.of (pe_chain ho ho' pe_we pe_we pe_we hm) (two ha hb r fun v w H0' H' s r' p1 p2 => hv v w H0' H' _ r'.ex p1 p2 fun u hu => ?_)
  cases hu
  refine ⟨t, rfl, ?_⟩
  cases t with
  | true =>
    rw [if_pos rfl]
    refine hc rfl F σ H0' H' _ r' fun v3 H03 H3 s3 r3 p3 => hv' _ _ H03 H3 _ r3.ex (p2.mono s3) p3 fun u hu => ?_
    cases hu
    exact k _ _ _ (s.trans s3) r3 (.bl _)
  | false =>
    rw [if_neg Bool.false_ne_true]
    exact k _ _ _ s r' (.bl _)
theorem et_chain {op op' : CmpOp} {t t' : Bool} (o : OpD X (compareOp op) x y (.bool t)) (o' : OpD X (compareOp op') y z (.bool t')) (ha : EE X ρ a ρ1 x) (hb : EE X ρ1 b ρ2 y) (hc : t = true → EE X ρ2 c ρ2 z)
    (hm : lastMarks [op, op'] [b, c] = false := by with_unfolding_all rfl) : ET X ρ (.Compare a [op, op'] [b, c] pos) ρ2 (t && t') := fun F σ H0 H Q r k => by
  obtain ⟨rr, ho, hv⟩ := o
  obtain ⟨rr', ho', hv'⟩ := o'
  refine WT.of (pt_chain ho ho' pe_we pe_we pe_we hm) (two ha hb r fun v w H0' H' s r' p1 p2 => hv v w H0' H' _ r'.ex p1 p2 fun u hu => ?_)
  cases hu
  refine ⟨t, rfl, ?_⟩
  cases t with
  | true =>
    rw [if_pos rfl]
    refine hc rfl F σ H0' H' _ r' fun v3 H03 H3 s3 r3 p3 => hv' _ _ H03 H3 _ r3.ex (p2.mono s3) p3 fun u hu => ?_
    cases hu
    exact ⟨_, rfl, k _ _ (s.trans s3) r3⟩
  | false =>
    rw [if_neg Bool.false_ne_true]
    exact ⟨_, rfl, k _ _ s r'⟩
/-! truth values -/
theorem ee_one {op : BoolOp} (h : EE X ρ a ρ1 x) : EE X ρ (.BoolOp op [a] pos) ρ1 x := fun F σ H0 H Q r k => WE.of (pe_one pe_we) (h F σ H0 H Q r k)
theorem ee_and {rest : List Expr} {t : Bool} (ha : EE X ρ a ρ1 (.bool t)) (hb : t = true → EE X ρ1 (.BoolOp .And (b :: rest) pos) ρ1 y) : EE X ρ (.BoolOp .And (a :: b :: rest) pos) ρ1 (if t = true then y else .bool false) := fun F σ H0 H Q r k => by
  refine WE.of (pe_and pe_we pe_we) (ha F σ H0 H _ r fun v H0' H' s r' p => ?_)
  cases p
  refine ⟨t, rfl, ?_⟩
  cases t with
  | true => exact hb rfl F σ H0' H' Q r' fun v2 H2 H3 s2 => k v2 H2 H3 (s.trans s2)
  | false => exact k _ _ _ s r' (.bl _)
theorem ee_or {rest : List Expr} {t : Bool} (ha : EE X ρ a ρ1 (.bool t)) (hb : t = false → EE X ρ1 (.BoolOp .Or (b :: rest) pos) ρ1 y) : EE X ρ (.BoolOp .Or (a :: b :: rest) pos) ρ1 (if t = true then .bool true else y) := fun F σ H0 H Q r k => by
  refine WE.of (pe_or pe_we pe_we) (ha F σ H0 H _ r fun v H0' H' s r' p => ?_)
  cases p
  refine ⟨t, rfl, ?_⟩
  cases t with
  | false => exact hb rfl F σ H0' H' Q r' fun v2 H2 H3 s2 => k v2 H2 H3 (s.trans s2)
  | true => exact k _ _ _ s r' (.bl _)
theorem ee_not {t : Bool} (ha : EE X ρ a ρ1 (.bool t)) : EE X ρ (.UnaryOp .Not a pos) ρ1 (.bool (!t)) := fun F σ H0 H Q r k => by
  refine WE.of (pe_not pe_we) (ha F σ H0 H _ r fun v H0' H' s r' p => ?_)
  cases p
  exact ⟨t, rfl, k _ _ _ s r' (.bl _)⟩
theorem ee_neg {i : Int} (ha : EE X ρ a ρ1 (.int i)) : EE X ρ (.UnaryOp .USub a pos) ρ1 (.int (-i)) := fun F σ H0 H Q r k => by
  refine WE.of (pe_un un_neg pe_we) (ha F σ H0 H _ r fun v H0' H' s r' p => ?_)
  cases p
  exact ⟨i, rfl, k _ _ _ s r' (.int _)⟩
theorem ee_if {t : Bool} (hc : ET X ρ c ρ1 t) (ha : t = true → EE X ρ1 a ρ2 x) (hb : t = false → EE X ρ1 b ρ2 x) : EE X ρ (.IfExp c a b pos) ρ2 x := fun F σ H0 H Q r k => by
  refine WE.of (pe_ifExp pt_wt pe_we pe_we) (hc F σ H0 H _ r fun H0' H' s r' => ?_)
  cases t with
  | true => rw [if_pos rfl]; exact ha rfl F σ H0' H' Q r' fun v2 H2 H3 s2 => k v2 H2 H3 (s.trans s2)
  | false => rw [if_neg Bool.false_ne_true]; exact hb rfl F σ H0' H' Q r' fun v2 H2 H3 s2 => k v2 H2 H3 (s.trans s2)
theorem et_val {t : Bool} (h : EE X ρ e ρ1 (.bool t)) (he : ∀ whole, isTrue e X.env whole = (do let v ← whole; standAt e.pos; holding [v] (truthy v)) := by intro _; rfl) : ET X ρ e ρ1 t := fun F σ H0 H Q r k =>
  WT.of (pt_val pe_we he) (h F σ H0 H _ r fun v H0' H' s r' p => by cases p; exact ⟨t, rfl, k _ _ s r'⟩)
theorem et_not {t : Bool} (h : ET X ρ a ρ1 t) : ET X ρ (.UnaryOp .Not a pos) ρ1 (!t) := fun F σ H0 H Q r k =>
  WT.of (pt_not pt_wt) (h F σ H0 H _ r fun H0' H' s r' => k _ _ s r')
theorem et_w {t : Bool} (h : EW X ρ e ρ1 t) : ET X ρ e ρ1 t := fun F σ H0 H Q r k => WT.of pw_ww.pt (h F σ H0 H Q r k)
theorem ew_and1 {t : Bool} (h : ET X ρ a ρ1 t) : EW X ρ (.BoolOp .And [a] pos) ρ1 t := fun F σ H0 H Q r k => WW.of (pw_and1 pt_wt) (h F σ H0 H Q r k)
theorem ew_or1 {t : Bool} (h : ET X ρ a ρ1 t) : EW X ρ (.BoolOp .Or [a] pos) ρ1 t := fun F σ H0 H Q r k => WW.of (pw_or1 pt_wt) (h F σ H0 H Q r k)
theorem ew_and {rest : List Expr} {t u : Bool} (h : ET X ρ a ρ1 t) (h2 : t = true → EW X ρ1 (.BoolOp .And (b :: rest) pos) ρ1 u) : EW X ρ (.BoolOp .And (a :: b :: rest) pos) ρ1 (t && u) := fun F σ H0 H Q r k =>
  WW.of (pw_and pt_wt pw_ww) (h F σ H0 H _ r fun H0' H' s r' => by
    cases t with
    | true => rw [if_pos rfl]; exact h2 rfl F σ H0' H' Q r' fun H2 H3 s2 => k H2 H3 (s.trans s2)
    | false => rw [if_neg Bool.false_ne_true]; exact k _ _ s r')
theorem ew_or {rest : List Expr} {t u : Bool} (h : ET X ρ a ρ1 t) (h2 : t = false → EW X ρ1 (.BoolOp .Or (b :: rest) pos) ρ1 u) : EW X ρ (.BoolOp .Or (a :: b :: rest) pos) ρ1 (t || u) := fun F σ H0 H Q r k =>
  WW.of (pw_or pt_wt pw_ww) (h F σ H0 H _ r fun H0' H' s r' => by
    cases t with
    | false => rw [if_neg Bool.false_ne_true]; exact h2 rfl F σ H0' H' Q r' fun H2 H3 s2 => k H2 H3 (s.trans s2)
    | true => rw [if_pos rfl]; exact k _ _ s r')
/-! argument lists, displays -/
theorem ea_nil : EA X ρ [] ρ [] := fun F σ H0 H Q r k => WA.of pa_nil (k [] H0 H (Same.refl _) r .nil)
theorem ea_cons {es : List Expr} {xs : List D} (ha : EE X ρ e ρ1 x) (hr : EA X ρ1 es ρ2 xs) (hs : starEach (e :: es) X.env = (false, eval e X.env) :: starEach es X.env := by rfl) : EA X ρ (e :: es) ρ2 (x :: xs) := fun F σ H0 H Q r k =>
  WA.of (pa_cons pe_we pa_wa hs) (ha F σ H0 H _ r fun v H1 H' s r' p => hr F σ H1 H' _ r' fun vs H2 H'' s2 r2 p2 => k _ _ _ (s.trans s2) r2 (.cons (p.mono s2) p2))
theorem ee_tup {es : List Expr} {xs : List D} {x1 : Nat} (h : EA X ρ es ρ1 xs) (hl : xs.length ≤ 1000 := by exact Nat.le_of_ble_eq_true rfl) : EE X ρ (.Tuple es x1 pos) ρ1 (.tuple xs) := fun F σ H0 H Q r k =>
  WE.of (pe_tup pa_wa) (h F σ H0 H _ r fun vs H1 H' s r' p => ⟨by rw [p.len]; exact Nat.le_of_lt (small1000 hl), fun q hq => by
    obtain ⟨r2, s2⟩ := r'.new (o := .tup vs) hq
    exact k _ _ _ (s.trans s2) r2 (.tup upd_same (p.mono s2))⟩)
theorem eo_lst {es : List Expr} {xs : List D} (h : EA X ρ es ρ1 xs) (hl : xs.length ≤ 1000 := by exact Nat.le_of_ble_eq_true rfl) : EO X ρ (.List es pos) ρ1 xs := fun F σ H0 H Q r k =>
  WE.of (pe_lst pa_wa) (h F σ H0 H _ r fun vs H1 H' s r' p => ⟨by rw [p.len]; exact Nat.le_of_lt (small1000 hl), fun q hq => k q vs H1 _ s (r'.he_none hq) (r'.dk_none hq) (r'.newPin hq) p⟩)
/-! items -/
theorem rpa_at {H : Hp} {ds : List D} {vs : List V} (h : RpA H vs ds) {i : Int} {d : D} (e : atI ds i = some d) : ∃ v, atI vs i = some v ∧ Rp H v d := by
  unfold atI at e ⊢
  rw [h.len]
  cases q : ixN ds.length i with
  | none => rw [q] at e; cases e
  | some j =>
    rw [q] at e
    exact h.get e
theorem ee_ixT {xs : List D} {tb : Bool} {i : Int} (ha : EE X ρ a ρ1 (.tup tb xs)) (hb : EE X ρ1 b ρ2 (.int i)) (h : atI xs i = some x) (hs : PlainIx b := by exact fun _ _ => rfl) : EE X ρ (.Subscript a b pos) ρ2 x := fun F σ H0 H Q r k =>
  WE.of (pe_ix ix_tup pe_we pe_we hs) (two ha hb r fun v w H0' H' s r' p1 p2 => by
    cases p2
    cases p1 with
    | tup hs ha =>
      obtain ⟨u, e, ru⟩ := rpa_at ha h
      exact ⟨_, _, i, u, rfl, rfl, (hs.mono r'.ex).sq, e, k _ _ _ s r' ru⟩)
theorem ee_ixL {xs : List D} {i : Int} (ha : EE X ρ a ρ1 (.list xs)) (hb : EE X ρ1 b ρ2 (.int i)) (h : atI xs i = some x) (hs : PlainIx b := by exact fun _ _ => rfl) : EE X ρ (.Subscript a b pos) ρ2 x := fun F σ H0 H Q r k =>
  WE.of (pe_ix ix_list pe_we pe_we hs) (two ha hb r fun v w H0' H' s r' p1 p2 => by
    cases p2
    cases p1 with
    | lst hs ha =>
      obtain ⟨u, e, ru⟩ := rpa_at ha h
      exact ⟨_, _, i, u, rfl, rfl, SqL.of (r'.ex _ _ hs), e, k _ _ _ s r' ru⟩)
/-- an item of an own list -/
theorem ee_ixO (j : Nat) {n : Str} {p1 : Pos} {xs : List D} {i : Int} (hb : EE X ρ b ρ (.int i)) (h : atI xs i = some x) (hr : ρ[j]? = some (.own xs) := by rfl) (hs : PlainIx b := by exact fun _ _ => rfl) (hN : X.N[j]? = some n := by rfl)
    (hv : Vis X.env.scope n := by first | exact Or.inl rfl | exact Or.inr (Or.inl rfl) | exact Or.inr (Or.inr rfl)) (hd : (n == ("__debug__" : Str)) = false := by decide) (hcd : (n == ("__classdict__" : Str)) = false := by decide) :
    EE X ρ (.Subscript (.Name n p1) b pos) ρ x := fun F σ H0 H Q r k => by
  refine WE.of (pe_ix ix_list (pe_var hN hv hd hcd) pe_we hs) ?_
  obtain ⟨p, vs, e1, e2, e3, e4, e5, e6⟩ := r.sl j _ hr
  refine ⟨_, e1, hb F σ H0 H _ r fun w H0' H' s r' p2 => ?_⟩
  cases p2
  obtain ⟨p', vs', e1', e2', e3', e4', e5', e6'⟩ := r'.sl j _ hr
  rw [e1] at e1'; cases e1'
  obtain ⟨u, e, ru⟩ := rpa_at e6' h
  exact ⟨_, _, i, u, rfl, rfl, SqL.of e5', e, k _ _ _ s r' ru⟩
/-- own == [], != [] -/
theorem own_rel {F : Fm} {σ : L2.St} {H0 H : Hp} (r : Rel F ρ σ H0 H) {j : Nat} {xs : List D} (hr : ρ[j]? = some (.own xs)) : ∃ p vs, σ[j]? = some (some (.ref p)) ∧ H p = some (.lst vs) ∧ RpA H0 vs xs ∧ H0 p = none := by
  obtain ⟨p, vs, e1, e2, e3, e4, e5, e6⟩ := r.sl j _ hr
  exact ⟨p, vs, e1, e5, e6, e2⟩
theorem own_nil (op : CmpOp) (neg : Bool) (hop : OpR X (compareOp op) (if neg then rNeD X.K else rEqD X.K)) (hm : op = if neg then .NotEq else .Eq) (j : Nat) {n : Str} {p1 p2 : Pos} {xs : List D} (hr : ρ[j]? = some (.own xs)) (hsh : SeqAt.shaped (toPy (.list xs)) = true) (hN : X.N[j]? = some n)
    (hv : Vis X.env.scope n) (hd : (n == ("__debug__" : Str)) = false) (hcd : (n == ("__classdict__" : Str)) = false) (hbm : behindInMarks op (.List [] p2) = false) :
    ET X ρ (.Compare (.Name n p1) [op] [.List [] p2] pos) ρ (if neg then !xs.isEmpty else xs.isEmpty) := fun F σ H0 H Q r k => by
  refine WT.of (pt_cmpR hop (pe_var hN hv hd hcd) (pe_lst pa_nil) hbm) ?_
  obtain ⟨p, vs, e1, e5, e6, _⟩ := own_rel r hr
  refine ⟨_, e1, Nat.zero_le _, fun q hq => ?_⟩
  have rq : Rel F ρ σ H0 (upd H q (.lst [])) := r.new1 hq
  have s1 : Same H0 (upd H q (.lst [])) := rq.ex
  have hne : p ≠ q := fun z => by subst z; rw [hq] at e5; cases e5
  have d1 : Dp X.K (upd H q (.lst [])) (.ref p) (toPy (.list xs)) := .lst (SqL.of (by rw [upd_ne hne]; exact e5)) ((e6.mono s1).dp _ _ (by have := clean_sh hsh; rw [clean] at this; exact this))
  have d2 : Dp X.K (upd H q (.lst [])) (.ref q) (.list []) := .lst (SqL.of upd_same) .nil
  have ee : PyData.eqv (toPy (.list xs)) (.list []) = xs.isEmpty := by
    cases xs with
    | nil => simp [toPy, toPyA, PyData.eqv, PyData.eqvAll]
    | cons x r => simp [toPy, toPyA, PyData.eqv, PyData.eqvAll]
  cases neg with
  | true => exact ⟨_, _, d1, d2, hsh, rfl, _, rfl, by rw [ee]; exact k _ _ (Same.refl _) rq⟩
  | false => exact ⟨_, _, d1, d2, hsh, rfl, _, rfl, by rw [ee]; exact k _ _ (Same.refl _) rq⟩
theorem et_ownNe (hu : X.A.units + 64 < cLine) (j : Nat) {n : Str} {p1 p2 : Pos} {xs : List D} (hsh : SeqAt.shaped (toPy (.list xs)) = true) (hr : ρ[j]? = some (.own xs) := by rfl) (hN : X.N[j]? = some n := by rfl)
    (hv : Vis X.env.scope n := by first | exact Or.inl rfl | exact Or.inr (Or.inl rfl) | exact Or.inr (Or.inr rfl)) (hd : (n == ("__debug__" : Str)) = false := by decide) (hcd : (n == ("__classdict__" : Str)) = false := by decide) :
    ET X ρ (.Compare (.Name n p1) [.NotEq] [.List [] p2] pos) ρ (!xs.isEmpty) := own_nil .NotEq true (op_neD hu) rfl j hr hsh hN hv hd hcd (nomark _)
theorem et_ownEq (hu : X.A.units + 64 < cLine) (j : Nat) {n : Str} {p1 p2 : Pos} {xs : List D} (hsh : SeqAt.shaped (toPy (.list xs)) = true) (hr : ρ[j]? = some (.own xs) := by rfl) (hN : X.N[j]? = some n := by rfl)
    (hv : Vis X.env.scope n := by first | exact Or.inl rfl | exact Or.inr (Or.inl rfl) | exact Or.inr (Or.inr rfl)) (hd : (n == ("__debug__" : Str)) = false := by decide) (hcd : (n == ("__classdict__" : Str)) = false := by decide) :
    ET X ρ (.Compare (.Name n p1) [.Eq] [.List [] p2] pos) ρ xs.isEmpty := own_nil .Eq false (op_eqD hu) rfl j hr hsh hN hv hd hcd (nomark _)
end
end DL
set_option Elab.async false
set_option linter.all false
set_option maxRecDepth 100000
set_option maxHeartbeats 1000000
/-! DL3: targets, walks, comprehensions, statements, defs, over data -/
namespace DL
open PySem PySem.Spec PyProof.Rows L2
open RZ (ItzT pi_zipA)

/-! ### targets -/
def WGs (X : Cx) (ts : List Expr) : TGs := fun vs σ H Q => ∀ pins s us, Inv X pins σ H s → Vals vs us → wpAny (model X.prog X.w) X.A (assignInOrder ((assignEach ts X.env).map (·.2)) us) (fun _ s' => ∃ σ' H', Inv X pins σ' H' s' ∧ Q σ' H') X.xe s
theorem pgs_wgs {X : Cx} {ts : List Expr} : PGs X ts (WGs X ts) := ⟨fun pins s _ _ _ us _ I r h => h pins s us I r⟩
theorem WGs.of {X : Cx} {ts : List Expr} {t : TGs} (h : PGs X ts t) {σ : L2.St} {H : Hp} {vs : List V} {Q : L2.St → Hp → Prop} (q : t vs σ H Q) : WGs X ts vs σ H Q := fun pins s us I r => h.run pins s σ H vs us Q I r q
/-- a datum is stored into a target, whose slots are among vs -/
def GJ (X : Cx) (ρ : List Sl) (tg : Expr) (x : D) (vs : List Nat) (ρ' : List Sl) : Prop := ∀ F σ H0 H v Q, Rel F ρ σ H0 H → Rp H0 v x → (∀ σ', Rel F ρ' σ' H0 H → wipe σ' vs = wipe σ vs → Q σ' H) → WG X tg v σ H Q
def GJs (X : Cx) (ρ : List Sl) (tgs : List Expr) (xs : List D) (vs : List Nat) (ρ' : List Sl) : Prop := ∀ F σ H0 H us Q, Rel F ρ σ H0 H → RpA H0 us xs → (∀ σ', Rel F ρ' σ' H0 H → wipe σ' vs = wipe σ vs → Q σ' H) → WGs X tgs us σ H Q
theorem wipe_set {σ : L2.St} {i : Nat} {o : Option V} : ∀ {vs : List Nat}, i ∈ vs → wipe (σ.set i o) vs = wipe σ vs
  | [], h => nomatch h
  | v :: vs, h => by
    show (wipe (σ.set i o) vs).set v none = (wipe σ vs).set v none
    by_cases hv : i ∈ vs
    · rw [wipe_set hv]
    · have e : v = i := by
        rcases List.mem_cons.mp h with e | e
        · exact e.symm
        · exact absurd e hv
      subst e
      have q : wipe (σ.set v o) vs = (wipe σ vs).set v o := by
        clear h
        induction vs with
        | nil => rfl
        | cons u us ih =>
          have h1 : v ≠ u := fun z => hv (by rw [z]; exact List.mem_cons_self)
          have h2 : v ∉ us := fun z => hv (List.mem_cons_of_mem _ z)
          show (wipe (σ.set v o) us).set u none = ((wipe σ us).set u none).set v o
          rw [ih h2, List.set_comm _ _ h1]
      rw [q, List.set_set]
section
variable {X : Cx} {ρ ρ1 ρ2 ρ3 : List Sl} {e a b c tg iter elt : Expr} {x y z : D} {pos : Pos} {vs : List Nat} {ys : List D}
theorem gj_name (i : Nat) {n : Str} (hi : X.N[i]? = some n := by rfl) (hN : X.N.Nodup := by assumption) (hv : i ∈ vs := by simp) (hx : Loc X.env.scope n := by first | exact Or.inl rfl | exact Or.inr rfl)
    (hf : X.fn n = true ∨ X.env.scope.names.lookup n = some .local := by first | exact .inl rfl | exact .inr rfl) : GJ X ρ (.Name n pos) x vs (ρ.set i (.d x)) := fun F σ H0 H v Q r p k =>
  WG.of (pg_name hN hi hx hf) (k _ (r.setD p) (wipe_set hv))
theorem gjs_nil : GJs X ρ [] [] vs ρ := fun F σ H0 H us Q r p k => by
  cases p
  exact WGs.of pgs_nil ⟨rfl, k σ r rfl⟩
theorem gjs_cons {t : Expr} {ts : List Expr} {xs : List D} (h1 : GJ X ρ t x vs ρ1) (h2 : GJs X ρ1 ts xs vs ρ2) (hs : (assignEach (t :: ts) X.env).map (·.2) = assign t X.env :: (assignEach ts X.env).map (·.2) := by rfl) : GJs X ρ (t :: ts) (x :: xs) vs ρ2 := fun F σ H0 H us Q r p k => by
  cases p with
  | cons p1 p2 =>
    exact WGs.of (pgs_cons pg_wg pgs_wgs hs) ⟨_, _, rfl, h1 F σ H0 H _ _ r p1 fun σ1 r1 w1 => h2 F σ1 H0 H _ Q r1 p2 fun σ2 r2 w2 => k σ2 r2 (w2.trans w1)⟩
theorem gj_tup {es : List Expr} {k0 : Nat} {tb : Bool} {xs : List D} (h : GJs X ρ es xs vs ρ1) (hc : X.calm = true := by rfl) (hn : (assignEach es X.env).length = xs.length := by rfl) (hst : (assignEach es X.env).findIdx? (·.1) = none := by rfl) : GJ X ρ (.Tuple es k0 pos) (.tup tb xs) vs ρ1 := fun F σ H0 H v Q r p k => by
  cases p with
  | tup hs ha =>
    exact WG.of (pg_tup hc pgs_wgs hn hst) ⟨_, _, rfl, (hs.mono r.ex).sq, ha.len, h F σ H0 H _ Q r ha k⟩

/-! ### what is walked -/
structure IsIt (J : It) (H0 : Hp) (ys : List D) : Prop where
  go : ∀ i H, i < ys.length → Same H0 H → J.go i H
  yld : ∀ i H x H' y, Same H0 H → J.yld i H x H' → ys[i]? = some y → (H' = H ∧ Rp H0 x y) ∨ (∃ T vs ds, x = .ref T ∧ H T = none ∧ H' = upd H T (.tup vs) ∧ y = .tup false ds ∧ RpA H0 vs ds)
  stop : ∀ H, Same H0 H → J.stop ys.length H
theorem IsIt.mono {J : It} {H0 H1 : Hp} {ys : List D} (h : IsIt J H0 ys) (s : Same H0 H1) : IsIt J H1 ys where
  go := fun i H l e => h.go i H l (s.trans e)
  yld := fun i H x H' y e q hy => by
    rcases h.yld i H x H' y (s.trans e) q hy with ⟨e1, e2⟩ | ⟨T, us, ds, e1, e2, e3, e4, e5⟩
    · exact .inl ⟨e1, e2.mono s⟩
    · exact .inr ⟨T, us, ds, e1, e2, e3, e4, e5.mono s⟩
  stop := fun H e => h.stop H (s.trans e)
/-- the heaps behind a turn's item -/
theorem IsIt.turn {J : It} {H0 H H' : Hp} {ys : List D} (h : IsIt J H0 ys) {F : Fm} {σ : L2.St} (r : Rel F ρ σ H0 H) {i : Nat} {v : V} (q : J.yld i H v H') (hy : ys[i]? = some y) : ∃ H0', Same H0 H0' ∧ Rel F ρ σ H0' H' ∧ Rp H0' v y := by
  rcases h.yld i H v H' y r.ex q hy with ⟨e1, e2⟩ | ⟨T, us, ds, e1, e2, e3, e4, e5⟩
  · subst e1; exact ⟨H0, Same.refl _, r, e2⟩
  · subst e1 e3 e4
    obtain ⟨r2, s2⟩ := r.new (o := .tup us) e2
    exact ⟨_, s2, r2, .tup (b := false) upd_same (e5.mono s2)⟩
def EI (X : Cx) (ρ : List Sl) (tg iter : Expr) (ρ' : List Sl) (ys : List D) : Prop := ∀ F σ H0 H R, Rel F ρ σ H0 H → (∀ J H0' H', Same H0 H0' → Rel F ρ' σ H0' H' → IsIt J H0' ys → R J H') → WI X tg iter σ H R
theorem isIt_list {K : PySem.W.Frag} {H0 : Hp} {p : Addr} {vs : List V} (h : H0 p = some (.lst vs)) (ra : RpA H0 vs ys) : IsIt (Itl K p) H0 ys where
  go := fun i H l e => ⟨vs, vs[i]'(by rw [ra.len]; exact l), SqL.of (e _ _ h), List.getElem?_eq_getElem _⟩
  yld := fun i H v H' y e q hy => by
    obtain ⟨e1, e2⟩ := q
    obtain ⟨u, e3, e4⟩ := ra.get hy
    have := e2 vs (SqL.of (e _ _ h))
    rw [e3] at this; cases this
    exact .inl ⟨e1, e4⟩
  stop := fun H e => ⟨vs, SqL.of (e _ _ h), by rw [ra.len]; exact Nat.le_refl _⟩
theorem isIt_tup {K : PySem.W.Frag} {H0 : Hp} {p : Addr} {vs : List V} {tb : Bool} (h : TupAt H0 tb p vs) (ra : RpA H0 vs ys) : IsIt (Itt K p) H0 ys where
  go := fun i H l e => ⟨vs, vs[i]'(by rw [ra.len]; exact l), (h.mono e).sq, List.getElem?_eq_getElem _⟩
  yld := fun i H v H' y e q hy => by
    obtain ⟨e1, e2⟩ := q
    obtain ⟨u, e3, e4⟩ := ra.get hy
    have := e2 vs ((h.mono e).sq)
    rw [e3] at this; cases this
    exact .inl ⟨e1, e4⟩
  stop := fun H e => ⟨vs, (h.mono e).sq, by rw [ra.len]; exact Nat.le_refl _⟩
theorem ei_list (h : EE X ρ iter ρ1 (.list ys)) : EI X ρ tg iter ρ1 ys := fun F σ H0 H R r k =>
  WI.of (pi_list pe_we) (h F σ H0 H _ r fun v H0' H' s r' p => by
    cases p with
    | lst hs ha => exact ⟨_, rfl, ⟨_, SqL.of (r'.ex _ _ hs)⟩, k _ _ _ s r' (isIt_list hs ha)⟩)
theorem ei_tup {tb : Bool} (h : EE X ρ iter ρ1 (.tup tb ys)) : EI X ρ tg iter ρ1 ys := fun F σ H0 H R r k =>
  WI.of (pi_tup pe_we) (h F σ H0 H _ r fun v H0' H' s r' p => by
    cases p with
    | tup hs ha => exact ⟨_, rfl, ⟨_, (hs.mono r'.ex).sq⟩, k _ _ _ s r' (isIt_tup hs ha)⟩)
/-- lo, lo + 1, .. : n of them -/
def rangeD (lo : Int) (n : Nat) : List D := (List.range n).map fun i => .int (lo + (i : Nat))
theorem rangeD_len (lo : Int) (n : Nat) : (rangeD lo n).length = n := by simp [rangeD]
theorem rangeD_get {lo : Int} {n i : Nat} (h : i < n) : (rangeD lo n)[i]? = some (.int (lo + i)) := by simp [rangeD, h]
theorem isIt_range {H0 : Hp} (lo : Int) (n : Nat) : IsIt (Itr lo n) H0 (rangeD lo n) where
  go := fun i H l _ => by rw [rangeD_len] at l; exact l
  yld := fun i H v H' y e q hy => by
    obtain ⟨e1, e2⟩ := q
    have hi : i < n := by
      have := (List.getElem?_eq_some_iff.mp hy).1
      rwa [rangeD_len] at this
    rw [rangeD_get hi] at hy; cases hy
    subst e2
    exact .inl ⟨e1, .int _⟩
  stop := fun H _ => by rw [rangeD_len]; exact Nat.le_refl n
theorem ei_range1 {p : Pos} {j : Int} (hm : X.mg "range" = none) (h : EE X ρ a ρ1 (.int j)) (h1 : -(2 ^ 62) ≤ j := by omega) (h2 : j < 2 ^ 62 := by omega) (hg : Gl X "range" := by rfl) (hs : starEach [a] X.env = [(false, eval a X.env)] := by rfl) : EI X ρ tg (.Call (.Name "range" p) [a] [] pos) ρ1 (rangeD 0 j.toNat) := fun F σ H0 H R r k =>
  WI.of (pi_range1 hg hm (pa_cons pe_we pa_nil (by rw [hs]; rfl)) hs) (h F σ H0 H _ r fun v H0' H' s r' p => by
    cases p
    exact ⟨j, rfl, h1, h2, k _ _ _ s r' (isIt_range 0 _)⟩)
theorem ei_range2 {p : Pos} {i j : Int} (hm : X.mg "range" = none) (ha : EE X ρ a ρ1 (.int i)) (hb : EE X ρ1 b ρ2 (.int j)) (h : -(2 ^ 62) ≤ i ∧ i < 2 ^ 62 ∧ -(2 ^ 62) ≤ j ∧ j < 2 ^ 62) (hg : Gl X "range" := by rfl) (hs : starEach [a, b] X.env = [(false, eval a X.env), (false, eval b X.env)] := by rfl) (hs2 : starEach [b] X.env = [(false, eval b X.env)] := by rfl) :
    EI X ρ tg (.Call (.Name "range" p) [a, b] [] pos) ρ2 (rangeD i (j - i).toNat) := fun F σ H0 H R r k =>
  WI.of (pi_range2 hg hm (pa_cons pe_we (pa_cons pe_we pa_nil (by rw [hs2]; rfl)) (by rw [hs, hs2])) hs hs2) (two ha hb r fun v w H0' H' s r' p1 p2 => by
    cases p1; cases p2
    exact ⟨i, j, rfl, h, k _ _ _ s r' (isIt_range i _)⟩)
/-- pairs of two lists -/
def zipD (xs ys : List D) : List D := (xs.zip ys).map fun p => .tuple [p.1, p.2]
theorem zipD_get {xs ys : List D} {i : Nat} {x y : D} (h1 : xs[i]? = some x) (h2 : ys[i]? = some y) : (zipD xs ys)[i]? = some (.tuple [x, y]) := by
  simp [zipD, List.getElem?_zip_eq_some, h1, h2]
theorem zipD_inv {xs ys : List D} {i : Nat} {z : D} (h : (zipD xs ys)[i]? = some z) : ∃ x y, xs[i]? = some x ∧ ys[i]? = some y ∧ z = .tuple [x, y] := by
  unfold zipD at h
  rw [List.getElem?_map] at h
  cases q : (xs.zip ys)[i]? with
  | none => rw [q] at h; cases h
  | some p =>
    rw [q] at h
    obtain ⟨h1, h2⟩ := List.getElem?_zip_eq_some.mp q
    exact ⟨_, _, h1, h2, (Option.some.inj h).symm⟩
theorem zipD_len (xs ys : List D) : (zipD xs ys).length = min xs.length ys.length := by simp [zipD]
theorem isIt_zipT {K : PySem.W.Frag} {H0 : Hp} {p q : Addr} {vs ws : List V} {xs zs : List D} {tb tc : Bool} (h : TupAt H0 tb p vs) (ra : RpA H0 vs xs) (h2 : TupAt H0 tc q ws) (rb : RpA H0 ws zs) : IsIt (ItzT K p q) H0 (zipD xs zs) where
  go := fun i H l e => by
    rw [zipD_len] at l
    obtain ⟨v, e1, _⟩ := ra.get (List.getElem?_eq_getElem (show i < xs.length by omega))
    obtain ⟨w, e2, _⟩ := rb.get (List.getElem?_eq_getElem (show i < zs.length by omega))
    exact ⟨vs, ws, v, w, (h.mono e).sq, (h2.mono e).sq, e1, e2⟩
  yld := fun i H v H' y e q hy => by
    obtain ⟨x1, y1, g1, g2, e0⟩ := zipD_inv hy
    subst e0
    obtain ⟨u1, f1, r1⟩ := ra.get g1
    obtain ⟨u2, f2, r2⟩ := rb.get g2
    obtain ⟨T, w1, w2, q1, q2, q3, q4, q5⟩ := q
    have a1 := q4 vs ((h.mono e).sq)
    have a2 := q5 ws ((h2.mono e).sq)
    rw [f1] at a1; cases a1
    rw [f2] at a2; cases a2
    exact .inr ⟨T, _, _, q1, q2, q3, rfl, .cons r1 (.cons r2 .nil)⟩
  stop := fun H e => by
    refine ⟨vs, ws, (h.mono e).sq, (h2.mono e).sq, ?_⟩
    rw [zipD_len, ra.len, rb.len]
    omega
theorem isIt_zipL {K : PySem.W.Frag} {H0 : Hp} {p q : Addr} {vs ws : List V} {xs zs : List D} (h : H0 p = some (.lst vs)) (ra : RpA H0 vs xs) (h2 : H0 q = some (.lst ws)) (rb : RpA H0 ws zs) : IsIt (Itz K p q) H0 (zipD xs zs) where
  go := fun i H l e => by
    rw [zipD_len] at l
    obtain ⟨v, e1, _⟩ := ra.get (List.getElem?_eq_getElem (show i < xs.length by omega))
    obtain ⟨w, e2, _⟩ := rb.get (List.getElem?_eq_getElem (show i < zs.length by omega))
    exact ⟨vs, ws, v, w, SqL.of (e _ _ h), SqL.of (e _ _ h2), e1, e2⟩
  yld := fun i H v H' y e q hy => by
    obtain ⟨x1, y1, g1, g2, e0⟩ := zipD_inv hy
    subst e0
    obtain ⟨u1, f1, r1⟩ := ra.get g1
    obtain ⟨u2, f2, r2⟩ := rb.get g2
    obtain ⟨T, w1, w2, q1, q2, q3, q4, q5⟩ := q
    have a1 := q4 vs (SqL.of (e _ _ h))
    have a2 := q5 ws (SqL.of (e _ _ h2))
    rw [f1] at a1; cases a1
    rw [f2] at a2; cases a2
    exact .inr ⟨T, _, _, q1, q2, q3, rfl, .cons r1 (.cons r2 .nil)⟩
  stop := fun H e => by
    refine ⟨vs, ws, SqL.of (e _ _ h), SqL.of (e _ _ h2), ?_⟩
    rw [zipD_len, ra.len, rb.len]
    omega
theorem ei_zipT {p tpos : Pos} {elts : List Expr} {kk : Nat} {xs zs : List D} {tb tc : Bool} (hm : X.mg "zip" = none) (ha : EE X ρ a ρ1 (.tup tb xs)) (hb : EE X ρ1 b ρ2 (.tup tc zs)) (hg : Gl X "zip" := by rfl) (hs : starEach [a, b] X.env = (false, eval a X.env) :: starEach [b] X.env := by rfl) (hs2 : starEach [b] X.env = (false, eval b X.env) :: starEach [] X.env := by rfl) (hpl : (backTo pos (starEach [b] X.env)).any (·.1) = false := by rfl) :
    EI X ρ (.Tuple elts kk tpos) (.Call (.Name "zip" p) [a, b] [] pos) ρ2 (zipD xs zs) := fun F σ H0 H R r k =>
  WI.of (pi_zipA hg hm (pa_cons pe_we (pa_cons pe_we pa_nil hs2) hs) hs hpl) (two ha hb r fun v w H0' H' s r' p1 p2 => by
    cases p1 with
    | tup hs ha =>
      cases p2 with
      | tup hs2 ha2 => exact ⟨_, _, _, _, rfl, .inr ⟨(hs.mono r'.ex).sq, (hs2.mono r'.ex).sq, k _ _ _ s r' (isIt_zipT hs ha hs2 ha2)⟩⟩)
theorem ei_zipL {p tpos : Pos} {elts : List Expr} {kk : Nat} {xs zs : List D} (hm : X.mg "zip" = none) (ha : EE X ρ a ρ1 (.list xs)) (hb : EE X ρ1 b ρ2 (.list zs)) (hg : Gl X "zip" := by rfl) (hs : starEach [a, b] X.env = (false, eval a X.env) :: starEach [b] X.env := by rfl) (hs2 : starEach [b] X.env = (false, eval b X.env) :: starEach [] X.env := by rfl) (hpl : (backTo pos (starEach [b] X.env)).any (·.1) = false := by rfl) :
    EI X ρ (.Tuple elts kk tpos) (.Call (.Name "zip" p) [a, b] [] pos) ρ2 (zipD xs zs) := fun F σ H0 H R r k =>
  WI.of (pi_zipA hg hm (pa_cons pe_we (pa_cons pe_we pa_nil hs2) hs) hs hpl) (two ha hb r fun v w H0' H' s r' p1 p2 => by
    cases p1 with
    | lst hs ha =>
      cases p2 with
      | lst hs2 ha2 => exact ⟨_, _, _, _, rfl, .inl ⟨SqL.of (r'.ex _ _ hs), SqL.of (r'.ex _ _ hs2), k _ _ _ s r' (isIt_zipL hs ha hs2 ha2)⟩⟩)
end
end DL
set_option Elab.async false
set_option linter.all false
set_option maxRecDepth 100000
set_option maxHeartbeats 1000000
/-! DL4: comprehensions, statements, defs, over data -/
namespace DL
open PySem PySem.Spec PyProof.Rows L2

/-! ### comprehensions -/
abbrev bx (X : Cx) (scope : Scope) (s : Shared) (H : Hp) (C : Addr) (cl : List (Str × Addr)) (fp : List Addr) : Cx := X.blk s H scope (compEnvC scope cl C X.env) fp
def WTs (X : Cx) (ifs : List Expr) : TT := fun σ H Q => ∀ pins s, Inv X pins σ H s → wpAny (model X.prog X.w) X.A (forIn ifs true fun c r => if r = true then do let ok ← isTrue c X.env (eval c X.env); pure (ForInStep.yield ok) else pure (ForInStep.yield r)) (TP X pins σ Q) X.xe s
theorem pts_wts {X : Cx} {ifs : List Expr} : PTs X ifs (WTs X ifs) := ⟨fun pins s _ _ _ I h => h pins s I⟩
theorem WTs.of {X : Cx} {ifs : List Expr} {t : TT} (h : PTs X ifs t) {σ : L2.St} {H : Hp} {Q : Bool → Hp → Prop} (q : t σ H Q) : WTs X ifs σ H Q := fun pins s I => h.run pins s σ H Q I q
def WGB (X : Cx) (scope : Scope) (tg : Expr) : TG := fun v σ H Q => ∀ s H1 C cl fp, WG (bx X scope s H1 C cl fp) tg v σ H Q
def WEB (X : Cx) (scope : Scope) (e : Expr) : TE := fun σ H Q => ∀ s H1 C cl fp, WE (bx X scope s H1 C cl fp) e σ H Q
def WTsB (X : Cx) (scope : Scope) (ifs : List Expr) : TT := fun σ H Q => ∀ s H1 C cl fp, WTs (bx X scope s H1 C cl fp) ifs σ H Q
def WIB (X : Cx) (scope : Scope) (tg iter : Expr) : TI := fun σ H R => ∀ s H1 C cl fp, WI (bx X scope s H1 C cl fp) tg iter σ H R
theorem pg_B {X : Cx} {scope : Scope} {tg : Expr} (s : Shared) (H : Hp) (C : Addr) (cl : List (Str × Addr)) (fp : List Addr) : PG (bx X scope s H C cl fp) tg (WGB X scope tg) := ⟨fun pins s1 _ _ _ u _ I r h => h s H C cl fp pins s1 u I r⟩
theorem pe_B {X : Cx} {scope : Scope} {e : Expr} (s : Shared) (H : Hp) (C : Addr) (cl : List (Str × Addr)) (fp : List Addr) : PE (bx X scope s H C cl fp) e (WEB X scope e) := ⟨fun pins s1 _ _ _ I h => h s H C cl fp pins s1 I⟩
theorem pts_B {X : Cx} {scope : Scope} {ifs : List Expr} (s : Shared) (H : Hp) (C : Addr) (cl : List (Str × Addr)) (fp : List Addr) : PTs (bx X scope s H C cl fp) ifs (WTsB X scope ifs) := ⟨fun pins s1 _ _ _ I h => h s H C cl fp pins s1 I⟩
theorem pi_B {X : Cx} {scope : Scope} {tg iter : Expr} (s : Shared) (H : Hp) (C : Addr) (cl : List (Str × Addr)) (fp : List Addr) : PI (bx X scope s H C cl fp) tg iter (WIB X scope tg iter) := ⟨fun pins s1 _ _ _ I h => h s H C cl fp pins s1 I⟩
/-- the tests of a clause -/
def ETs (X : Cx) (ρ : List Sl) (ifs : List Expr) (ρ' : List Sl) (b : Bool) : Prop := ∀ F σ H0 H Q, Rel F ρ σ H0 H → (∀ H0' H', Same H0 H0' → Rel F ρ' σ H0' H' → Q b H') → WTs X ifs σ H Q
section
variable {X : Cx} {ρ ρ1 ρ2 ρ3 : List Sl} {e a b c tg iter elt tg1 iter1 : Expr} {x y z : D} {pos : Pos} {vs : List Nat} {ys : List D}
theorem ets_nil : ETs X ρ [] ρ true := fun F σ H0 H Q r k => WTs.of pts_nil (k _ _ (Same.refl _) r)
theorem ets_one {t : Bool} (h : ET X ρ c ρ1 t) : ETs X ρ [c] ρ1 t := fun F σ H0 H Q r k => WTs.of (pts_one pt_wt) (h F σ H0 H Q r k)
/-- the block's own slots forgotten -/
def wipeS (ρ : List Sl) : List Nat → List Sl
  | [] => ρ
  | v :: vs => (wipeS ρ vs).set v .any
theorem Rel.wipe {F : Fm} {σ : L2.St} {H0 H : Hp} (r : Rel F ρ σ H0 H) : ∀ vs : List Nat, Rel F (wipeS ρ vs) (wipe σ vs) H0 H
  | [] => r
  | v :: vs => (r.wipe vs).wipe1 v
theorem wipe_get {σ : L2.St} {i : Nat} : ∀ {vs : List Nat}, i ∉ vs → (wipe σ vs)[i]? = σ[i]?
  | [], _ => rfl
  | v :: vs, h => by
    have h1 : v ≠ i := fun z => h (by rw [z]; exact List.mem_cons_self)
    show ((wipe σ vs).set v none)[i]? = σ[i]?
    rw [List.getElem?_set_ne h1]
    exact wipe_get fun z => h (List.mem_cons_of_mem _ z)
theorem wipeS_any {i : Nat} {s : Sl} : ∀ {vs : List Nat}, i ∈ vs → (wipeS ρ vs)[i]? = some s → s = .any
  | [], h, _ => nomatch h
  | v :: vs, h, e => by
    have e : ((wipeS ρ vs).set v .any)[i]? = some s := e
    rcases get_set e with ⟨_, z⟩ | ⟨n, z⟩
    · exact z
    · rcases List.mem_cons.mp h with q | q
      · exact absurd q n
      · exact wipeS_any q z
theorem Rel.unwipe {F : Fm} {σ : L2.St} {H0 H : Hp} {vs : List Nat} (r : Rel F ρ (L2.wipe σ vs) H0 H) (h : ∀ i ∈ vs, ∀ s, ρ[i]? = some s → s = .any) : Rel F ρ σ H0 H where
  nd := r.nd
  ex := r.ex
  fr := r.fr
  al := r.al
  ad := r.ad
  ba := r.ba
  len := by rw [← r.len, wipe_length]
  sl := fun i s hs => by
    by_cases hv : i ∈ vs
    · have e := h i hv s hs
      subst e
      have hl : i < σ.length := by
        rw [← wipe_length σ vs, r.len]; exact (List.getElem?_eq_some_iff.mp hs).1
      exact ⟨σ[i], List.getElem?_eq_getElem hl⟩
    · rw [← wipe_get (σ := σ) hv]; exact r.sl i s hs
  ne := fun i j s s' p h1 h2 o1 o2 e1 e2 => by
    have hi : i ∉ vs := fun z => by have := h i z s h1; subst this; cases o1
    have hj : j ∉ vs := fun z => by have := h j z s' h2; subst this; cases o2
    exact r.ne i j s s' p h1 h2 o1 o2 (by rw [wipe_get hi]; exact e1) (by rw [wipe_get hj]; exact e2)
theorem wipe_wipe (σ : L2.St) : ∀ vs : List Nat, L2.wipe (L2.wipe σ vs) vs = L2.wipe σ vs
  | [] => rfl
  | v :: vs => by
    show (L2.wipe ((L2.wipe σ vs).set v none) vs).set v none = (L2.wipe σ vs).set v none
    have e : L2.wipe ((L2.wipe σ vs).set v none) (v :: vs) = L2.wipe (L2.wipe σ vs) (v :: vs) := wipe_set List.mem_cons_self
    have e' : (L2.wipe ((L2.wipe σ vs).set v none) vs).set v none = (L2.wipe (L2.wipe σ vs) vs).set v none := e
    rw [e', wipe_wipe σ vs]
theorem Rel.toOuter {F : Fm} {σ : L2.St} {H0 H : Hp} {vs : List Nat} (r : Rel F (wipeS ρ vs) (L2.wipe σ vs) H0 H) : Rel F (wipeS ρ vs) σ H0 H := r.unwipe fun i hi s hs => wipeS_any hi hs
/-- the reading of a comprehension, by an invariant over the environment and the list so far -/
theorem lcD0 {scope : Scope} {ifs : List Expr} {own : List (Str × Nat)} {F : Fm} {σ : L2.St} {H0 H : Hp} {Q : VK} (hi : ∀ R, (∀ J H0' H', Same H0 H0' → Rel F ρ1 σ H0' H' → IsIt J H0' ys → R J H') → WI X tg iter σ H R) (I : Nat → List Sl → List D → Prop) (h0 : I 0 (wipeS ρ1 (own.map (·.2))) []) (hlen : ys.length ≤ 100000)
    (ht : ∀ i y ρ acc, ys[i]? = some y → I i ρ acc → ∃ ρ2 b ρ3, ∀ s H C cl fp, GJ (bx X scope s H C cl fp) ρ tg y (own.map (·.2)) ρ2 ∧ ETs (bx X scope s H C cl fp) ρ2 ifs ρ3 b ∧
      if b = true then WD (bx X scope s H C cl fp) ρ3 elt fun ρ4 z => I (i + 1) (wipeS ρ4 (own.map (·.2))) (acc ++ [z]) else I (i + 1) (wipeS ρ3 (own.map (·.2))) acc)
    (hd : ∀ p vs H0' H' ρ' acc, I ys.length ρ' acc → Same H0 H0' → F.He p = none → p ∉ F.dk → Rel (F.pin p (.lst vs)) ρ' σ H0' H' → RpA H0' vs acc → Q (.ref p) H') :
    tLc (WI X tg iter) (WGB X scope tg) (WTsB X scope ifs) (WEB X scope elt) (own.map (·.2)) σ H Q := by
  generalize ew : own.map (·.2) = ws at h0 ht ⊢
  refine hi _ fun J H01 H1 s1 r1 it => ?_
  intro Dn hDn
  have he := r1.he_none hDn
  have hdk := r1.dk_none hDn
  have rp := r1.newPin (o := .lst []) hDn
  refine ⟨fun i m H => m = ys.length - i ∧ i ≤ ys.length ∧ ∃ H0' ρ0 vs acc, Same H01 H0' ∧ I i (wipeS ρ0 ws) acc ∧ acc.length ≤ i ∧ Rel (F.pin Dn (.lst vs)) (wipeS ρ0 ws) (L2.wipe σ ws) H0' H ∧ RpA H0' vs acc,
    ⟨ys.length, by omega, Nat.zero_le _, H01, ρ1, [], [], Same.refl _, h0, Nat.le_refl _, rp.wipe ws, .nil⟩, ?_⟩
  rintro i m Hc ⟨rfl, hle, H0c, ρ0, vc, acc, sc, hI, hacc, rc, ra⟩
  have it' := it.mono sc
  by_cases hlt : i < ys.length
  · have hy : ys[i]? = some ys[i] := List.getElem?_eq_getElem hlt
    obtain ⟨ρ2, b, ρ3, hb⟩ := ht i _ _ _ hy hI
    refine .inr ⟨it'.go i Hc hlt rc.ex, fun H' => i + 1 ≤ ys.length ∧ ∃ H0' ρ0 vs acc, Same H01 H0' ∧ I (i + 1) (wipeS ρ0 ws) acc ∧ acc.length ≤ i + 1 ∧ Rel (F.pin Dn (.lst vs)) (wipeS ρ0 ws) (L2.wipe σ ws) H0' H' ∧ RpA H0' vs acc,
      fun H' ⟨q1, q2⟩ => ⟨ys.length - (i + 1), by omega, rfl, q1, q2⟩, fun v H' yv => ?_⟩
    obtain ⟨H0d, sd, rd, pd⟩ := it'.turn rc yv hy
    intro s2 H2 C2 cl2 fp2
    obtain ⟨hg, -, -⟩ := hb s2 H2 C2 cl2 fp2
    refine hg _ _ H0d H' v _ rd pd fun σ' rg wg => ⟨wg.trans (wipe_wipe σ ws), ?_⟩
    intro s3 H3 C3 cl3 fp3
    obtain ⟨-, hts, -⟩ := hb s3 H3 C3 cl3 fp3
    refine hts _ σ' H0d H' _ rg fun H0e He se re => ?_
    cases b with
    | true =>
      rw [if_pos rfl]
      intro s4 H4 C4 cl4 fp4
      obtain ⟨-, -, hel⟩ := hb s4 H4 C4 cl4 fp4
      rw [if_pos rfl] at hel
      refine hel _ σ' H0e He _ re fun w H0f Hf ρ4 z sf rf pf hz => ?_
      obtain ⟨_, hD, _, _⟩ := rf.unpinned he hdk
      have ra' := ra.mono ((sd.trans se).trans sf)
      refine ⟨vc, hD, Nat.lt_of_le_of_lt (by rw [ra.len]; omega) (show 100001 < sizeLine by decide), by omega, H0f, ρ4, vc ++ [w], acc ++ [z], ((sc.trans sd).trans se).trans sf, hz, by rw [List.length_append]; show acc.length + 1 ≤ i + 1; omega, ?_, ra'.append (.one pf)⟩
      have q := (rf.repin (o' := .lst (vc ++ [w])) he hdk).wipe ws
      rw [wg, wipe_wipe] at q
      exact q
    | false =>
      rw [if_neg Bool.false_ne_true]
      obtain ⟨-, -, hel⟩ := hb s3 H3 C3 cl3 fp3
      rw [if_neg Bool.false_ne_true] at hel
      refine ⟨by omega, H0e, ρ3, vc, acc, (sc.trans sd).trans se, hel, by omega, ?_, ra.mono (sd.trans se)⟩
      have q := re.wipe ws
      rw [wg, wipe_wipe] at q
      exact q
  · have e : i = ys.length := by omega
    subst e
    exact .inl ⟨it'.stop Hc rc.ex, hd Dn vc H0c Hc _ acc hI (s1.trans sc) he hdk rc.toOuter ra⟩
theorem lcD {scope : Scope} {ifs : List Expr} {own : List (Str × Nat)} {F : Fm} {σ : L2.St} {H0 H : Hp} {Q : VK} (hi : EI X ρ tg iter ρ1 ys) (I : Nat → List Sl → List D → Prop) (h0 : I 0 (wipeS ρ1 (own.map (·.2))) []) (hlen : ys.length ≤ 100000)
    (ht : ∀ i y ρ acc, ys[i]? = some y → I i ρ acc → ∃ ρ2 b ρ3, ∀ s H C cl fp, GJ (bx X scope s H C cl fp) ρ tg y (own.map (·.2)) ρ2 ∧ ETs (bx X scope s H C cl fp) ρ2 ifs ρ3 b ∧
      if b = true then WD (bx X scope s H C cl fp) ρ3 elt fun ρ4 z => I (i + 1) (wipeS ρ4 (own.map (·.2))) (acc ++ [z]) else I (i + 1) (wipeS ρ3 (own.map (·.2))) acc)
    (r : Rel F ρ σ H0 H) (hd : ∀ p vs H0' H' ρ' acc, I ys.length ρ' acc → Same H0 H0' → F.He p = none → p ∉ F.dk → Rel (F.pin p (.lst vs)) ρ' σ H0' H' → RpA H0' vs acc → Q (.ref p) H') :
    tLc (WI X tg iter) (WGB X scope tg) (WTsB X scope ifs) (WEB X scope elt) (own.map (·.2)) σ H Q := lcD0 (fun R q => hi F σ H0 H R r q) I h0 hlen ht hd
/-- the same as a value -/
theorem eo_lcI {scope : Scope} {ifs : List Expr} {own : List (Str × Nat)} (hi : EI X ρ tg iter ρ1 ys) (ok : blkC X.N X.env.scope scope own = true) (I : Nat → List Sl → List D → Prop) (h0 : I 0 (wipeS ρ1 (own.map (·.2))) []) (hlen : ys.length ≤ 100000)
    (ht : ∀ i y ρ acc, ys[i]? = some y → I i ρ acc → ∃ ρ2 b ρ3, ∀ s H C cl fp, GJ (bx X scope s H C cl fp) ρ tg y (own.map (·.2)) ρ2 ∧ ETs (bx X scope s H C cl fp) ρ2 ifs ρ3 b ∧
      if b = true then WD (bx X scope s H C cl fp) ρ3 elt fun ρ4 z => I (i + 1) (wipeS ρ4 (own.map (·.2))) (acc ++ [z]) else I (i + 1) (wipeS ρ3 (own.map (·.2))) acc)
    {Qd : List Sl → D → Prop} (hd : ∀ ρ acc, I ys.length ρ acc → Qd ρ (.list acc)) (hN : X.N.Nodup := by assumption) (hc : X.calm = true := by rfl) (hs : ∀ x, foldedSetIterable iter X.env x = pure x := by intro _; rfl) : WD X ρ (.ListComp elt [⟨tg, iter, ifs, 0⟩] scope pos) Qd := fun F σ H0 H Q r k =>
  WE.of (pe_lc hc hN pi_wi (blkOk_by ok) pg_B pts_B pe_B hs) (lcD hi I h0 hlen ht r fun p vs H0' H' ρ' acc hI s he hdk rp ra => by
    obtain ⟨r2, s2⟩ := rp.unpinD he hdk
    exact k _ _ _ _ _ (s.trans s2) r2 (.lst upd_same (ra.mono s2)) (hd _ _ hI))
/-- over data of a kind, the environment as it is -/
theorem lc_inv {α : Type} {scope : Scope} {ifs : List Expr} {own : List (Str × Nat)} (xs : List α) (enc : α → D) (p : α → Bool) (f : α → D) (hw : wipeS ρ1 (own.map (·.2)) = ρ1)
    (ht : ∀ a ∈ xs, ∃ ρ2, ∀ s H C cl fp, GJ (bx X scope s H C cl fp) ρ1 tg (enc a) (own.map (·.2)) ρ2 ∧ wipeS ρ2 (own.map (·.2)) = ρ1 ∧ ETs (bx X scope s H C cl fp) ρ2 ifs ρ2 (p a) ∧ (p a = true → EE (bx X scope s H C cl fp) ρ2 elt ρ2 (f a))) :
    ∀ i y ρ acc, (xs.map enc)[i]? = some y → (ρ = ρ1 ∧ acc = ((xs.take i).filter p).map f) → ∃ ρ2 b ρ3, ∀ s H C cl fp, GJ (bx X scope s H C cl fp) ρ tg y (own.map (·.2)) ρ2 ∧ ETs (bx X scope s H C cl fp) ρ2 ifs ρ3 b ∧
      if b = true then WD (bx X scope s H C cl fp) ρ3 elt fun ρ4 z => (wipeS ρ4 (own.map (·.2)) = ρ1 ∧ acc ++ [z] = ((xs.take (i + 1)).filter p).map f) else (wipeS ρ3 (own.map (·.2)) = ρ1 ∧ acc = ((xs.take (i + 1)).filter p).map f) := by
  rintro i y ρ acc hy ⟨rfl, rfl⟩
  rw [List.getElem?_map] at hy
  cases q : xs[i]? with
  | none => rw [q] at hy; cases hy
  | some a =>
    rw [q] at hy
    have ey : enc a = y := Option.some.inj hy
    subst ey
    have hm : a ∈ xs := List.mem_of_getElem? q
    obtain ⟨ρ2, h⟩ := ht a hm
    have et : xs.take (i + 1) = xs.take i ++ [a] := by rw [List.take_add_one, q]; rfl
    refine ⟨ρ2, p a, ρ2, fun s H C cl fp => ?_⟩
    obtain ⟨g1, g2, g3, g4⟩ := h s H C cl fp
    refine ⟨g1, g3, ?_⟩
    cases hp : p a with
    | true =>
      rw [if_pos rfl]
      refine (g4 hp).wd ⟨g2, ?_⟩
      rw [et, List.filter_append, List.map_append]
      simp [hp]
    | false =>
      rw [if_neg Bool.false_ne_true]
      refine ⟨g2, ?_⟩
      rw [et, List.filter_append, List.map_append]
      simp [hp]
theorem eo_lc {α : Type} {scope : Scope} {ifs : List Expr} {own : List (Str × Nat)} (xs : List α) (enc : α → D) (p : α → Bool) (f : α → D) (hi : EI X ρ tg iter ρ1 (xs.map enc)) (ok : blkC X.N X.env.scope scope own = true) (hw : wipeS ρ1 (own.map (·.2)) = ρ1) (hlen : xs.length ≤ 100000)
    (ht : ∀ a ∈ xs, ∃ ρ2, ∀ s H C cl fp, GJ (bx X scope s H C cl fp) ρ1 tg (enc a) (own.map (·.2)) ρ2 ∧ wipeS ρ2 (own.map (·.2)) = ρ1 ∧ ETs (bx X scope s H C cl fp) ρ2 ifs ρ2 (p a) ∧ (p a = true → EE (bx X scope s H C cl fp) ρ2 elt ρ2 (f a)))
    (hN : X.N.Nodup := by assumption) (hc : X.calm = true := by rfl) (hs : ∀ x, foldedSetIterable iter X.env x = pure x := by intro _; rfl) : EO X ρ (.ListComp elt [⟨tg, iter, ifs, 0⟩] scope pos) ρ1 ((xs.filter p).map f) := fun F σ H0 H Q r k =>
  WE.of (pe_lc hc hN pi_wi (blkOk_by ok) pg_B pts_B pe_B hs) (lcD hi (fun i ρ acc => ρ = ρ1 ∧ acc = ((xs.take i).filter p).map f) ⟨hw, by simp⟩ (by simpa using hlen) (lc_inv xs enc p f hw ht) r fun q vs H0' H' ρ' acc hI s he hdk rp ra => by
    obtain ⟨rfl, rfl⟩ := hI
    rw [List.length_map, List.take_length] at ra
    exact k q vs H0' H' s he hdk rp ra)
end
end DL
set_option Elab.async false
set_option linter.all false
set_option maxRecDepth 100000
set_option maxHeartbeats 1000000
/-! DL5: two-clause comprehensions, statements, defs, over data -/
namespace DL
open PySem PySem.Spec PyProof.Rows L2
section
variable {X : Cx} {ρ ρ1 ρ2 ρ3 : List Sl} {e a b c tg iter elt tg1 iter1 : Expr} {x y z : D} {pos : Pos} {vs : List Nat} {ys : List D}
theorem tYes_of {σ : L2.St} {H : Hp} {Q : Bool → Hp → Prop} (h : Q true H) : tYes σ H Q := h
theorem eo_lc2 {α β : Type} {scope : Scope} {own : List (Str × Nat)} {vs1 : List Nat} (xs : List α) (enc : α → D) (zs : α → List β) (enc2 : α → β → D) (f : α → β → D) (hi : EI X ρ tg iter ρ1 (xs.map enc)) (ok : blkC X.N X.env.scope scope own = true)
    (hw : wipeS ρ1 (own.map (·.2)) = ρ1) (hv : ∀ i ∈ vs1, i ∈ own.map (·.2)) (hlen : (xs.flatMap fun a => (zs a).map (f a)).length ≤ 100000)
    (ht : ∀ a ∈ xs, ∃ (ρ2 : List Sl) (ρ3 : β → List Sl), ∀ s H C cl fp, GJ (bx X scope s H C cl fp) ρ1 tg (enc a) (own.map (·.2)) ρ2 ∧ wipeS ρ2 (own.map (·.2)) = ρ1 ∧ wipeS ρ2 vs1 = ρ2 ∧ EI (bx X scope s H C cl fp) ρ2 tg1 iter1 ρ2 ((zs a).map (enc2 a)) ∧
      ∀ z ∈ zs a, GJ (bx X scope s H C cl fp) ρ2 tg1 (enc2 a z) vs1 (ρ3 z) ∧ wipeS (ρ3 z) vs1 = ρ2 ∧ EE (bx X scope s H C cl fp) (ρ3 z) elt (ρ3 z) (f a z))
    (hN : X.N.Nodup := by assumption) (hc : X.calm = true := by rfl) (hs : ∀ x, foldedSetIterable iter X.env x = pure x := by intro _; rfl) (hs1 : ∀ env x, foldedSetIterable iter1 env x = pure x := by intro _ _; rfl) :
    EO X ρ (.ListComp elt [⟨tg, iter, [], 0⟩, ⟨tg1, iter1, [], 0⟩] scope pos) ρ1 (xs.flatMap fun a => (zs a).map (f a)) := fun F σ H0 H Q r k => by
  refine WE.of (pe_lc2 (vs1 := vs1) hc hN pi_wi (blkOk_by ok) hv pg_B (fun _ _ _ _ _ => pts_nil) pi_B pg_B (fun _ _ _ _ _ => pts_nil) pe_B hs hs1) ?_
  generalize ew : own.map (·.2) = ws at hw ht ⊢
  refine hi F σ H0 H _ r fun J H01 H1 s1 r1 it => ?_
  intro Dn hDn
  have he := r1.he_none hDn
  have hdk := r1.dk_none hDn
  have rp := r1.newPin (o := .lst []) hDn
  have rp0 := rp.wipe ws
  rw [hw] at rp0
  have bound : ∀ i (l : i ≤ xs.length), ((xs.take i).flatMap fun a => (zs a).map (f a)).length ≤ 100000 := fun i l => by
    have e : xs = xs.take i ++ xs.drop i := (List.take_append_drop i xs).symm
    rw [e, List.flatMap_append, List.length_append] at hlen
    omega
  refine ⟨fun i m H => m = xs.length - i ∧ i ≤ xs.length ∧ ∃ H0' vs, Same H01 H0' ∧ Rel (F.pin Dn (.lst vs)) ρ1 (L2.wipe σ ws) H0' H ∧ RpA H0' vs ((xs.take i).flatMap fun a => (zs a).map (f a)),
    ⟨xs.length, by omega, Nat.zero_le _, H01, [], Same.refl _, rp0, by simp; exact .nil⟩, ?_⟩
  rintro i m Hc ⟨rfl, hle, H0c, vc, sc, rc, ra⟩
  have it' := it.mono sc
  by_cases hlt : i < xs.length
  · have hx : xs[i]? = some xs[i] := List.getElem?_eq_getElem hlt
    have hy : (xs.map enc)[i]? = some (enc xs[i]) := by rw [List.getElem?_map, hx]; rfl
    obtain ⟨ρ2, ρ3, hb⟩ := ht xs[i] (List.getElem_mem hlt)
    have et : xs.take (i + 1) = xs.take i ++ [xs[i]] := by rw [List.take_add_one, hx]; rfl
    refine .inr ⟨it'.go i Hc (by simpa using hlt) rc.ex, fun H' => ∃ H0' vs, Same H01 H0' ∧ Rel (F.pin Dn (.lst vs)) ρ1 (L2.wipe σ ws) H0' H' ∧ RpA H0' vs ((xs.take (i + 1)).flatMap fun a => (zs a).map (f a)),
      fun H' q => ⟨xs.length - (i + 1), by omega, rfl, hlt, q⟩, fun v H' yv => ?_⟩
    obtain ⟨H0d, sd, rd, pd⟩ := it'.turn rc yv hy
    intro s2 H2 C2 cl2 fp2
    obtain ⟨hg, hwa, hwb, -, -⟩ := hb s2 H2 C2 cl2 fp2
    refine hg _ _ H0d H' v _ rd pd fun σ' rg wg => ⟨wg.trans (wipe_wipe σ ws), ?_⟩
    refine tYes_of ?_
    rw [if_pos rfl]
    intro s3 H3 C3 cl3 fp3
    obtain ⟨-, -, -, hei, -⟩ := hb s3 H3 C3 cl3 fp3
    refine hei _ σ' H0d H' _ rg fun J1 H0e He se re it1 => ?_
    have rew := re.wipe vs1
    rw [hwb] at rew
    refine ⟨fun j k H => k = (zs xs[i]).length - j ∧ j ≤ (zs xs[i]).length ∧ ∃ H0' vs, Same H0e H0' ∧ Rel (F.pin Dn (.lst vs)) ρ2 (L2.wipe σ' vs1) H0' H ∧ RpA H0' vs (((xs.take i).flatMap fun a => (zs a).map (f a)) ++ ((zs xs[i]).take j).map (f xs[i])),
      ⟨_, rfl, Nat.zero_le _, H0e, vc, Same.refl _, rew, by simpa using ra.mono (sd.trans se)⟩, ?_⟩
    rintro j k' Hj ⟨rfl, hje, H0j, vj, sj, rj, raj⟩
    have it1' := it1.mono sj
    by_cases hjl : j < (zs xs[i]).length
    · have hz : (zs xs[i])[j]? = some (zs xs[i])[j] := List.getElem?_eq_getElem hjl
      have hyz : ((zs xs[i]).map (enc2 xs[i]))[j]? = some (enc2 xs[i] (zs xs[i])[j]) := by rw [List.getElem?_map, hz]; rfl
      have ezt : (zs xs[i]).take (j + 1) = (zs xs[i]).take j ++ [(zs xs[i])[j]] := by rw [List.take_add_one, hz]; rfl
      refine .inr ⟨it1'.go j Hj (by simpa using hjl) rj.ex, fun H' => ∃ H0' vs, Same H0e H0' ∧ Rel (F.pin Dn (.lst vs)) ρ2 (L2.wipe σ' vs1) H0' H' ∧ RpA H0' vs (((xs.take i).flatMap fun a => (zs a).map (f a)) ++ ((zs xs[i]).take (j + 1)).map (f xs[i])),
        fun H' q => ⟨(zs xs[i]).length - (j + 1), by omega, rfl, hjl, q⟩, fun v1 H1' yv1 => ?_⟩
      obtain ⟨H0k, sk, rk, pk⟩ := it1'.turn rj yv1 hyz
      intro s5 H5 C5 cl5 fp5
      obtain ⟨-, -, -, -, hin⟩ := hb s5 H5 C5 cl5 fp5
      obtain ⟨hg1, hwc, -⟩ := hin _ (List.getElem_mem hjl)
      refine hg1 _ _ H0k H1' v1 _ rk pk fun σ3 rg1 wg1 => ⟨wg1.trans (wipe_wipe σ' vs1), ?_⟩
      refine tYes_of ?_
      rw [if_pos rfl]
      intro s6 H6 C6 cl6 fp6
      obtain ⟨-, -, -, -, hin6⟩ := hb s6 H6 C6 cl6 fp6
      obtain ⟨-, -, hel⟩ := hin6 _ (List.getElem_mem hjl)
      refine hel _ σ3 H0k H1' _ rg1 fun w H0f Hf sf rf pf => ?_
      obtain ⟨_, hD, _, _⟩ := rf.unpinned he hdk
      have ra' := raj.mono (sk.trans sf)
      have hb2 := bound (i + 1) hlt
      rw [et, List.flatMap_append, List.length_append] at hb2
      refine ⟨vj, hD, ?_, H0f, vj ++ [w], (sj.trans sk).trans sf, ?_, ?_⟩
      · rw [raj.len, List.length_append, List.length_map, List.length_take]
        simp only [List.flatMap_cons, List.flatMap_nil, List.append_nil, List.length_map] at hb2
        have := Nat.min_le_right j (zs xs[i]).length
        exact Nat.lt_of_le_of_lt (by omega) (show 100000 < sizeLine by decide)
      · have q := (rf.repin (o' := .lst (vj ++ [w])) he hdk).wipe vs1
        rw [wg1, wipe_wipe, hwc] at q
        exact q
      · rw [ezt, List.map_append, ← List.append_assoc]
        exact ra'.append (.one pf)
    · have e : j = (zs xs[i]).length := by omega
      subst e
      refine .inl ⟨by have := it1'.stop Hj rj.ex; simpa using this, H0j, vj, ((sc.trans sd).trans se).trans sj, ?_, ?_⟩
      · have q := rj.wipe ws
        have e1 : L2.wipe (L2.wipe σ' vs1) ws = L2.wipe σ' ws := by
          clear rj q
          have gen : ∀ us : List Nat, (∀ i ∈ us, i ∈ ws) → L2.wipe (L2.wipe σ' us) ws = L2.wipe σ' ws := fun us => by
            induction us with
            | nil => intro _; rfl
            | cons u us ih =>
              intro hu
              show L2.wipe ((L2.wipe σ' us).set u none) ws = _
              rw [wipe_set (hu u List.mem_cons_self)]
              exact ih fun i hi => hu i (List.mem_cons_of_mem _ hi)
          refine gen vs1 fun i hi => ?_
          rw [← ew]; exact hv i hi
        rw [e1, wg, wipe_wipe, hwa] at q
        exact q
      · rw [et, List.flatMap_append]
        simpa using raj
  · have e : i = xs.length := by omega
    subst e
    refine .inl ⟨by have := it'.stop Hc rc.ex; simpa using this, ?_⟩
    rw [List.take_length] at ra
    have q := rc
    rw [← hw] at q
    have q2 := q.toOuter
    rw [hw] at q2
    exact k Dn vc H0c Hc (s1.trans sc) he hdk q2 ra

/-! ### statements -/
/-- a statement from ρ: what follows, what is returned, break, continue -/
def SJ (X : Cx) (ρ : List Sl) (st : Stmt) (nx : List Sl → Prop) (rt : List Sl → D → Prop) (bk ct : List Sl → Prop) : Prop := ∀ F σ H0 H (D : Ends), Rel F ρ σ H0 H →
  (∀ ρ' σ' H0' H', Same H0 H0' → Rel F ρ' σ' H0' H' → nx ρ' → D.nx σ' H') → (∀ v x ρ' σ' H0' H', Same H0 H0' → Rel F ρ' σ' H0' H' → Rp H0' v x → rt ρ' x → D.rt v H') →
  (∀ ρ' σ' H0' H', Same H0 H0' → Rel F ρ' σ' H0' H' → bk ρ' → D.bk σ' H') → (∀ ρ' σ' H0' H', Same H0 H0' → Rel F ρ' σ' H0' H' → ct ρ' → D.ct σ' H') → WS X st D σ H
def SB (X : Cx) (ρ : List Sl) (st : List Stmt) (nx : List Sl → Prop) (rt : List Sl → D → Prop) (bk ct : List Sl → Prop) : Prop := ∀ F σ H0 H (D : Ends), Rel F ρ σ H0 H →
  (∀ ρ' σ' H0' H', Same H0 H0' → Rel F ρ' σ' H0' H' → nx ρ' → D.nx σ' H') → (∀ v x ρ' σ' H0' H', Same H0 H0' → Rel F ρ' σ' H0' H' → Rp H0' v x → rt ρ' x → D.rt v H') →
  (∀ ρ' σ' H0' H', Same H0 H0' → Rel F ρ' σ' H0' H' → bk ρ' → D.bk σ' H') → (∀ ρ' σ' H0' H', Same H0 H0' → Rel F ρ' σ' H0' H' → ct ρ' → D.ct σ' H') → WSs X st D σ H
variable {nx bk ct : List Sl → Prop} {rt : List Sl → D → Prop} {st : Stmt} {rest : List Stmt}
theorem sb_nil (h : nx ρ) : SB X ρ [] nx rt bk ct := fun F σ H0 H D r k1 k2 k3 k4 => WSs.of pss_nil (k1 ρ σ H0 H (Same.refl _) r h)
theorem sb_cons (h : SJ X ρ st (fun ρ1 => SB X ρ1 rest nx rt bk ct) rt bk ct) : SB X ρ (st :: rest) nx rt bk ct := fun F σ H0 H D r k1 k2 k3 k4 =>
  WSs.of (pss_cons ps_ws pss_wss) (h F σ H0 H { D with nx := WSs X rest D } r (fun ρ' σ' H0' H' s r' q => q F σ' H0' H' D r' (fun ρ2 σ2 H02 H2 s2 => k1 ρ2 σ2 H02 H2 (s.trans s2)) (fun v x ρ2 σ2 H02 H2 s2 => k2 v x ρ2 σ2 H02 H2 (s.trans s2)) (fun ρ2 σ2 H02 H2 s2 => k3 ρ2 σ2 H02 H2 (s.trans s2)) (fun ρ2 σ2 H02 H2 s2 => k4 ρ2 σ2 H02 H2 (s.trans s2))) k2 k3 k4)
theorem sb_one (h : SJ X ρ st nx rt bk ct) : SB X ρ [st] nx rt bk ct := fun F σ H0 H D r k1 k2 k3 k4 => WSs.of (pss_one ps_ws) (h F σ H0 H D r k1 k2 k3 k4)
theorem SB.mono {nx' bk' ct' : List Sl → Prop} {rt' : List Sl → D → Prop} {sts : List Stmt} (h : SB X ρ sts nx rt bk ct) (h1 : ∀ ρ, nx ρ → nx' ρ) (h2 : ∀ ρ x, rt ρ x → rt' ρ x) (h3 : ∀ ρ, bk ρ → bk' ρ) (h4 : ∀ ρ, ct ρ → ct' ρ) : SB X ρ sts nx' rt' bk' ct' :=
  fun F σ H0 H D r k1 k2 k3 k4 => h F σ H0 H D r (fun ρ' σ' H0' H' s r' q => k1 ρ' σ' H0' H' s r' (h1 _ q)) (fun v x ρ' σ' H0' H' s r' p q => k2 v x ρ' σ' H0' H' s r' p (h2 _ _ q)) (fun ρ' σ' H0' H' s r' q => k3 ρ' σ' H0' H' s r' (h3 _ q)) (fun ρ' σ' H0' H' s r' q => k4 ρ' σ' H0' H' s r' (h4 _ q))
/-- weaker knowledge ahead -/
theorem SB.forget (i : Nat) {sts : List Stmt} (h : SB X (ρ.set i .any) sts nx rt bk ct) : SB X ρ sts nx rt bk ct := fun F σ H0 H D r k1 k2 k3 k4 => h F σ H0 H D (r.forget i) k1 k2 k3 k4
theorem sj_never (h : False) : SJ X ρ st nx rt bk ct := h.elim
theorem sb_never {sts : List Stmt} (h : False) : SB X ρ sts nx rt bk ct := h.elim
/-- name = e -/
theorem sj_setW (i : Nat) {n : Str} {p' : Pos} (he : WD X ρ e fun ρ1 x => nx (ρ1.set i (.d x))) (hi : X.N[i]? = some n := by rfl) (hN : X.N.Nodup := by assumption) (hx : Loc X.env.scope n := by first | exact Or.inl rfl | exact Or.inr rfl)
    (hs : swapsWith e (some (.Name n p')) pos.line X.env = pure false := by rfl) (hf : X.fn n = true ∨ X.env.scope.names.lookup n = some .local := by first | exact .inl rfl | exact .inr rfl) : SJ X ρ (.Assign [.Name n p'] e pos) nx rt bk ct := fun F σ H0 H D r k1 k2 k3 k4 =>
  WS.of (ps_set hN hi hx pe_we hs hf) (he F σ H0 H _ r fun v H0' H' ρ' x s r' p q => k1 _ _ _ _ s (r'.setD p) q)
theorem sj_set (i : Nat) {n : Str} {p' : Pos} (he : EE X ρ e ρ1 x) (q : nx (ρ1.set i (.d x))) (hi : X.N[i]? = some n := by rfl) (hN : X.N.Nodup := by assumption) (hx : Loc X.env.scope n := by first | exact Or.inl rfl | exact Or.inr rfl)
    (hs : swapsWith e (some (.Name n p')) pos.line X.env = pure false := by rfl) (hf : X.fn n = true ∨ X.env.scope.names.lookup n = some .local := by first | exact .inl rfl | exact .inr rfl) : SJ X ρ (.Assign [.Name n p'] e pos) nx rt bk ct :=
  sj_setW i (he.wd q) hi hN hx hs hf
/-- name = a new list -/
theorem sj_own (i : Nat) {n : Str} {p' : Pos} {xs : List D} (he : EO X ρ e ρ1 xs) (q : nx (ρ1.set i (.own xs))) (hi : X.N[i]? = some n := by rfl) (hN : X.N.Nodup := by assumption) (hx : Loc X.env.scope n := by first | exact Or.inl rfl | exact Or.inr rfl)
    (hs : swapsWith e (some (.Name n p')) pos.line X.env = pure false := by rfl) (hf : X.fn n = true ∨ X.env.scope.names.lookup n = some .local := by first | exact .inl rfl | exact .inr rfl) : SJ X ρ (.Assign [.Name n p'] e pos) nx rt bk ct := fun F σ H0 H D r k1 k2 k3 k4 =>
  WS.of (ps_set hN hi hx pe_we hs hf) (he F σ H0 H _ r fun p vs H0' H' s he hd r' ra => k1 _ _ _ _ s (r'.setOwn he hd ra) q)
/-- name = [..] on one line -/
theorem sj_setLc {α : Type} {scope : Scope} {ifs : List Expr} {own : List (Str × Nat)} {spos p' : Pos} {n : Str} (i : Nat) (xs : List α) (enc : α → D) (p : α → Bool) (f : α → D) (hi : EI X ρ tg iter ρ1 (xs.map enc)) (ok : blkC X.N X.env.scope scope own = true) (hw : wipeS ρ1 (own.map (·.2)) = ρ1) (hlen : xs.length ≤ 100000)
    (ht : ∀ a ∈ xs, ∃ ρ2, ∀ s H C cl fp, GJ (bx X scope s H C cl fp) ρ1 tg (enc a) (own.map (·.2)) ρ2 ∧ wipeS ρ2 (own.map (·.2)) = ρ1 ∧ ETs (bx X scope s H C cl fp) ρ2 ifs ρ2 (p a) ∧ (p a = true → EE (bx X scope s H C cl fp) ρ2 elt ρ2 (f a)))
    (q : nx (ρ1.set i (.d (.list ((xs.filter p).map f))))) (hni : X.N[i]? = some n := by rfl) (hyl : X.env.scope.names.lookup n = some .local := by rfl) (hsw : swapsWith (.ListComp elt [⟨tg, iter, ifs, 0⟩] scope pos) (some (.Name n p')) spos.line X.env = pure true := by exact sw_true rfl rfl rfl (by decide +kernel))
    (hN : X.N.Nodup := by assumption) (hc : X.calm = true := by rfl) (hs : ∀ x, foldedSetIterable iter X.env x = pure x := by intro _; rfl) : SJ X ρ (.Assign [.Name n p'] (.ListComp elt [⟨tg, iter, ifs, 0⟩] scope pos) spos) nx rt bk ct := fun F σ H0 H D r k1 k2 k3 k4 =>
  WS.of (ps_setLc hc hN hni hyl hsw pi_wi (blkOk_by ok) pg_B pts_B pe_B hs) (lcD hi (fun i ρ acc => ρ = ρ1 ∧ acc = ((xs.take i).filter p).map f) ⟨hw, by simp⟩ (by simpa using hlen) (lc_inv xs enc p f hw ht) r fun pp vs H0' H' ρ' acc hI s he hdk rp ra => by
    obtain ⟨rfl, rfl⟩ := hI
    rw [List.length_map, List.take_length] at ra
    obtain ⟨r2, s2⟩ := rp.unpinD he hdk
    exact k1 _ _ _ _ (s.trans s2) (r2.setD (.lst upd_same (ra.mono s2))) q)
theorem sj_retW (he : WD X ρ e rt) : SJ X ρ (.Return (some e) pos) nx rt bk ct := fun F σ H0 H D r k1 k2 k3 k4 =>
  WS.of (ps_ret pe_we) (he F σ H0 H _ r fun v H0' H' ρ' x s r' p q => k2 v x ρ' σ _ _ s r' p q)
theorem sj_ret (he : EE X ρ e ρ1 x) (q : rt ρ1 x) : SJ X ρ (.Return (some e) pos) nx rt bk ct := sj_retW (he.wd q)
theorem sj_if {body orelse : List Stmt} {t : Bool} (hc : ET X ρ c ρ1 t) (h1 : t = true → SB X ρ1 body nx rt bk ct) (h2 : t = false → SB X ρ1 orelse nx rt bk ct) : SJ X ρ (.If c body orelse pos) nx rt bk ct := fun F σ H0 H D r k1 k2 k3 k4 =>
  WS.of (ps_if pt_wt pss_wss pss_wss) (hc F σ H0 H _ r fun H0' H' s r' => by
    cases t with
    | true =>
      rw [if_pos rfl]
      exact h1 rfl F σ H0' H' D r' (fun ρ2 σ2 H02 H2 s2 => k1 ρ2 σ2 H02 H2 (s.trans s2)) (fun v x ρ2 σ2 H02 H2 s2 => k2 v x ρ2 σ2 H02 H2 (s.trans s2)) (fun ρ2 σ2 H02 H2 s2 => k3 ρ2 σ2 H02 H2 (s.trans s2)) (fun ρ2 σ2 H02 H2 s2 => k4 ρ2 σ2 H02 H2 (s.trans s2))
    | false =>
      rw [if_neg Bool.false_ne_true]
      exact h2 rfl F σ H0' H' D r' (fun ρ2 σ2 H02 H2 s2 => k1 ρ2 σ2 H02 H2 (s.trans s2)) (fun v x ρ2 σ2 H02 H2 s2 => k2 v x ρ2 σ2 H02 H2 (s.trans s2)) (fun ρ2 σ2 H02 H2 s2 => k3 ρ2 σ2 H02 H2 (s.trans s2)) (fun ρ2 σ2 H02 H2 s2 => k4 ρ2 σ2 H02 H2 (s.trans s2)))
/-- a test by ways -/
theorem sj_ifW {body orelse : List Stmt} (hc : WTD X ρ c fun ρ1 t => if t = true then SB X ρ1 body nx rt bk ct else SB X ρ1 orelse nx rt bk ct) : SJ X ρ (.If c body orelse pos) nx rt bk ct := fun F σ H0 H D r k1 k2 k3 k4 =>
  WS.of (ps_if pt_wt pss_wss pss_wss) (hc F σ H0 H _ r fun t H0' H' ρ' s r' q => by
    cases t with
    | true =>
      rw [if_pos rfl] at q ⊢
      exact q F σ H0' H' D r' (fun ρ2 σ2 H02 H2 s2 => k1 ρ2 σ2 H02 H2 (s.trans s2)) (fun v x ρ2 σ2 H02 H2 s2 => k2 v x ρ2 σ2 H02 H2 (s.trans s2)) (fun ρ2 σ2 H02 H2 s2 => k3 ρ2 σ2 H02 H2 (s.trans s2)) (fun ρ2 σ2 H02 H2 s2 => k4 ρ2 σ2 H02 H2 (s.trans s2))
    | false =>
      rw [if_neg Bool.false_ne_true] at q ⊢
      exact q F σ H0' H' D r' (fun ρ2 σ2 H02 H2 s2 => k1 ρ2 σ2 H02 H2 (s.trans s2)) (fun v x ρ2 σ2 H02 H2 s2 => k2 v x ρ2 σ2 H02 H2 (s.trans s2)) (fun ρ2 σ2 H02 H2 s2 => k3 ρ2 σ2 H02 H2 (s.trans s2)) (fun ρ2 σ2 H02 H2 s2 => k4 ρ2 σ2 H02 H2 (s.trans s2)))
/-- for target in iter: body; I the invariant by the turn -/
theorem sj_for {body : List Stmt} (hi : EI X ρ tg iter ρ1 ys) (I : Nat → List Sl → Prop) (h0 : I 0 ρ1) (hs : ∀ i y ρ, ys[i]? = some y → I i ρ → ∃ vs ρ2, GJ X ρ tg y vs ρ2 ∧ SB X ρ2 body (I (i + 1)) rt nx (I (i + 1))) (hd : ∀ ρ, I ys.length ρ → nx ρ)
    (hp : PassesOwn (model X.prog X.w) X.A X.env X.xe := by exact PassesOwn.never) (hc : X.calm = true := by rfl) (hf : ∀ x, foldedSetIterable iter X.env x = pure x := by intro _; rfl) : SJ X ρ (.For tg iter body [] pos) nx rt bk ct := fun F σ H0 H D r k1 k2 k3 k4 => by
  refine WS.of (ps_for hp hc pi_wi pg_wg pss_wss hf) (hi F σ H0 H _ r fun J H01 H1 s1 r1 it => ?_)
  refine ⟨fun i m σ H => m = ys.length - i ∧ i ≤ ys.length ∧ ∃ H0' ρ', Same H01 H0' ∧ Rel F ρ' σ H0' H ∧ I i ρ', ⟨_, rfl, Nat.zero_le _, H01, ρ1, Same.refl _, r1, h0⟩, ?_⟩
  rintro i m σc Hc ⟨rfl, hle, H0c, ρc, sc, rc, hI⟩
  have it' := it.mono sc
  by_cases hlt : i < ys.length
  · have hy : ys[i]? = some ys[i] := List.getElem?_eq_getElem hlt
    obtain ⟨vs, ρ2, hg, hb⟩ := hs i _ _ hy hI
    refine .inr ⟨it'.go i Hc hlt rc.ex, fun σ' H' => ∃ H0' ρ', Same H01 H0' ∧ Rel F ρ' σ' H0' H' ∧ I (i + 1) ρ', fun σ' H' q => ⟨ys.length - (i + 1), by omega, rfl, hlt, q⟩, fun v H' yv => ?_⟩
    obtain ⟨H0d, sd, rd, pd⟩ := it'.turn rc yv hy
    refine hg F σc H0d H' v _ rd pd fun σ' rg _ => ?_
    refine hb F σ' H0d H' _ rg (fun ρ2 σ2 H02 H2 s2 r2 q => ⟨H02, ρ2, (sc.trans sd).trans s2, r2, q⟩) (fun v x ρ2 σ2 H02 H2 s2 r2 p q => k2 v x ρ2 σ2 H02 H2 (((s1.trans sc).trans sd).trans s2) r2 p q)
      (fun ρ2 σ2 H02 H2 s2 r2 q => k1 ρ2 σ2 H02 H2 (((s1.trans sc).trans sd).trans s2) r2 q) (fun ρ2 σ2 H02 H2 s2 r2 q => ⟨H02, ρ2, (sc.trans sd).trans s2, r2, q⟩)
  · have e : i = ys.length := by omega
    subst e
    exact .inl ⟨it'.stop Hc rc.ex, k1 ρc σc H0c Hc (s1.trans sc) rc (hd _ hI)⟩
/-- x.append(e), x an own list -/
theorem sj_append (i : Nat) {n : Str} {p1 p2 p3 : Pos} {ρ0 : List Sl} (he : WD X ρ e fun ρ1 y => ∃ xs, ρ1[i]? = some (.own xs) ∧ xs.length ≤ 100000 ∧ nx (ρ1.set i (.own (xs ++ [y])))) (hr : ∃ xs, ρ[i]? = some (.own xs)) (hN : X.N[i]? = some n := by rfl)
    (hv : Vis X.env.scope n := by first | exact Or.inl rfl | exact Or.inr (Or.inl rfl) | exact Or.inr (Or.inr rfl)) (hd : (n == ("__debug__" : Str)) = false := by decide) (hcd : (n == ("__classdict__" : Str)) = false := by decide)
    (hs : swapsWith (.Call (.Attribute (.Name n p1) "append" p2) [e] [] p3) none pos.line X.env = pure false := by rfl)
    (hbase : attributeBase (.Name n p1) "append" X.env (eval (.Name n p1) X.env) = eval (.Name n p1) X.env := by rfl)
    (hfew : ((backTo p3 (starEach (e :: []) X.env)).all (fun x => !x.1) && (backToKw p3 (keywordEach [] X.env)).all (fun x => x.1.isSome)
      && decide ((e :: ([] : List Expr)).length + ([] : List Keyword).length + (if ([] : List Keyword).isEmpty then 0 else 1) < 30)) = true := by rfl)
    (hline : (p2.endLine == p3.line) = true := by rfl) (hst : starEach (e :: []) X.env = (false, eval e X.env) :: starEach [] X.env := by rfl) (hplain : (backTo p3 (starEach [] X.env)).any (·.1) = false := by rfl) :
    SJ X ρ (.Expr (.Call (.Attribute (.Name n p1) "append" p2) [e] [] p3) pos) nx rt bk ct := fun F σ H0 H D r k1 k2 k3 k4 => by
  obtain ⟨xs0, hr⟩ := hr
  obtain ⟨p, vs, e1, e2, e3, e4, e5, e6⟩ := r.sl i _ hr
  refine WS.of (ps_expr (pe_bm PySem.F.plainAttrs_list PySem.F.slot_list_append PySem.F.type_list_append mt_append (pe_var hN hv hd hcd) (pa_cons pe_we pa_nil hst) hbase hfew hline hst hplain) hs) ?_
  refine ⟨.ref p, e1, .inl ⟨rfl, _, SqL.of e5⟩, he F σ H0 H _ r fun v H0' H' ρ' y s r' py q => ?_⟩
  obtain ⟨xs, hx, hl, q⟩ := q
  obtain ⟨p', vs', f1, f2, f3, f4, f5, f6⟩ := r'.sl i _ hx
  rw [e1] at f1; cases f1
  refine ⟨p, vs', v, rfl, rfl, f5, by rw [f6.len]; exact Nat.lt_of_le_of_lt hl (show 100000 < sizeLine by decide), ?_⟩
  exact k1 _ σ _ _ s (r'.mutate (s := .own (xs ++ [y])) hx rfl e1 rfl f2 f3 f4 ⟨p, _, rfl, f2, f3, f4, upd_same, f6.append (.one py)⟩) q
end
end DL
set_option Elab.async false
set_option linter.all false
set_option maxRecDepth 100000
set_option maxHeartbeats 1000000
/-! DL6: defs and their calls; built-ins; more statements, over data -/
namespace DL
open PySem PySem.Spec PyProof.Rows L2
/-! ### promises -/
/-- called on ds a def gives x back; the heap grows -/
def spD (ds : List D) (x : D) : Sp := fun vs H Q _ => ∃ H0, Same H0 H ∧ RpA H0 vs ds ∧ ∀ v H0' H', Same H0 H0' → (∀ b o, H b = some o → H0' b = H0 b) → Same H H' → Same H0' H' → Rp H0' v x → Q v H'
/-- .. with the deck as its first argument -/
def spK (N : Nat) (ds : List D) (post : D → Nat → Prop) : Sp := fun vs H Q _ => ∃ H0 a p q vs', vs = .ref a :: vs' ∧ Same H0 H ∧ RpA H0 vs' ds ∧ H0 a = none ∧ H0 p = none ∧ H0 q = none ∧ a ≠ p ∧ a ≠ q ∧ p ≠ q ∧ DeckOk H a p q (dkN N) ∧
  ∀ v H0' H' x N', post x N' → Same H0 H0' → (∀ b o, H b = some o → H0' b = H0 b) → (∀ b o, H b = some o → b ∉ [a, p, q] → H' b = some o) → (∀ b, H b ≠ none → H' b ≠ none) → Same H0' H' → DeckOk H' a p q (dkN N') → Rp H0' v x → Q v H'
structure DFn (P : Program) (w : World) (K : PySem.W.Frag) (mg : Str → Option Value) (base : Heap) (k : Nat) (n : Str) (ds : List D) (x : D) : Prop where
  ex : ∃ f fd ps, FnOk P w K mg base CX0 k f fd ps (spD ds x) ∧ mg n = some (.ref f) ∧ PySem.W.keepIn K (.ref f) = true ∧ Binds K fd ps []
structure KFn (P : Program) (w : World) (K : PySem.W.Frag) (mg : Str → Option Value) (base : Heap) (k : Nat) (n : Str) (N : Nat) (ds : List D) (post : D → Nat → Prop) : Prop where
  ex : ∃ f fd ps, FnOk P w K mg base CX0 k f fd ps (spK N ds post) ∧ mg n = some (.ref f) ∧ PySem.W.keepIn K (.ref f) = true ∧ Binds K fd ps []
/-- a def of the text -/
structure At (K : PySem.W.Frag) (mg : Str → Option Value) (n : Str) (st : Stmt) (ps : List Str) : Prop where
  ex : ∃ f fd, Fun K n n st f fd ∧ mg n = some (.ref f) ∧ Binds K fd ps []
section
variable {P : Program} {w : World} {K : PySem.W.Frag} {mg : Str → Option Value} {base : Heap}
theorem DFn.mono {j k : Nat} {n : Str} {ds : List D} {x : D} (h : DFn P w K mg base j n ds x) (l : j ≤ k) : DFn P w K mg base k n ds x := by
  obtain ⟨f, fd, ps, F, r⟩ := h.ex
  exact ⟨f, fd, ps, F.mono l, r⟩
theorem KFn.mono {j k : Nat} {n : Str} {N : Nat} {ds : List D} {post : D → Nat → Prop} (h : KFn P w K mg base j n N ds post) (l : j ≤ k) : KFn P w K mg base k n N ds post := by
  obtain ⟨f, fd, ps, F, r⟩ := h.ex
  exact ⟨f, fd, ps, F.mono l, r⟩
theorem DFn.to {j : Nat} {n : Str} {ds ds' : List D} {x x' : D} (h : DFn P w K mg base j n ds x) (e : ds = ds') (e' : x = x') : DFn P w K mg base j n ds' x' := e ▸ e' ▸ h
def startS (N : List Str) (ds : List D) : List Sl := ds.map .d ++ List.replicate (N.length - ds.length) .any
theorem rpa_start {H : Hp} {F : Fm} {H1 : Hp} : ∀ {ds : List D} {vs : List V}, RpA H vs ds → ∀ (i : Nat) (s : Sl), (ds.map Sl.d)[i]? = some s → SlOk F H H1 s (vs.map some)[i]? := fun {ds vs} h i s hs => by
  rw [List.getElem?_map] at hs
  cases q : ds[i]? with
  | none => rw [q] at hs; cases hs
  | some d =>
    rw [q] at hs
    have e : Sl.d d = s := Option.some.inj hs
    subst e
    obtain ⟨v, e1, e2⟩ := h.get q
    exact ⟨v, by rw [List.getElem?_map, e1]; rfl, e2⟩
/-- a def's promise by its body -/
theorem fnD0 {n : Str} {st : Stmt} {N ps : List Str} {k : Nat} {f0 : Addr} {fd : FuncData} (F : Fun K n n st f0 fd) (S : FnScope N ps (defScope st)) (ds : List D) (x : D) (hl : ds.length = ps.length) (hN : ps.length ≤ N.length)
    (body : ∀ (f : Addr) (cdv : Value) (A : Around) (outer : List Env) (s : Shared) (H : Hp) (E : XK), Room k (cxOf CX0 P w K mg base N n (defScope st) f cdv A outer s H E).nox.A →
      SB (cxOf CX0 P w K mg base N n (defScope st) f cdv A outer s H E).nox (startS N ds) (defBody st) (fun _ => x = .none) (fun _ y => y = x) (fun _ => False) (fun _ => False)) : FnOk P w K mg base CX0 (k + 1) f0 fd ps (spD ds x) := by
  refine F.ok S (fun vs H Q E h => ?_) (fun cdv A outer s H vs Q E hr h => ?_)
  · obtain ⟨H0, _, ra, _⟩ := h
    rw [ra.len, hl]
  · obtain ⟨H0, s0, ra, q⟩ := h
    refine ⟨_, pss_wss, ?_⟩
    have hlen : vs.length = ds.length := ra.len
    refine body f0 cdv A outer s H E hr ⟨H0, H, []⟩ (start N vs) H0 H _ ⟨s0, fun b o h _ => h, fun b h => h, (fun b h => nomatch h), fun b o _ => rfl, ?_, fun i sl hs => ?_, fun i j s1 s2 p h1 h2 o1 o2 e1 e2 => ?_, ?_⟩ ?_ ?_ ?_ ?_
    · show (vs.map some ++ List.replicate (N.length - vs.length) none).length = (ds.map Sl.d ++ List.replicate (N.length - ds.length) Sl.any).length
      simp [hlen]
    · by_cases hi : i < ds.length
      · have e1 : (startS N ds)[i]? = (ds.map Sl.d)[i]? := List.getElem?_append_left (by simpa using hi)
        have e2 : (start N vs)[i]? = (vs.map some)[i]? := List.getElem?_append_left (by simpa [hlen] using hi)
        rw [e1] at hs
        rw [e2]
        exact rpa_start ra i sl hs
      · have e1 : (startS N ds)[i]? = (List.replicate (N.length - ds.length) Sl.any)[i - ds.length]? := by
          unfold startS
          rw [List.getElem?_append_right (by simpa using hi)]
          simp
        rw [e1] at hs
        have hs' := List.mem_of_getElem? hs
        have e : sl = .any := (List.mem_replicate.mp hs').2
        have hi2 := (List.getElem?_eq_some_iff.mp hs).1
        subst e
        have hi3 : i < (start N vs).length := by
          show i < (vs.map some ++ List.replicate (N.length - vs.length) none).length
          simp at hi2
          simp [hlen]; omega
        exact ⟨(start N vs)[i], List.getElem?_eq_getElem hi3⟩
    · have hno : ∀ (i : Nat) (s : Sl), (startS N ds)[i]? = some s → s.isOwn = false := fun i s h => by
        have hm := List.mem_of_getElem? h
        rcases List.mem_append.mp hm with z | z
        · obtain ⟨d, _, e⟩ := List.mem_map.mp z; rw [← e]; rfl
        · rw [(List.mem_replicate.mp z).2]; rfl
      rw [hno i s1 h1] at o1; cases o1
    · intro i j N1 M1 h1 _
      have hm := List.mem_of_getElem? h1
      rcases List.mem_append.mp hm with z | z
      · obtain ⟨d, _, e⟩ := List.mem_map.mp z; cases e
      · cases (List.mem_replicate.mp z).2
    · intro ρ' σ' H0' H' sm r' e
      exact q .non H0' H' sm (fun b o h => r'.ba b o h) (fun b o h => r'.fr b o h (fun z => nomatch z)) r'.ex (e ▸ .non)
    · intro v y ρ' σ' H0' H' sm r' p e
      exact q v H0' H' sm (fun b o h => r'.ba b o h) (fun b o h => r'.fr b o h (fun z => nomatch z)) r'.ex (e ▸ p)
    · intro _ _ _ _ _ _ z; exact z
    · intro _ _ _ _ _ _ z; exact z
theorem fnD {n : Str} {st : Stmt} {N ps : List Str} {k : Nat} (A0 : At K mg n st ps) (S : FnScope N ps (defScope st)) (ds : List D) (x : D) (hl : ds.length = ps.length) (hN : ps.length ≤ N.length)
    (body : ∀ (f : Addr) (cdv : Value) (A : Around) (outer : List Env) (s : Shared) (H : Hp) (E : XK), Room k (cxOf CX0 P w K mg base N n (defScope st) f cdv A outer s H E).nox.A →
      SB (cxOf CX0 P w K mg base N n (defScope st) f cdv A outer s H E).nox (startS N ds) (defBody st) (fun _ => x = .none) (fun _ y => y = x) (fun _ => False) (fun _ => False)) : DFn P w K mg base (k + 1) n ds x := by
  obtain ⟨f, fd, F, hm, hb⟩ := A0.ex
  exact ⟨f, fd, ps, fnD0 F S ds x hl hN body, hm, F.kp, hb⟩
/-- a family of promises -/
structure DFam (P : Program) (w : World) (K : PySem.W.Frag) (mg : Str → Option Value) (base : Heap) (k : Nat) (n : Str) (R : List D → D → Prop) : Prop where
  ex : ∃ f fd ps, FnOk P w K mg base CX0 k f fd ps (fun vs H Q E => ∃ ds x, R ds x ∧ spD ds x vs H Q E) ∧ mg n = some (.ref f) ∧ PySem.W.keepIn K (.ref f) = true ∧ Binds K fd ps []
theorem fnDF {n : Str} {st : Stmt} {N ps : List Str} {k : Nat} (A0 : At K mg n st ps) (S : FnScope N ps (defScope st)) (R : List D → D → Prop) (hl : ∀ ds x, R ds x → ds.length = ps.length) (hN : ps.length ≤ N.length)
    (body : ∀ ds x, R ds x → ∀ (f : Addr) (cdv : Value) (A : Around) (outer : List Env) (s : Shared) (H : Hp) (E : XK), Room k (cxOf CX0 P w K mg base N n (defScope st) f cdv A outer s H E).nox.A →
      SB (cxOf CX0 P w K mg base N n (defScope st) f cdv A outer s H E).nox (startS N ds) (defBody st) (fun _ => x = .none) (fun _ y => y = x) (fun _ => False) (fun _ => False)) : DFam P w K mg base (k + 1) n R := by
  obtain ⟨f, fd, F, hm, hb⟩ := A0.ex
  exact ⟨f, fd, ps, ⟨fun vs H Q E ⟨ds, x, hR, h⟩ => (fnD0 F S ds x (hl ds x hR) hN (body ds x hR)).len vs H Q E h, fun A outer s H args us vs Q E hr he hb hv ⟨ds, x, hR, h⟩ => (fnD0 F S ds x (hl ds x hR) hN (body ds x hR)).run A outer s H args us vs Q E hr he hb hv h⟩, hm, F.kp, hb⟩
theorem DFam.fn {j : Nat} {n : Str} {R : List D → D → Prop} {ds : List D} {x : D} (h : DFam P w K mg base j n R) (r : R ds x) : DFn P w K mg base j n ds x := by
  obtain ⟨f, fd, ps, F, rest⟩ := h.ex
  exact ⟨f, fd, ps, F.imp fun vs H Q E q => ⟨ds, x, r, q⟩, rest⟩
/-- a def with the deck -/
theorem fnK0 {n : Str} {st : Stmt} {N ps : List Str} {k : Nat} {f0 : Addr} {fd : FuncData} (F : Fun K n n st f0 fd) (S : FnScope N ps (defScope st)) (M : Nat) (ds : List D) (post : D → Nat → Prop) (hl : ds.length + 1 = ps.length) (hN : ps.length ≤ N.length)
    (body : ∀ (f : Addr) (cdv : Value) (A : Around) (outer : List Env) (s : Shared) (H : Hp) (E : XK), Room k (cxOf CX0 P w K mg base N n (defScope st) f cdv A outer s H E).nox.A →
      SB (cxOf CX0 P w K mg base N n (defScope st) f cdv A outer s H E).nox (.dk (dkN M) :: (ds.map .d ++ List.replicate (N.length - (ds.length + 1)) .any)) (defBody st) (fun _ => False) (fun ρ y => ∃ M', ρ[0]? = some (.dk (dkN M')) ∧ post y M') (fun _ => False) (fun _ => False)) : FnOk P w K mg base CX0 (k + 1) f0 fd ps (spK M ds post) := by
  refine F.ok S (fun vs H Q E h => ?_) (fun cdv A outer s H vs Q E hr h => ?_)
  · obtain ⟨H0, a, p, q, vs', rfl, _, ra, _⟩ := h
    rw [List.length_cons, ra.len, hl]
  · obtain ⟨H0, a, p, q, vs', rfl, s0, ra, ha, hp, hq, n1, n2, n3, dk, q0⟩ := h
    refine ⟨_, pss_wss, ?_⟩
    have hlen : vs'.length = ds.length := ra.len
    obtain ⟨bg, cl, j, d1, d2, d3, d4⟩ := id dk
    refine body f0 cdv A outer s H E hr ⟨H0, H, [a, p, q]⟩ (start N (.ref a :: vs')) H0 H _ ⟨s0, fun b o h _ => h, fun b h => h, fun b h => ?_, fun b o _ => rfl, ?_, fun i sl hs => ?_, fun i j s1 s2 p h1 h2 o1 o2 e1 e2 => ?_, ?_⟩ ?_ ?_ ?_ ?_
    · rcases List.mem_cons.mp h with e | h
      · rw [e, d1]; simp
      · rcases List.mem_cons.mp h with e | h
        · rw [e, d2]; simp
        · rw [List.mem_singleton.mp h, d3]; simp
    · show ((V.ref a :: vs').map some ++ List.replicate (N.length - (V.ref a :: vs').length) none).length = _
      simp [hlen]
    · cases i with
      | zero =>
        have e : Sl.dk (dkN M) = sl := Option.some.inj hs
        subst e
        exact ⟨a, p, q, rfl, rfl, ha, hp, hq, n1, n2, n3, dk⟩
      | succ i =>
        have hs : (ds.map Sl.d ++ List.replicate (N.length - (ds.length + 1)) Sl.any)[i]? = some sl := hs
        have ev : (start N (.ref a :: vs'))[i + 1]? = (vs'.map some ++ List.replicate (N.length - (vs'.length + 1)) none)[i]? := rfl
        rw [ev]
        by_cases hi : i < ds.length
        · rw [List.getElem?_append_left (by simpa using hi)] at hs
          rw [List.getElem?_append_left (by simpa [hlen] using hi)]
          exact rpa_start ra i sl hs
        · rw [List.getElem?_append_right (by simpa using hi)] at hs
          have hs' := List.mem_of_getElem? hs
          have e : sl = .any := (List.mem_replicate.mp hs').2
          have hi2 := (List.getElem?_eq_some_iff.mp hs).1
          subst e
          have hi3 : i < (vs'.map some ++ List.replicate (N.length - (vs'.length + 1)) (none : Option V)).length := by
            simp at hi2
            simp [hlen]; omega
          exact ⟨_, List.getElem?_eq_getElem hi3⟩
    · have hno : ∀ (i : Nat) (s : Sl), (Sl.dk (dkN M) :: (ds.map Sl.d ++ List.replicate (N.length - (ds.length + 1)) Sl.any))[i]? = some s → s.isOwn = false := fun i s h => by
        have hm := List.mem_of_getElem? h
        rcases List.mem_cons.mp hm with z | hm
        · rw [z]; rfl
        · rcases List.mem_append.mp hm with z | z
          · obtain ⟨d, _, e⟩ := List.mem_map.mp z; rw [← e]; rfl
          · rw [(List.mem_replicate.mp z).2]; rfl
      rw [hno i s1 h1] at o1; cases o1
    · have h0 : ∀ (i : Nat) (N1 : Dkp), (Sl.dk (dkN M) :: (ds.map Sl.d ++ List.replicate (N.length - (ds.length + 1)) Sl.any))[i]? = some (.dk N1) → i = 0 := fun i N1 h => by
        cases i with
        | zero => rfl
        | succ i =>
          have h : (ds.map Sl.d ++ List.replicate (N.length - (ds.length + 1)) Sl.any)[i]? = some (.dk N1) := h
          have hm := List.mem_of_getElem? h
          rcases List.mem_append.mp hm with z | z
          · obtain ⟨d, _, e⟩ := List.mem_map.mp z; cases e
          · cases (List.mem_replicate.mp z).2
      intro i j N1 M1 h1 h2
      rw [h0 i N1 h1, h0 j M1 h2]
    · intro _ _ _ _ _ _ z; exact z.elim
    · intro v y ρ' σ' H0' H' sm r' p0 ⟨M', e, hpost⟩
      obtain ⟨a', p', q', e1, e2, _, _, _, _, _, _, e9⟩ := r'.sl 0 _ e
      obtain ⟨rfl, rfl, rfl⟩ : a = a' ∧ p = p' ∧ q = q' := by
        have e1' : [a, p, q] = [a', p', q'] := e1
        simpa using e1'
      exact q0 v H0' H' y M' hpost sm (fun b o h => r'.ba b o h) (fun b o h n => r'.fr b o h n) (fun b h => r'.al b h) r'.ex e9 p0
    · intro _ _ _ _ _ _ z; exact z
    · intro _ _ _ _ _ _ z; exact z
theorem fnK {n : Str} {st : Stmt} {N ps : List Str} {k : Nat} (A0 : At K mg n st ps) (S : FnScope N ps (defScope st)) (M : Nat) (ds : List D) (post : D → Nat → Prop) (hl : ds.length + 1 = ps.length) (hN : ps.length ≤ N.length)
    (body : ∀ (f : Addr) (cdv : Value) (A : Around) (outer : List Env) (s : Shared) (H : Hp) (E : XK), Room k (cxOf CX0 P w K mg base N n (defScope st) f cdv A outer s H E).nox.A →
      SB (cxOf CX0 P w K mg base N n (defScope st) f cdv A outer s H E).nox (.dk (dkN M) :: (ds.map .d ++ List.replicate (N.length - (ds.length + 1)) .any)) (defBody st) (fun _ => False) (fun ρ y => ∃ M', ρ[0]? = some (.dk (dkN M')) ∧ post y M') (fun _ => False) (fun _ => False)) : KFn P w K mg base (k + 1) n M ds post := by
  obtain ⟨f, fd, F, hm, hb⟩ := A0.ex
  exact ⟨f, fd, ps, fnK0 F S M ds post hl hN body, hm, F.kp, hb⟩
/-- .. with the deck: N the counter's bound, what it may give by the arguments -/
structure KFam (P : Program) (w : World) (K : PySem.W.Frag) (mg : Str → Option Value) (base : Heap) (k : Nat) (n : Str) (R : Nat → List D → (D → Nat → Prop) → Prop) : Prop where
  ex : ∃ f fd ps, FnOk P w K mg base CX0 k f fd ps (fun vs H Q E => ∃ N ds post, R N ds post ∧ spK N ds post vs H Q E) ∧ mg n = some (.ref f) ∧ PySem.W.keepIn K (.ref f) = true ∧ Binds K fd ps []
theorem fnKF {n : Str} {st : Stmt} {N ps : List Str} {k : Nat} (A0 : At K mg n st ps) (S : FnScope N ps (defScope st)) (R : Nat → List D → (D → Nat → Prop) → Prop) (hl : ∀ M ds post, R M ds post → ds.length + 1 = ps.length) (hN : ps.length ≤ N.length)
    (body : ∀ M ds post, R M ds post → ∀ (f : Addr) (cdv : Value) (A : Around) (outer : List Env) (s : Shared) (H : Hp) (E : XK), Room k (cxOf CX0 P w K mg base N n (defScope st) f cdv A outer s H E).nox.A →
      SB (cxOf CX0 P w K mg base N n (defScope st) f cdv A outer s H E).nox (.dk (dkN M) :: (ds.map .d ++ List.replicate (N.length - (ds.length + 1)) .any)) (defBody st) (fun _ => False) (fun ρ y => ∃ M', ρ[0]? = some (.dk (dkN M')) ∧ post y M') (fun _ => False) (fun _ => False)) : KFam P w K mg base (k + 1) n R := by
  obtain ⟨f, fd, F, hm, hb⟩ := A0.ex
  exact ⟨f, fd, ps, ⟨fun vs H Q E ⟨M, ds, post, hR, h⟩ => (fnK0 F S M ds post (hl _ _ _ hR) hN (body _ _ _ hR)).len vs H Q E h, fun A outer s H args us vs Q E hr he hb hv ⟨M, ds, post, hR, h⟩ => (fnK0 F S M ds post (hl _ _ _ hR) hN (body _ _ _ hR)).run A outer s H args us vs Q E hr he hb hv h⟩, hm, F.kp, hb⟩
theorem KFam.fn {j : Nat} {n : Str} {R : Nat → List D → (D → Nat → Prop) → Prop} {N : Nat} {ds : List D} {post : D → Nat → Prop} (h : KFam P w K mg base j n R) (r : R N ds post) : KFn P w K mg base j n N ds post := by
  obtain ⟨f, fd, ps, F, rest⟩ := h.ex
  exact ⟨f, fd, ps, F.imp fun vs H Q E q => ⟨N, ds, post, r, q⟩, rest⟩
end
section
variable {X : Cx} {ρ ρ1 ρ2 ρ3 : List Sl} {e a b c tg iter elt tg1 iter1 : Expr} {es : List Expr} {x y z : D} {pos : Pos} {vs : List Nat} {ys : List D} {k : Nat}
/-- what a pure call does to both heaps -/
theorem Rel.called {F : Fm} {σ : L2.St} {H0 H H0' H' : Hp} (r : Rel F ρ σ H0 H) (h1 : Same H0 H0') (h2 : ∀ b o, H b = some o → H0' b = H0 b) (h3 : Same H H') (h4 : Same H0' H') : Rel F ρ σ H0' H' := r.grow h1 h3 h2 h4
theorem ee_call {n : Str} {p : Pos} {ds : List D} {j : Nat} (F0 : DFn X.prog X.w X.K X.mg X.base j n ds x) (hr : Room k X.A) (ha : EA X ρ (e :: es) ρ1 ds) (hj : j ≤ k := by decide) (hg : Gl X n := by rfl) (hdb : (n == ("__debug__" : Str)) = false := by decide)
    (he : starEach (e :: es) X.env = (false, eval e X.env) :: starEach es X.env := by rfl) (hpl : (backTo pos (starEach es X.env)).any (·.1) = false := by rfl) : EE X ρ (.Call (.Name n p) (e :: es) [] pos) ρ1 x := fun F σ H0 H Q r kk => by
  obtain ⟨f, fd, ps, F1, hm, hk, hb⟩ := F0.ex
  refine WE.of (pe_call F1 (hr.mono hj) hg hm hk hb .nil pass0 pa_wa hdb he hpl) (ha F σ H0 H _ r fun us H01 H1 s r1 ra => ?_)
  refine ⟨H01, r1.ex, by rw [List.append_nil]; exact ra, fun v H0' H' h1 h2 h3 h4 p => kk v H0' H' (s.trans h1) (r1.called h1 h2 h3 h4) p⟩
/-- what a call with the deck does to both heaps -/
theorem Rel.drawn {F : Fm} {σ : L2.St} {H01 H1 H0' H' : Hp} (r1 : Rel F ρ1 σ H01 H1) {i : Nat} {P : Dkp} {N' : Nat} (hi1 : ρ1[i]? = some (.dk P)) {a pp qq : Addr} (e1 : F.dk = [a, pp, qq]) (e2 : σ[i]? = some (some (.ref a))) (e3 : H01 a = none) (e4 : H01 pp = none) (e5 : H01 qq = none) (e6 : a ≠ pp) (e7 : a ≠ qq) (e8 : pp ≠ qq) (e9 : DeckOk H1 a pp qq P)
    (h1 : Same H01 H0') (h2 : ∀ b o, H1 b = some o → H0' b = H01 b) (h3 : ∀ b o, H1 b = some o → b ∉ [a, pp, qq] → H' b = some o) (h4 : ∀ b, H1 b ≠ none → H' b ≠ none) (h5 : Same H0' H') (dk : DeckOk H' a pp qq (dkN N')) : Rel F (ρ1.set i (.dk (dkN N'))) σ H0' H' := by
  have hdk : ∀ b, b ∉ F.dk → b ∉ [a, pp, qq] := fun b hb => by rw [← e1]; exact hb
  refine ⟨h5, fun b o hb nb => h3 b o (r1.fr b o hb nb) (hdk b nb), fun b hb => h4 b (r1.al b hb), fun b hb => h4 b (r1.ad b hb), fun b o hb => ?_, by simpa using r1.len, fun jj s' hs => ?_, fun i1 i2 s1 s2 p' g1 g2 o1 o2 f1 f2 => ?_, ?_⟩
  · cases q2 : H1 b with
    | none => exact absurd q2 (r1.al b (by rw [hb]; simp))
    | some o' => rw [h2 b o' q2]; exact r1.ba b o hb
  · rcases get_set hs with ⟨z1, z2⟩ | ⟨z1, z2⟩
    · subst z1 z2
      obtain ⟨bg, cl, jc, d1, d2, d3, _⟩ := id e9
      exact ⟨a, pp, qq, e1, e2, by rw [h2 _ _ d1]; exact e3, by rw [h2 _ _ d2]; exact e4, by rw [h2 _ _ d3]; exact e5, e6, e7, e8, dk⟩
    · have h := r1.sl jj s' z2
      cases s' with
      | any => exact h
      | d x => obtain ⟨v, q1, q2⟩ := h; exact ⟨v, q1, q2.mono h1⟩
      | own xs =>
        obtain ⟨p1, vs, q1, q2, q3, q4, q5, q6⟩ := h
        exact ⟨p1, vs, q1, by rw [h2 _ _ q5]; exact q2, q3, q4, h3 _ _ q5 (hdk p1 q4), q6.mono h1⟩
      | ownD ks =>
        obtain ⟨p1, q1, q2, q3, q4, xs, q5, q6⟩ := h
        exact ⟨p1, q1, by rw [h2 _ _ q5]; exact q2, q3, q4, xs, h3 _ _ q5 (hdk p1 q4), q6.mono h1⟩
      | dk N2 =>
        exact absurd (r1.nd jj i N2 _ z2 hi1) z1
  · rcases get_set g1 with ⟨z1, z2⟩ | ⟨z1, z2⟩
    · subst z2; cases o1
    · rcases get_set g2 with ⟨z3, z4⟩ | ⟨z3, z4⟩
      · subst z4; cases o2
      · exact r1.ne i1 i2 s1 s2 p' z2 z4 o1 o2 f1 f2
  · exact r1.nd.set_dk hi1
/-- a call with the deck, which stands in slot i -/
theorem wd_callK {n dn : Str} {p pd : Pos} {N : Nat} {ds : List D} {post : D → Nat → Prop} {j : Nat} (i : Nat) {Qd : List Sl → D → Prop} (F0 : KFn X.prog X.w X.K X.mg X.base j n N ds post) (hr : Room k X.A) (ha : EA X ρ es ρ1 ds) (q : ∀ x N', post x N' → Qd (ρ1.set i (.dk (dkN N'))) x)
    (hi : ρ[i]? = some (.dk (dkN N)) := by rfl) (hi1 : ρ1[i]? = some (.dk (dkN N)) := by rfl) (hj : j ≤ k := by decide) (hg : Gl X n := by rfl) (hdb : (n == ("__debug__" : Str)) = false := by decide) (hN : X.N[i]? = some dn := by rfl)
    (hv : Vis X.env.scope dn := by first | exact Or.inl rfl | exact Or.inr (Or.inl rfl) | exact Or.inr (Or.inr rfl)) (hd : (dn == ("__debug__" : Str)) = false := by decide) (hcd : (dn == ("__classdict__" : Str)) = false := by decide)
    (he : starEach (.Name dn pd :: es) X.env = (false, eval (.Name dn pd) X.env) :: starEach es X.env := by rfl) (hpl : (backTo pos (starEach es X.env)).any (·.1) = false := by rfl) : WD X ρ (.Call (.Name n p) (.Name dn pd :: es) [] pos) Qd := fun F σ H0 H Q r kk => by
  obtain ⟨f, fd, ps, F1, hm, hk, hb⟩ := F0.ex
  obtain ⟨a, pp, qq, e1, e2, _⟩ := r.sl i _ hi
  refine WE.of (pe_call F1 (hr.mono hj) hg hm hk hb .nil pass0 (pa_cons (pe_var hN hv hd hcd) pa_wa he) hdb he hpl) ?_
  refine ⟨_, e2, ha F σ H0 H _ r fun us H01 H1 s r1 ra => ?_⟩
  obtain ⟨a', p', q', e1', e2', e3, e4, e5, e6, e7, e8, e9⟩ := r1.sl i _ hi1
  rw [e2] at e2'; cases e2'
  obtain ⟨rfl, rfl⟩ : pp = p' ∧ qq = q' := by rw [e1] at e1'; simpa using e1'
  refine ⟨H01, a, pp, qq, us, by simp, r1.ex, ra, e3, e4, e5, e6, e7, e8, e9, fun v H0' H' x N' hp h1 h2 h3 h4 h5 dk p => ?_⟩
  exact kk v H0' H' _ x (s.trans h1) (r1.drawn hi1 e1 e2 e3 e4 e5 e6 e7 e8 e9 h1 h2 h3 h4 h5 dk) p (q x N' hp)
end
end DL
set_option Elab.async false
set_option linter.all false
set_option maxRecDepth 100000
set_option maxHeartbeats 1000000
/-! DL7: built-ins, slices, more statements, over data -/
namespace DL
open PySem PySem.Spec PyProof.Rows L2
def tyD : D → String
  | .none => "NoneType"
  | .bool _ => "bool"
  | .int _ => "int"
  | .str _ => "str"
  | .list _ => "list"
  | .tup _ _ => "tuple"
  | .dict _ => "dict"
def noD : D → Bool
  | .dict _ => false
  | _ => true
theorem tyX_of {K : PySem.W.Frag} {H : Hp} : ∀ {d : D} {v : V}, Rp H v d → noD d = true → TyX K H v (.type (tyD d))
  | .none, _, h, _ => by cases h; exact .base .non
  | .bool b, _, h, _ => by cases h; exact .base (.bl b)
  | .int b, _, h, _ => by cases h; exact .base (.int b)
  | .str b, _, h, _ => by cases h; exact .base (.str b)
  | .list b, _, h, _ => by cases h with | lst hs _ => exact .base (.lst hs)
  | .tup false b, _, h, _ => by cases h with | tup hs _ => exact .base (.tup hs)
  | .tup true b, _, h, _ => by cases h with | tup hs _ => obtain ⟨o, _, e⟩ := hs; exact .fTuple e
  | .dict _, _, _, n => nomatch n
theorem mt_tup_indexI {X : Cx} : MtR X "tuple.index" (fun x xs H Q => ∃ p, ∃ ys : List Int, ∃ z j, x = .ref p ∧ xs = [.int z] ∧ SqT X.K H p (ys.map V.int) ∧ ys[j]? = some z ∧ (∀ m, m < j → ys[m]? ≠ some z) ∧ Q (.int (j : Nat)) H) := by
  intro pins s σ H x xs v us Q I rx rs h
  obtain ⟨p, ys, z, j, rfl, rfl, hq, hy, hno, q⟩ := h
  cases rx
  obtain ⟨u, rfl, t, rfl⟩ := vals1 rs
  obtain ⟨its, r, pl, hz⟩ := I.tuple hq
  obtain ⟨⟨cls, dd, dt, sl⟩, ho, hc, n, hd⟩ := pl
  simp only at hc hd
  subst hc
  subst hd
  have hl : its.toArray.size = ys.length := by rw [List.size_toArray, ← r.length, List.length_map]
  have hj : j < its.toArray.size := by rw [hl]; exact (List.getElem?_eq_some_iff.mp hy).1
  have at' : ∀ (m : Nat) (hm : m < its.toArray.size), ∃ y t', ys[m]? = some y ∧ its.toArray[m] = Value.int y t' := fun m hm => by
    have hm' : m < ys.length := by rw [← hl]; exact hm
    obtain ⟨w, hw, t', hw'⟩ := r.get (i := m) (x := .int ys[m]) (by simp [hm'])
    refine ⟨ys[m], t', List.getElem?_eq_getElem hm', ?_⟩
    have e := (List.getElem?_eq_some_iff.mp hw).2
    rw [← hw', ← e]
    simp
  refine call_meets PySem.F.slot_tuple_index ⟨_, ho, rfl⟩ PySem.F.entry_tuple_index (PySem.F.args_tuple_index_2 _ _) (TI.tuple_indexAt p its.toArray n dd sl (.int z t) (eqU (.int z)) j hj ?_ ?_)
    ⟨ho, fun w hw => mem_eqAt (x := .int z) ⟨t, rfl⟩ rfl r (flat_ints ys) w (by simpa using hw), ⟨.int (j : Nat), H, I.tok _, ⟨_, rfl⟩, q⟩⟩
  · obtain ⟨y, t', h1, h2⟩ := at' j hj
    rw [hy] at h1
    cases h1
    rw [h2]
    show (z == z) = true
    exact beq_self_eq_true z
  · intro m hm hmj
    obtain ⟨y, t', h1, h2⟩ := at' m hm
    rw [h2]
    show (y == z) = false
    exact beq_eq_false_iff_ne.mpr fun e => hno m hmj (e ▸ h1)
/-- the place of an item -/
def idx (ns : List Int) (z : Int) : Nat := ns.findIdx (· == z)
theorem idx_get {ns : List Int} {z : Int} (h : z ∈ ns) : ns[idx ns z]? = some z := by
  have hl : idx ns z < ns.length := List.findIdx_lt_length_of_exists ⟨z, h, by simp⟩
  rw [List.getElem?_eq_getElem hl]
  have := List.findIdx_getElem (w := hl)
  exact congrArg some (beq_iff_eq.mp this)
theorem idx_no {ns : List Int} {z : Int} {m : Nat} (h : m < idx ns z) : ns[m]? ≠ some z := fun e => by
  have := List.not_of_lt_findIdx (p := (· == z)) h
  have hm := (List.getElem?_eq_some_iff.mp e).2
  simp [hm] at this
section
variable {X : Cx} {ρ ρ1 ρ2 ρ3 : List Sl} {e a b c : Expr} {es : List Expr} {x y z : D} {pos : Pos} {k : Nat}
/-- built-ins by one rule: what the arguments' values give -/
theorem ee_blt {id : String} {n : Str} {p : Pos} {xs : List D} {r : List V → Hp → VK → Prop} (hc : CallR X (.builtin id) r) (hm : X.mg n = none) (hv : bootBuiltins n = some (.builtin id)) (ha : EA X ρ (e :: es) ρ1 xs)
    (hr : ∀ F σ us H0 H (Q : VK), Rel F ρ1 σ H0 H → RpA H0 us xs → (∀ u H0' H', Same H0 H0' → Rel F ρ1 σ H0' H' → Rp H0' u y → Q u H') → r us H Q) (hg : Gl X n := by rfl) (hn : n ≠ "__name__" := by decide) (hdb : (n == ("__debug__" : Str)) = false := by decide)
    (he : starEach (e :: es) X.env = (false, eval e X.env) :: starEach es X.env := by rfl) (hpl : (backTo pos (starEach es X.env)).any (·.1) = false := by rfl) : EE X ρ (.Call (.Name n p) (e :: es) [] pos) ρ1 y := fun F σ H0 H Q r0 k =>
  WE.of (pe_callB hc hg hm hv pa_wa hn hdb he hpl) (ha F σ H0 H _ r0 fun us H0' H' s r' ra => hr F σ us H0' H' Q r' ra fun u H2 H3 s2 => k u H2 H3 (s.trans s2))
theorem ee_bltT {T : String} {n : Str} {p : Pos} {xs : List D} {r : List V → Hp → VK → Prop} (hc : CallR X (.type T) r) (hm : X.mg n = none) (hv : bootBuiltins n = some (.type T)) (ha : EA X ρ (e :: es) ρ1 xs)
    (hr : ∀ F σ us H0 H (Q : VK), Rel F ρ1 σ H0 H → RpA H0 us xs → (∀ u H0' H', Same H0 H0' → Rel F ρ1 σ H0' H' → Rp H0' u y → Q u H') → r us H Q) (hg : Gl X n := by rfl) (hn : n ≠ "__name__" := by decide) (hdb : (n == ("__debug__" : Str)) = false := by decide)
    (he : starEach (e :: es) X.env = (false, eval e X.env) :: starEach es X.env := by rfl) (hpl : (backTo pos (starEach es X.env)).any (·.1) = false := by rfl) : EE X ρ (.Call (.Name n p) (e :: es) [] pos) ρ1 y := fun F σ H0 H Q r0 k =>
  WE.of (pe_callTy hc hg hm hv pa_wa hn hdb he hpl) (ha F σ H0 H _ r0 fun us H0' H' s r' ra => hr F σ us H0' H' Q r' ra fun u H2 H3 s2 => k u H2 H3 (s.trans s2))
/-- the same, a new list -/
theorem eo_bltT {T : String} {n : Str} {p : Pos} {xs ys : List D} {r : List V → Hp → VK → Prop} (hc : CallR X (.type T) r) (hm : X.mg n = none) (hv : bootBuiltins n = some (.type T)) (ha : EA X ρ (e :: es) ρ1 xs)
    (hr : ∀ F σ us H0 H (Q : VK), Rel F ρ1 σ H0 H → RpA H0 us xs → (∀ p vs H0' H', Same H0 H0' → F.He p = none → p ∉ F.dk → Rel (F.pin p (.lst vs)) ρ1 σ H0' H' → RpA H0' vs ys → Q (.ref p) H') → r us H Q) (hg : Gl X n := by rfl) (hn : n ≠ "__name__" := by decide) (hdb : (n == ("__debug__" : Str)) = false := by decide)
    (he : starEach (e :: es) X.env = (false, eval e X.env) :: starEach es X.env := by rfl) (hpl : (backTo pos (starEach es X.env)).any (·.1) = false := by rfl) : EO X ρ (.Call (.Name n p) (e :: es) [] pos) ρ1 ys := fun F σ H0 H Q r0 k =>
  WE.of (pe_callTy hc hg hm hv pa_wa hn hdb he hpl) (ha F σ H0 H _ r0 fun us H0' H' s r' ra => hr F σ us H0' H' Q r' ra fun p vs H2 H3 s2 => k p vs H2 H3 (s.trans s2))
theorem rpa1 {H : Hp} {us : List V} {x : D} (h : RpA H us [x]) : ∃ u, us = [u] ∧ Rp H u x := by
  cases h with
  | cons h1 h2 => cases h2; exact ⟨_, rfl, h1⟩
theorem rpa2 {H : Hp} {us : List V} {x y : D} (h : RpA H us [x, y]) : ∃ u w, us = [u, w] ∧ Rp H u x ∧ Rp H w y := by
  cases h with
  | cons h1 h2 => obtain ⟨w, rfl, r⟩ := rpa1 h2; exact ⟨_, w, rfl, h1, r⟩
/-- len of a tuple, of a list -/
theorem ee_lenT {p : Pos} {tb : Bool} {xs : List D} (hm : X.mg "len" = none) (ha : EA X ρ [e] ρ1 [.tup tb xs]) (hg : Gl X "len" := by rfl) (he : starEach [e] X.env = (false, eval e X.env) :: starEach [] X.env := by rfl) (hpl : (backTo pos (starEach [] X.env)).any (·.1) = false := by rfl) : EE X ρ (.Call (.Name "len" p) [e] [] pos) ρ1 (.int (xs.length : Nat)) :=
  ee_blt call_len_seq hm boot_len ha (fun F σ us H0 H Q r ra k => by
    obtain ⟨u, rfl, ru⟩ := rpa1 ra
    cases ru with
    | tup hs hx => exact ⟨_, _, rfl, .inr (hs.mono r.ex).sq, by rw [hx.len]; exact k _ _ _ (Same.refl _) r (.int _)⟩) hg (by decide) (by decide) he hpl
theorem ee_lenL {p : Pos} {xs : List D} (hm : X.mg "len" = none) (ha : EA X ρ [e] ρ1 [.list xs]) (hg : Gl X "len" := by rfl) (he : starEach [e] X.env = (false, eval e X.env) :: starEach [] X.env := by rfl) (hpl : (backTo pos (starEach [] X.env)).any (·.1) = false := by rfl) : EE X ρ (.Call (.Name "len" p) [e] [] pos) ρ1 (.int (xs.length : Nat)) :=
  ee_blt call_len_seq hm boot_len ha (fun F σ us H0 H Q r ra k => by
    obtain ⟨u, rfl, ru⟩ := rpa1 ra
    cases ru with
    | lst hs hx => exact ⟨_, _, rfl, .inl (SqL.of (r.ex _ _ hs)), by rw [hx.len]; exact k _ _ _ (Same.refl _) r (.int _)⟩) hg (by decide) (by decide) he hpl
/-- len of an own list -/
theorem ee_lenO (i : Nat) {n : Str} {p p1 : Pos} {xs : List D} (hm : X.mg "len" = none) (hr : ρ[i]? = some (.own xs) := by rfl) (hN : X.N[i]? = some n := by rfl) (hv : Vis X.env.scope n := by first | exact Or.inl rfl | exact Or.inr (Or.inl rfl) | exact Or.inr (Or.inr rfl))
    (hd : (n == ("__debug__" : Str)) = false := by decide) (hcd : (n == ("__classdict__" : Str)) = false := by decide) (hg : Gl X "len" := by rfl) (he : starEach [.Name n p1] X.env = (false, eval (.Name n p1) X.env) :: starEach [] X.env := by rfl) (hpl : (backTo pos (starEach [] X.env)).any (·.1) = false := by rfl) :
    EE X ρ (.Call (.Name "len" p) [.Name n p1] [] pos) ρ (.int (xs.length : Nat)) := fun F σ H0 H Q r k => by
  obtain ⟨q, vs, e1, e5, e6, _⟩ := own_rel r hr
  exact WE.of (pe_callB call_len_seq hg hm boot_len (pa_cons (pe_var hN hv hd hcd) pa_nil he) (by decide) (by decide) he hpl) ⟨_, e1, _, _, rfl, .inl (SqL.of e5), by rw [e6.len]; exact k _ _ _ (Same.refl _) r (.int _)⟩
theorem ee_abs {p : Pos} {i : Int} (hm : X.mg "abs" = none) (ha : EA X ρ [e] ρ1 [.int i]) (hg : Gl X "abs" := by rfl) (he : starEach [e] X.env = (false, eval e X.env) :: starEach [] X.env := by rfl) (hpl : (backTo pos (starEach [] X.env)).any (·.1) = false := by rfl) : EE X ρ (.Call (.Name "abs" p) [e] [] pos) ρ1 (.int (if i < 0 then -i else i)) :=
  ee_blt call_abs hm (by decide +kernel) ha (fun F σ us H0 H Q r ra k => by
    obtain ⟨u, rfl, ru⟩ := rpa1 ra
    cases ru
    exact ⟨_, rfl, k _ _ _ (Same.refl _) r (.int _)⟩) hg (by decide) (by decide) he hpl
theorem ee_max2 {p : Pos} {i j : Int} (hm : X.mg "max" = none) (ha : EA X ρ [a, b] ρ1 [.int i, .int j]) (hc : X.calm = true := by rfl) (hg : Gl X "max" := by rfl) (he : starEach [a, b] X.env = (false, eval a X.env) :: starEach [b] X.env := by rfl) (hpl : (backTo pos (starEach [b] X.env)).any (·.1) = false := by rfl) : EE X ρ (.Call (.Name "max" p) [a, b] [] pos) ρ1 (.int (max i j)) :=
  ee_blt (call_max2 hc) hm boot_max ha (fun F σ us H0 H Q r ra k => by
    obtain ⟨u, w, rfl, ru, rw'⟩ := rpa2 ra
    cases ru; cases rw'
    refine ⟨_, _, rfl, k _ _ _ (Same.refl _) r ?_⟩
    have e : (if j > i then j else i) = max i j := by rw [Int.max_def]; split <;> split <;> omega
    rw [e]; exact .int _) hg (by decide) (by decide) he hpl
theorem ee_min2 {p : Pos} {i j : Int} (hm : X.mg "min" = none) (ha : EA X ρ [a, b] ρ1 [.int i, .int j]) (hc : X.calm = true := by rfl) (hg : Gl X "min" := by rfl) (he : starEach [a, b] X.env = (false, eval a X.env) :: starEach [b] X.env := by rfl) (hpl : (backTo pos (starEach [b] X.env)).any (·.1) = false := by rfl) : EE X ρ (.Call (.Name "min" p) [a, b] [] pos) ρ1 (.int (min i j)) :=
  ee_blt (call_min2 hc) hm boot_min ha (fun F σ us H0 H Q r ra k => by
    obtain ⟨u, w, rfl, ru, rw'⟩ := rpa2 ra
    cases ru; cases rw'
    refine ⟨_, _, rfl, k _ _ _ (Same.refl _) r ?_⟩
    have e : (if j < i then j else i) = min i j := by rw [Int.min_def]; split <;> split <;> omega
    rw [e]; exact .int _) hg (by decide) (by decide) he hpl
theorem ee_sum {p : Pos} {ns : List Int} (hm : X.mg "sum" = none) (ha : EA X ρ [e] ρ1 [.list (ns.map .int)]) (hc : X.calm = true := by rfl) (hg : Gl X "sum" := by rfl) (he : starEach [e] X.env = (false, eval e X.env) :: starEach [] X.env := by rfl) (hpl : (backTo pos (starEach [] X.env)).any (·.1) = false := by rfl) : EE X ρ (.Call (.Name "sum" p) [e] [] pos) ρ1 (.int ns.sum) :=
  ee_blt (cr_sum hc) hm (by decide +kernel) ha (fun F σ us H0 H Q r ra k => by
    obtain ⟨u, rfl, ru⟩ := rpa1 ra
    cases ru with
    | lst hs hx =>
      rw [hx.ints] at hs
      exact ⟨_, ns, rfl, SqL.of (r.ex _ _ hs), k _ _ _ (Same.refl _) r (.int _)⟩) hg (by decide) (by decide) he hpl
theorem ee_all {p : Pos} {bs : List Bool} (hm : X.mg "all" = none) (ha : EA X ρ [e] ρ1 [.list (bs.map .bool)]) (hc : X.calm = true := by rfl) (hg : Gl X "all" := by rfl) (he : starEach [e] X.env = (false, eval e X.env) :: starEach [] X.env := by rfl) (hpl : (backTo pos (starEach [] X.env)).any (·.1) = false := by rfl) : EE X ρ (.Call (.Name "all" p) [e] [] pos) ρ1 (.bool (bs.all id)) :=
  ee_blt (cr_all hc) hm (by decide +kernel) ha (fun F σ us H0 H Q r ra k => by
    obtain ⟨u, rfl, ru⟩ := rpa1 ra
    cases ru with
    | lst hs hx =>
      rw [hx.bools] at hs
      exact ⟨_, bs, rfl, SqL.of (r.ex _ _ hs), k _ _ _ (Same.refl _) r (.bl _)⟩) hg (by decide) (by decide) he hpl
/-- tuple(list), tuple(tuple), list(tuple) -/
theorem ee_tupL {p : Pos} {xs : List D} (hm : X.mg "tuple" = none) (ha : EA X ρ [e] ρ1 [.list xs]) (hg : Gl X "tuple" := by rfl) (he : starEach [e] X.env = (false, eval e X.env) :: starEach [] X.env := by rfl) (hpl : (backTo pos (starEach [] X.env)).any (·.1) = false := by rfl) : EE X ρ (.Call (.Name "tuple" p) [e] [] pos) ρ1 (.tuple xs) :=
  ee_bltT call_tuple_of hm boot_tuple ha (fun F σ us H0 H Q r ra k => by
    obtain ⟨u, rfl, ru⟩ := rpa1 ra
    cases ru with
    | lst hs hx =>
      refine ⟨_, _, rfl, .inl ⟨SqL.of (r.ex _ _ hs), fun l hl => ?_⟩⟩
      obtain ⟨r2, s2⟩ := r.new (o := .tup _) hl
      exact k _ _ _ s2 r2 (.tup (b := false) upd_same (hx.mono s2))) hg (by decide) (by decide) he hpl
theorem eo_listT {p : Pos} {tb : Bool} {xs : List D} (hm : X.mg "list" = none) (ha : EA X ρ [e] ρ1 [.tup tb xs]) (hg : Gl X "list" := by rfl) (he : starEach [e] X.env = (false, eval e X.env) :: starEach [] X.env := by rfl) (hpl : (backTo pos (starEach [] X.env)).any (·.1) = false := by rfl) : EO X ρ (.Call (.Name "list" p) [e] [] pos) ρ1 xs :=
  eo_bltT call_list_of hm boot_list ha (fun F σ us H0 H Q r ra k => by
    obtain ⟨u, rfl, ru⟩ := rpa1 ra
    cases ru with
    | tup hs hx =>
      exact ⟨_, _, rfl, .inr (hs.mono r.ex).sq, fun l hl => k l _ H0 _ (Same.refl _) (r.he_none hl) (r.dk_none hl) (r.newPin hl) hx⟩) hg (by decide) (by decide) he hpl
theorem ee_tyN {n T : Str} {p : Pos} {s : String} (hm : X.mg n = none) (hv : bootBuiltins n = some (.type s)) (hg : Gl X n := by rfl) (hn : n ≠ "__name__" := by decide) (hd : (n == ("__debug__" : Str)) = false := by decide) : PE X (.Name n p) (tC (.ty s)) := pe_bltn hg hm hv rfl hn hd
/-- isinstance(x, T), T a built-in type -/
theorem ee_isi {n : Str} {p p1 : Pos} {T : String} {t : Bool} (hmi : X.mg "isinstance" = none) (hm : X.mg n = none) (hv : bootBuiltins n = some (.type T)) (ha : EE X ρ a ρ1 x) (hk : kitB (tyD x) T = some t) (hg : Gl X n := by rfl) (hn : n ≠ "__name__" := by decide) (hd : (n == ("__debug__" : Str)) = false := by decide) (hgi : Gl X "isinstance" := by rfl) (hnd : noD x = true := by rfl)
    (hs : starEach [a, .Name n p1] X.env = (false, eval a X.env) :: starEach [.Name n p1] X.env := by rfl) (hs2 : starEach [.Name n p1] X.env = (false, eval (.Name n p1) X.env) :: starEach [] X.env := by rfl) (hpl : (backTo pos (starEach [.Name n p1] X.env)).any (·.1) = false := by rfl) :
    EE X ρ (.Call (.Name "isinstance" p) [a, .Name n p1] [] pos) ρ1 (.bool t) := fun F σ H0 H Q r k =>
  WE.of (pe_callB call_isi hgi hmi PyProof.Rows.boot_isinstance (pa_cons pe_we (pa_cons (pe_bltn (v := .ty T) hg hm hv rfl hn hd) pa_nil hs2) hs) (by decide) (by decide) hs hpl) (ha F σ H0 H _ r fun v H0' H' s r' pv =>
    ⟨v, .ty T, .type (tyD x), .type T, t, rfl, .ty T, tyX_of (pv.mono r'.ex) hnd, kit_ty hk, k _ _ _ s r' (.bl t)⟩)
/-- t.index(i) of a plain tuple of ints -/
theorem ee_index {p : Pos} {ns : List Int} {i : Int} (ha : EE X ρ a ρ1 (.tup true (ns.map .int))) (hb : EE X ρ1 b ρ2 (.int i)) (hm : i ∈ ns) (hbase : attributeBase a "index" X.env (eval a X.env) = eval a X.env := by rfl)
    (hfew : ((backTo pos (starEach (b :: []) X.env)).all (fun x => !x.1) && (backToKw pos (keywordEach [] X.env)).all (fun x => x.1.isSome)
      && decide ((b :: ([] : List Expr)).length + ([] : List Keyword).length + (if ([] : List Keyword).isEmpty then 0 else 1) < 30)) = true := by rfl)
    (hline : (p.endLine == pos.line) = true := by rfl) (hst : starEach (b :: []) X.env = (false, eval b X.env) :: starEach [] X.env := by rfl) (hplain : (backTo pos (starEach [] X.env)).any (·.1) = false := by rfl) :
    EE X ρ (.Call (.Attribute a "index" p) [b] [] pos) ρ2 (.int (idx ns i : Nat)) := fun F σ H0 H Q r k pins s I => by
  refine wpAny_Call_method_late hbase hfew hline rfl ?_
  refine ha F σ H0 H (fun v H1 => ∃ a o, v = .ref a ∧ o.dict = none ∧ H1 a = some (.frz o (.tup (ns.map V.int))) ∧ WE X b σ H1 fun w H2 => w = .int i ∧ H2 a = some (.frz o (.tup (ns.map V.int))) ∧ Q (.int (idx ns i : Nat)) H2) r (fun v H1 H' s1 r1 pv => ?_) pins s I |> fun h => thn h fun v s1 ⟨x, H1, I1, r1, q⟩ => ?_
  · cases pv with
    | tup hs hx =>
      rw [hx.ints] at hs
      obtain ⟨o, hd, ho⟩ := hs
      refine ⟨_, o, rfl, hd, r1.ex _ _ ho, hb F σ H1 H' _ r1 fun w H2 H'' s2 r2 pw => ?_⟩
      cases pw
      exact ⟨rfl, r2.ex _ _ (s2 _ _ ho), k _ _ _ (s1.trans s2) r2 (.int _)⟩
  · obtain ⟨ad, o, rfl, hd, ho, q⟩ := q
    cases r1
    obtain ⟨e1, hok⟩ := I1.hok ad _ ho
    obtain ⟨hz, its, rv, ht⟩ := hok
    obtain ⟨o', e1', hc, n, hdat⟩ := ht
    rw [e1] at e1'; cases e1'
    refine ⟨"tuple", "tuple.index", PySem.F.plainAttrs_tuple, PySem.F.slot_tuple_index, PySem.F.type_tuple_index, ⟨o, e1, hc⟩, fun a' e => ?_, ?_⟩
    · cases e; exact ⟨o, e1, hd⟩
    · have hA := (pa_cons (X := X) (pe_we (e := b)) pa_nil hst).run pos pins s1 σ H1 (fun xs H2 => xs = [.int i] ∧ H2 ad = some (.frz o (.tup (ns.map V.int))) ∧ Q (.int (idx ns i : Nat)) H2) I1 (fun p s I => thn (q p s I) fun u s2 ⟨y, H2, I2, r2, z1, z2, z3⟩ => ⟨y, H2, I2, r2, by rw [z1], z2, z3⟩)
      rw [hst] at hA ⊢
      refine Calls.callWith_builtin (by show (false || (backTo pos (starEach [] X.env)).any (·.1)) = false; rw [hplain] <;> rfl) (Calls.evalArgs_plain ?_)
      refine thn hA fun us s2 ⟨vs, H2, I2, r2, z1, z2, z3⟩ => ?_
      subst z1
      exact mt_tup_indexI pins s2 σ H2 (.ref ad) [.int i] (.ref ad) us Q I2 rfl r2 ⟨ad, ns, i, idx ns i, rfl, rfl, .inl (.inr ⟨o, z2⟩), idx_get hm, fun m hm => idx_no hm, z3⟩
/-! slices -/
def EOp (X : Cx) (ρ : List Sl) (o : Option Expr) (i : Option Int) : Prop := match o, i with
  | none, none => True
  | some e, some i => EE X ρ e ρ (.int i)
  | _, _ => False
def tOpt (X : Cx) : Option Expr → TO
  | none => tNoPart
  | some e => tPart (WE X e)
theorem po_opt : ∀ {o : Option Expr}, PO X o (tOpt X o)
  | none => po_none
  | some _ => po_some pe_we
theorem opt_run {o : Option Expr} {i : Option Int} (h : EOp X ρ o i) {F : Fm} {σ : L2.St} {H0 H : Hp} {Q : Option Int → Hp → Prop} (r : Rel F ρ σ H0 H) (k : ∀ H0' H', Same H0 H0' → Rel F ρ σ H0' H' → Q i H') : tOpt X o σ H Q := by
  cases o with
  | none =>
    cases i with
    | none => exact k _ _ (Same.refl _) r
    | some _ => exact h.elim
  | some e =>
    cases i with
    | none => exact h.elim
    | some i => exact (show EE X ρ e ρ (.int i) from h) F σ H0 H _ r fun v H0' H' s r' p => by cases p; exact ⟨i, rfl, k _ _ s r'⟩
def cutD (xs : List D) (lo hi : Option Int) : List D := (xs.drop (HT.sIx xs.length 0 lo)).take (HT.sIx xs.length xs.length hi - HT.sIx xs.length 0 lo)
theorem RpA.cut {H : Hp} {ds : List D} {vs : List V} (h : RpA H vs ds) (lo hi : Option Int) : RpA H (cutV vs lo hi) (cutD ds lo hi) := by
  unfold cutV cutD
  rw [h.len]
  exact (h.drop _).take _
theorem cutD_whole {xs : List D} {lo hi : Option Int} (h : HT.sIx xs.length 0 lo = 0 ∧ HT.sIx xs.length xs.length hi = xs.length) : cutD xs lo hi = xs := by
  unfold cutD
  rw [h.1, h.2]
  simp
theorem ee_slT {xs : List D} {lo hi : Option Expr} {i j : Option Int} {p2 : Pos} (ha : EE X ρ a ρ1 (.tuple xs)) (h1 : EOp X ρ1 lo i) (h2 : EOp X ρ1 hi j) : EE X ρ (.Subscript a (.Slice lo hi none p2) pos) ρ1 (.tuple (cutD xs i j)) := fun F σ H0 H Q r k =>
  WE.of (pe_slice sl_tupA pe_we po_opt po_opt) (ha F σ H0 H _ r fun v H1 H' s r' pv => opt_run h1 r' fun H2 H'' s2 r2 => opt_run h2 r2 fun H3 H3' s3 r3 => by
    cases pv with
    | tup hs hx =>
      have hs : H1 _ = some (.tup _) := hs
      have hs3 := r3.ex _ _ (s3 _ _ (s2 _ _ hs))
      refine ⟨_, _, rfl, SqT.of hs3, fun hw => ?_, fun hw p hp => ?_⟩
      · rw [hx.len] at hw
        rw [cutD_whole hw] at k
        exact k _ _ _ ((s.trans s2).trans s3) r3 (.tup (b := false) (s3 _ _ (s2 _ _ hs)) (hx.mono (s2.trans s3)))
      · obtain ⟨r4, s4⟩ := r3.new (o := .tup _) hp
        exact k _ _ _ (((s.trans s2).trans s3).trans s4) r4 (.tup (b := false) upd_same ((hx.mono ((s2.trans s3).trans s4)).cut i j)))
theorem eo_slL {xs : List D} {lo hi : Option Expr} {i j : Option Int} {p2 : Pos} (ha : EE X ρ a ρ1 (.list xs)) (h1 : EOp X ρ1 lo i) (h2 : EOp X ρ1 hi j) : EO X ρ (.Subscript a (.Slice lo hi none p2) pos) ρ1 (cutD xs i j) := fun F σ H0 H Q r k =>
  WE.of (pe_slice sl_list pe_we po_opt po_opt) (ha F σ H0 H _ r fun v H1 H' s r' pv => opt_run h1 r' fun H2 H'' s2 r2 => opt_run h2 r2 fun H3 H3' s3 r3 => by
    cases pv with
    | lst hs hx =>
      refine ⟨_, _, rfl, SqL.of (r3.ex _ _ (s3 _ _ (s2 _ _ hs))), fun p hp => ?_⟩
      exact k p _ H3 _ ((s.trans s2).trans s3) (r3.he_none hp) (r3.dk_none hp) (r3.newPin hp) ((hx.mono (s2.trans s3)).cut i j))
theorem eo_revL {xs : List D} {kk : Nat} {p1 p2 p3 : Pos} (ha : EE X ρ a ρ1 (.list xs)) : EO X ρ (.Subscript a (.Slice none none (some (.UnaryOp .USub (.Constant (.int 1) kk p1) p2)) p3) pos) ρ1 xs.reverse := fun F σ H0 H Q r k =>
  WE.of (pe_revL pe_we) (ha F σ H0 H _ r fun v H1 H' s r' pv => by
    cases pv with
    | lst hs hx => exact ⟨_, _, rfl, SqL.of (r'.ex _ _ hs), fun p hp => k p _ H1 _ s (r'.he_none hp) (r'.dk_none hp) (r'.newPin hp) hx.reverse⟩)
/-! lists put together -/
theorem eo_cat {xs ys : List D} (hl : xs.length + ys.length ≤ 100000) (ha : EE X ρ a ρ1 (.list xs)) (hb : EE X ρ1 b ρ2 (.list ys)) : EO X ρ (.BinOp a .Add b pos) ρ2 (xs ++ ys) := fun F σ H0 H Q r k =>
  WE.of (pe_op op_cat pe_we pe_we) (two ha hb r fun v w H1 H' s r' p1 p2 => by
    cases p1 with
    | lst hs hx =>
      cases p2 with
      | lst hs2 hx2 =>
        exact ⟨_, _, _, _, rfl, rfl, r'.ex _ _ hs, r'.ex _ _ hs2, by rw [hx.len, hx2.len]; exact Nat.le_trans hl (show 100000 ≤ sizeLine by decide), fun p hp => k p _ H1 _ s (r'.he_none hp) (r'.dk_none hp) (r'.newPin hp) (hx.append hx2)⟩)
theorem rep_flat {α : Type} (x : α) (n : Nat) : (List.replicate n [x]).flatten = List.replicate n x := by
  induction n with
  | zero => rfl
  | succ n ih => rw [List.replicate_succ, List.flatten_cons, ih]; rfl
theorem RpA.replicate {H : Hp} {v : V} {d : D} (h : Rp H v d) : ∀ n, RpA H (List.replicate n v) (List.replicate n d)
  | 0 => .nil
  | n + 1 => .cons h (RpA.replicate h n)
theorem eo_rep {n : Nat} (hl : n ≤ 100000) (ha : EE X ρ a ρ1 (.list [x])) (hb : EE X ρ1 b ρ2 (.int n)) : EO X ρ (.BinOp a .Mult b pos) ρ2 (List.replicate n x) := fun F σ H0 H Q r k =>
  WE.of (pe_op op_rep pe_we pe_we) (two ha hb r fun v w H1 H' s r' p1 p2 => by
    cases p2
    cases p1 with
    | lst hs hx =>
      obtain ⟨u, rfl, ru⟩ := rpa1 hx
      refine ⟨_, _, _, rfl, rfl, r'.ex _ _ hs, by omega, by omega, by simp; exact Nat.le_trans hl (show 100000 ≤ sizeLine by decide), fun p hp => ?_⟩
      rw [Int.toNat_natCast, rep_flat]
      exact k p _ H1 _ s (r'.he_none hp) (r'.dk_none hp) (r'.newPin hp) (RpA.replicate ru n))
theorem ee_catT {xs ys : List D} (hl : xs.length + ys.length ≤ 100000) (ha : EE X ρ a ρ1 (.tuple xs)) (hb : EE X ρ1 b ρ2 (.tuple ys)) : EE X ρ (.BinOp a .Add b pos) ρ2 (.tuple (xs ++ ys)) := fun F σ H0 H Q r k =>
  WE.of (pe_op op_catA pe_we pe_we) (two ha hb r fun v w H1 H' s r' p1 p2 => by
    cases p1 with
    | tup hs hx =>
      cases p2 with
      | tup hs2 hx2 =>
        rename_i vx _ vy
        refine ⟨_, _, _, _, rfl, rfl, (hs.mono r'.ex).sq, (hs2.mono r'.ex).sq, by rw [hx.len, hx2.len]; exact Nat.le_trans hl (show 100000 ≤ sizeLine by decide), fun h => ?_, fun _ h => ?_, fun _ _ p hp => ?_⟩
        · have e : xs = [] := List.length_eq_zero_iff.mp (by rw [← hx.len, h]; rfl)
          subst e
          exact k _ _ _ s r' (.tup hs2 hx2)
        · have e : ys = [] := List.length_eq_zero_iff.mp (by rw [← hx2.len, h]; rfl)
          subst e
          rw [List.append_nil] at k
          exact k _ _ _ s r' (.tup hs hx)
        · obtain ⟨r2, s2⟩ := r'.new (o := .tup _) hp
          exact k _ _ _ (s.trans s2) r2 (.tup (b := false) upd_same ((hx.append hx2).mono s2)))
/-- tuple(range(..)), list(range(..)) -/
theorem rp_rg {H : Hp} (a b : Int) : RpA H (rgV a b) (rangeD a (b - a).toNat) := by
  have e : rgV a b = ((List.range (b - a).toNat).map fun i => a + (i : Nat)).map V.int := by unfold rgV; rw [List.map_map]; rfl
  have e2 : rangeD a (b - a).toNat = ((List.range (b - a).toNat).map fun i => a + (i : Nat)).map D.int := by unfold rangeD; rw [List.map_map]; rfl
  rw [e, e2]
  exact RpA.of_ints _
theorem ee_tupRg1 {p p1 p2 : Pos} {j : Int} (hmt : X.mg "tuple" = none) (hm : X.mg "range" = none) (h : EE X ρ a ρ1 (.int j)) (hj : 0 ≤ j) (hj2 : j ≤ 100000) (hg : Gl X "tuple" := by rfl) (hgr : Gl X "range" := by rfl) (hc : X.calm = true := by rfl)
    (na : starEach [a] X.env = (false, eval a X.env) :: starEach [] X.env := by rfl) (nb : starEach [.Call (.Name "range" p1) [a] [] p2] X.env = (false, eval (.Call (.Name "range" p1) [a] [] p2) X.env) :: starEach [] X.env := by rfl) :
    EE X ρ (.Call (.Name "tuple" p) [.Call (.Name "range" p1) [a] [] p2] [] pos) ρ1 (.tuple (rangeD 0 j.toNat)) := fun F σ H0 H Q r k =>
  WE.of (pe_tupRg hc hg hmt (prg_1 hgr hm pe_we na) nb) (h F σ H0 H _ r fun v H1 H' s r' pv => by
    cases pv
    refine ⟨j, rfl, RgOk.of_le (by omega) (by omega) (by omega) hj, fun q hq => ?_⟩
    obtain ⟨r2, s2⟩ := r'.new (o := .tup _) hq
    have := rp_rg (H := upd H1 q (.tup (rgV 0 j))) 0 j
    rw [Int.sub_zero] at this
    exact k _ _ _ (s.trans s2) r2 (.tup (b := false) upd_same this))
theorem ee_tupRg2 {p p1 p2 : Pos} {i j : Int} (hmt : X.mg "tuple" = none) (hm : X.mg "range" = none) (ha : EE X ρ a ρ1 (.int i)) (hb : EE X ρ1 b ρ2 (.int j)) (hok : RgOk i j) (hg : Gl X "tuple" := by rfl) (hgr : Gl X "range" := by rfl) (hc : X.calm = true := by rfl)
    (na : starEach [a, b] X.env = (false, eval a X.env) :: starEach [b] X.env := by rfl) (na2 : starEach [b] X.env = (false, eval b X.env) :: starEach [] X.env := by rfl) (hpl : (backTo p2 (starEach [b] X.env)).any (·.1) = false := by rfl) (nb : starEach [.Call (.Name "range" p1) [a, b] [] p2] X.env = (false, eval (.Call (.Name "range" p1) [a, b] [] p2) X.env) :: starEach [] X.env := by rfl) :
    EE X ρ (.Call (.Name "tuple" p) [.Call (.Name "range" p1) [a, b] [] p2] [] pos) ρ2 (.tuple (rangeD i (j - i).toNat)) := fun F σ H0 H Q r k =>
  WE.of (pe_tupRg hc hg hmt (prg_2 hgr hm pe_we pe_we na na2 hpl) nb) (two ha hb r fun v w H1 H' s r' p1 p2 => by
    cases p1; cases p2
    refine ⟨i, j, rfl, rfl, hok, fun q hq => ?_⟩
    obtain ⟨r2, s2⟩ := r'.new (o := .tup _) hq
    exact k _ _ _ (s.trans s2) r2 (.tup (b := false) upd_same (rp_rg i j)))
theorem eo_listRg1 {p p1 p2 : Pos} {j : Int} (hmt : X.mg "list" = none) (hm : X.mg "range" = none) (h : EE X ρ a ρ1 (.int j)) (hj : 0 ≤ j) (hj2 : j ≤ 100000) (hg : Gl X "list" := by rfl) (hgr : Gl X "range" := by rfl) (hc : X.calm = true := by rfl)
    (na : starEach [a] X.env = (false, eval a X.env) :: starEach [] X.env := by rfl) (nb : starEach [.Call (.Name "range" p1) [a] [] p2] X.env = (false, eval (.Call (.Name "range" p1) [a] [] p2) X.env) :: starEach [] X.env := by rfl) :
    EO X ρ (.Call (.Name "list" p) [.Call (.Name "range" p1) [a] [] p2] [] pos) ρ1 (rangeD 0 j.toNat) := fun F σ H0 H Q r k =>
  WE.of (pe_listRg hc hg hmt (prg_1 hgr hm pe_we na) nb) (h F σ H0 H _ r fun v H1 H' s r' pv => by
    cases pv
    refine ⟨j, rfl, RgOk.of_le (by omega) (by omega) (by omega) hj, fun q hq => ?_⟩
    have := rp_rg (H := H1) 0 j
    rw [Int.sub_zero] at this
    exact k q _ H1 _ s (r'.he_none hq) (r'.dk_none hq) (r'.newPin hq) this)
/-! more statements -/
variable {nx bk ct : List Sl → Prop} {rt : List Sl → D → Prop}
theorem ixN_lt {n : Nat} {i : Int} {j : Nat} (h : ixN n i = some j) : j < n := (ixN_seq h).2.1
/-- own[i] = e -/
theorem sj_setAt (i : Nat) {n : Str} {p1 p2 : Pos} {xs : List D} {j : Int} {jn : Nat} (he : EE X ρ e ρ1 x) (hb : EE X ρ1 b ρ1 (.int j)) (hj : ixN xs.length j = some jn) (q : nx (ρ1.set i (.own (xs.set jn x)))) (hr : ρ1[i]? = some (.own xs) := by rfl) (hN : X.N[i]? = some n := by rfl)
    (hv : Vis X.env.scope n := by first | exact Or.inl rfl | exact Or.inr (Or.inl rfl) | exact Or.inr (Or.inr rfl)) (hd : (n == ("__debug__" : Str)) = false := by decide) (hcd : (n == ("__classdict__" : Str)) = false := by decide)
    (hs : swapsWithSole [.Subscript (.Name n p1) b p2] e pos.line X.env = pure false := by rfl) (hw : swappedStores [.Subscript (.Name n p1) b p2] e X.env = pure none := by rfl) (h1 : (assignEach [.Subscript (.Name n p1) b p2] X.env).map (·.2) = [assign (.Subscript (.Name n p1) b p2) X.env] := by rfl)
    (hsub : ∀ v, assign (.Subscript (.Name n p1) b p2) X.env v = (do
      let ov ← holding [v] (eval (.Name n p1) X.env)
      let iv ← holding [v, ov] (eval b X.env)
      standAt p2
      holding [v, ov, iv] (setItem ov iv v)
      release [v, ov, iv] []) := by intro _; rfl) : SJ X ρ (.Assign [.Subscript (.Name n p1) b p2] e pos) nx rt bk ct := fun F σ H0 H D r k1 k2 k3 k4 =>
  WS.of (ps_asg pe_we (pg_sub (pe_var hN hv hd hcd) pe_we set_list hsub) hs hw h1) (he F σ H0 H _ r fun v H1 H' s r' pv => by
    obtain ⟨p0, vs0, e1, _⟩ := r'.sl i _ hr
    refine ⟨_, e1, hb F σ H1 H' _ r' fun w H2 H'' s2 r2 pw => ?_⟩
    cases pw
    obtain ⟨p, vs, f1, f2, f3, f4, f5, f6⟩ := r2.sl i _ hr
    rw [e1] at f1; cases f1
    refine ⟨_, vs, j, jn, rfl, rfl, f5, by rw [f6.len]; exact hj, ?_⟩
    exact k1 _ σ _ _ (s.trans s2) (r2.mutate (s := .own (xs.set jn x)) hr rfl e1 rfl f2 f3 f4 ⟨_, _, rfl, f2, f3, f4, upd_same, f6.set jn (pv.mono s2)⟩) q)
/-- own.extend(e) -/
theorem sj_extend (i : Nat) {n : Str} {p1 p2 p3 : Pos} {xs ys : List D} (he : EE X ρ e ρ1 (.list ys)) (hl : xs.length + ys.length ≤ 100000) (q : nx (ρ1.set i (.own (xs ++ ys)))) (hr : ∃ xs, ρ[i]? = some (.own xs)) (hr1 : ρ1[i]? = some (.own xs) := by rfl) (hN : X.N[i]? = some n := by rfl)
    (hv : Vis X.env.scope n := by first | exact Or.inl rfl | exact Or.inr (Or.inl rfl) | exact Or.inr (Or.inr rfl)) (hd : (n == ("__debug__" : Str)) = false := by decide) (hcd : (n == ("__classdict__" : Str)) = false := by decide)
    (hs : swapsWith (.Call (.Attribute (.Name n p1) "extend" p2) [e] [] p3) none pos.line X.env = pure false := by rfl)
    (hbase : attributeBase (.Name n p1) "extend" X.env (eval (.Name n p1) X.env) = eval (.Name n p1) X.env := by rfl)
    (hfew : ((backTo p3 (starEach (e :: []) X.env)).all (fun x => !x.1) && (backToKw p3 (keywordEach [] X.env)).all (fun x => x.1.isSome)
      && decide ((e :: ([] : List Expr)).length + ([] : List Keyword).length + (if ([] : List Keyword).isEmpty then 0 else 1) < 30)) = true := by rfl)
    (hline : (p2.endLine == p3.line) = true := by rfl) (hst : starEach (e :: []) X.env = (false, eval e X.env) :: starEach [] X.env := by rfl) (hplain : (backTo p3 (starEach [] X.env)).any (·.1) = false := by rfl) :
    SJ X ρ (.Expr (.Call (.Attribute (.Name n p1) "extend" p2) [e] [] p3) pos) nx rt bk ct := fun F σ H0 H D r k1 k2 k3 k4 => by
  obtain ⟨xs0, hr⟩ := hr
  obtain ⟨p, vs, e1, e2, e3, e4, e5, e6⟩ := r.sl i _ hr
  refine WS.of (ps_expr (pe_bm PySem.F.plainAttrs_list PySem.F.slot_list_extend PySem.F.type_list_extend mt_extend (pe_var hN hv hd hcd) (pa_cons pe_we pa_nil hst) hbase hfew hline hst hplain) hs) ?_
  refine ⟨.ref p, e1, .inl ⟨rfl, _, SqL.of e5⟩, he F σ H0 H _ r fun v H0' H' s r' py => ?_⟩
  obtain ⟨p', vs', f1, f2, f3, f4, f5, f6⟩ := r'.sl i _ hr1
  rw [e1] at f1; cases f1
  cases py with
  | lst hs2 hx2 =>
    refine ⟨p, _, vs', _, rfl, rfl, f5, r'.ex _ _ hs2, by rw [f6.len, hx2.len]; exact Nat.le_trans hl (show 100000 ≤ sizeLine by decide), ?_⟩
    exact k1 _ σ _ _ s (r'.mutate (s := .own (xs ++ ys)) hr1 rfl e1 rfl f2 f3 f4 ⟨p, _, rfl, f2, f3, f4, upd_same, f6.append hx2⟩) q
/-- a, b = e1, e2 -/
theorem sj_par (i j : Nat) {n1 n2 : Str} {px py pt pt2 : Pos} {kt k2 : Nat} (ha : EE X ρ a ρ1 x) (hb : EE X ρ1 b ρ2 y) (q : nx ((ρ2.set i (.d x)).set j (.d y))) (hi : X.N[i]? = some n1 := by rfl) (hj : X.N[j]? = some n2 := by rfl) (hij : i ≠ j := by decide) (hN : X.N.Nodup := by assumption) (hc : X.calm = true := by rfl)
    (hx : X.env.scope.names.lookup n1 = some .local := by rfl) (hy : X.env.scope.names.lookup n2 = some .local := by rfl) (hs1 : starEach [a, b] X.env = (false, eval a X.env) :: starEach [b] X.env := by rfl) (hs2 : starEach [b] X.env = (false, eval b X.env) :: starEach [] X.env := by rfl)
    (hw : swappedStores [.Tuple [.Name n1 px, .Name n2 py] kt pt] (.Tuple [a, b] k2 pt2) X.env = pure (some [n1, n2]) := by rfl)
    (hs : swapsWithSole [.Tuple [.Name n1 px, .Name n2 py] kt pt] (.Tuple [a, b] k2 pt2) pos.line X.env = pure false := by rfl) :
    SJ X ρ (.Assign [.Tuple [.Name n1 px, .Name n2 py] kt pt] (.Tuple [a, b] k2 pt2) pos) nx rt bk ct := fun F σ H0 H D r k1 k2 k3 k4 =>
  WS.of (ps_par hc hN hi hj hij hx hy (pa_cons pe_we (pa_cons pe_we pa_nil hs2) hs1) hw hs) (two ha hb r fun v w H1 H' s r' p1 p2 => ⟨v, w, rfl, k1 _ _ _ _ s ((r'.setD p1).setD p2) q⟩)
/-- a, b = [], e2 and the like: the first a new list -/
theorem sj_parO (i j : Nat) {n1 n2 : Str} {px py pt pt2 : Pos} {kt k2 : Nat} {xs : List D} (ha : EO X ρ a ρ1 xs) (hb : EE X ρ1 b ρ1 y) (q : nx ((ρ1.set i (.own xs)).set j (.d y))) (hi : X.N[i]? = some n1 := by rfl) (hj : X.N[j]? = some n2 := by rfl) (hij : i ≠ j := by decide) (hN : X.N.Nodup := by assumption) (hc : X.calm = true := by rfl)
    (hx : X.env.scope.names.lookup n1 = some .local := by rfl) (hy : X.env.scope.names.lookup n2 = some .local := by rfl) (hs1 : starEach [a, b] X.env = (false, eval a X.env) :: starEach [b] X.env := by rfl) (hs2 : starEach [b] X.env = (false, eval b X.env) :: starEach [] X.env := by rfl)
    (hw : swappedStores [.Tuple [.Name n1 px, .Name n2 py] kt pt] (.Tuple [a, b] k2 pt2) X.env = pure (some [n1, n2]) := by rfl)
    (hs : swapsWithSole [.Tuple [.Name n1 px, .Name n2 py] kt pt] (.Tuple [a, b] k2 pt2) pos.line X.env = pure false := by rfl) :
    SJ X ρ (.Assign [.Tuple [.Name n1 px, .Name n2 py] kt pt] (.Tuple [a, b] k2 pt2) pos) nx rt bk ct := fun F σ H0 H D r k1 k2 k3 k4 =>
  WS.of (ps_par hc hN hi hj hij hx hy (pa_cons pe_we (pa_cons pe_we pa_nil hs2) hs1) hw hs) (ha F σ H0 H _ r fun p vs H1 H' s he hd r' ra => hb _ σ H1 H' _ r' fun w H2 H'' s2 r2 p2 => ⟨_, w, rfl, k1 _ _ _ _ (s.trans s2) ((r2.setOwn (i := i) he hd (ra.mono s2)).setD p2) q⟩)
/-- both new lists -/
theorem sj_parOO (i j : Nat) {n1 n2 : Str} {px py pt pt2 : Pos} {kt k2 : Nat} {xs ys : List D} (ha : EO X ρ a ρ1 xs) (hb : EO X ρ1 b ρ1 ys) (q : nx ((ρ1.set i (.own xs)).set j (.own ys))) (hi : X.N[i]? = some n1 := by rfl) (hj : X.N[j]? = some n2 := by rfl) (hij : i ≠ j := by decide) (hN : X.N.Nodup := by assumption) (hc : X.calm = true := by rfl)
    (hx : X.env.scope.names.lookup n1 = some .local := by rfl) (hy : X.env.scope.names.lookup n2 = some .local := by rfl) (hs1 : starEach [a, b] X.env = (false, eval a X.env) :: starEach [b] X.env := by rfl) (hs2 : starEach [b] X.env = (false, eval b X.env) :: starEach [] X.env := by rfl)
    (hw : swappedStores [.Tuple [.Name n1 px, .Name n2 py] kt pt] (.Tuple [a, b] k2 pt2) X.env = pure (some [n1, n2]) := by rfl)
    (hs : swapsWithSole [.Tuple [.Name n1 px, .Name n2 py] kt pt] (.Tuple [a, b] k2 pt2) pos.line X.env = pure false := by rfl) :
    SJ X ρ (.Assign [.Tuple [.Name n1 px, .Name n2 py] kt pt] (.Tuple [a, b] k2 pt2) pos) nx rt bk ct := fun F σ H0 H D r k1 k2 k3 k4 =>
  WS.of (ps_par hc hN hi hj hij hx hy (pa_cons pe_we (pa_cons pe_we pa_nil hs2) hs1) hw hs) (ha F σ H0 H _ r fun p vs H1 H' s he hd r' ra => hb _ σ H1 H' _ r' fun p2 vs2 H2 H'' s2 he2 hd2 r2 ra2 => by
    have hne : p2 ≠ p := fun z => by
      subst z
      have : (F.pin p2 (.lst vs)).He p2 = some (.lst vs) := upd_same
      rw [this] at he2; cases he2
    have he2' : F.He p2 = none := by rw [← pin_he (o := .lst vs) hne]; exact he2
    -- swap the pins
    obtain ⟨r3, q1, q2, q3⟩ := r2.unpinned he2 hd2
    have r4 := r3.setOwn (i := i) he hd (ra.mono s2)
    have r5 : Rel (F.pin p2 (.lst vs2)) (ρ1.set i (.own xs)) (σ.set i (some (.ref p))) H2 H'' := r4.pinned q1 q2 (fun m s' hs ho z => by
      rcases get_set hs with ⟨e1, e2⟩ | ⟨e1, e2⟩
      · subst e1
        rcases get_set z with ⟨_, e4⟩ | ⟨e3, _⟩
        · have : (V.ref p2) = .ref p := Option.some.inj e4
          exact hne (by injection this)
        · exact absurd rfl e3
      · rw [List.getElem?_set_ne (Ne.symm e1)] at z
        exact q3 m s' e2 ho z)
    exact ⟨_, _, rfl, k1 _ _ _ _ (s.trans s2) (r5.setOwn (i := j) he2' hd2 ra2) q⟩)
/-- a, b = e, e a tuple -/
theorem sj_unpack {tg : Expr} (he : EE X ρ e ρ1 x) {vs : List Nat} (hg : GJ X ρ1 tg x vs ρ2) (q : nx ρ2) (hs : swapsWithSole [tg] e pos.line X.env = pure false := by rfl) (hw : swappedStores [tg] e X.env = pure none := by rfl)
    (h1 : (assignEach [tg] X.env).map (·.2) = [assign tg X.env] := by rfl) : SJ X ρ (.Assign [tg] e pos) nx rt bk ct := fun F σ H0 H D r k1 k2 k3 k4 =>
  WS.of (ps_asg pe_we pg_wg hs hw h1) (he F σ H0 H _ r fun v H1 H' s r' p => hg F σ H1 H' v _ r' p fun σ' r2 _ => k1 _ _ _ _ s r2 q)
/-- the same by ways -/
theorem sj_expr_never (h : False) {s : Stmt} : SJ X ρ s nx rt bk ct := h.elim
end
end DL
namespace DL
theorem k_ii : L2.kitB "int" "int" = some true := by decide +kernel
theorem k_ib : L2.kitB "int" "bool" = some false := by decide +kernel
theorem k_bi : L2.kitB "bool" "int" = some true := by decide +kernel
theorem k_bb : L2.kitB "bool" "bool" = some true := by decide +kernel
theorem k_tt : L2.kitB "tuple" "tuple" = some true := by decide +kernel
theorem k_tl : L2.kitB "tuple" "list" = some false := by decide +kernel
theorem k_it : L2.kitB "int" "tuple" = some false := by decide +kernel
theorem k_il : L2.kitB "int" "list" = some false := by decide +kernel
theorem k_id : L2.kitB "int" "dict" = some false := by decide +kernel
theorem k_is : L2.kitB "int" "str" = some false := by decide +kernel
end DL
set_option Elab.async false
set_option linter.all false
set_option maxRecDepth 100000
set_option maxHeartbeats 1000000
/-! DL8: sorted, enumerate of a tuple, plain tuples, sets, over data -/
namespace DL
open PySem PySem.Spec PyProof.Rows L2
section
variable {X : Cx} {pins : List (Addr × Obj)} {σ : L2.St} {H : Hp} {s : Shared} {β : Type}
theorem each_of {enc : β → D} : ∀ {bs : List β} {xs : List V} {its : List Value}, Vals xs its → RpA H xs (bs.map enc) → PySem.W.EachIs (fun v b => ∃ x, RelV x v ∧ Rp H x (enc b)) its bs
  | [], _, _, rv, ra => by cases ra; cases rv; exact .nil
  | b :: bs, _, _, rv, ra => by
    cases ra with
    | cons h1 h2 =>
      cases rv with
      | cons r1 r2 => exact .cons ⟨_, r1, h1⟩ (each_of r2 h2)
theorem each_back {enc : β → D} : ∀ {bs : List β} {its : List Value}, PySem.W.EachIs (fun v b => ∃ x, RelV x v ∧ Rp H x (enc b)) its bs → ∃ xs, Vals xs its ∧ RpA H xs (bs.map enc)
  | [], _, h => by cases h; exact ⟨[], .nil, .nil⟩
  | b :: bs, _, h => by
    cases h with
    | cons h1 h2 =>
      obtain ⟨x, r1, p1⟩ := h1
      obtain ⟨xs, r2, p2⟩ := each_back h2
      exact ⟨x :: xs, .cons r1 r2, .cons p1 p2⟩
/-- sorted(xs) of data alike -/
def rSortD (K : PySem.W.Frag) {β : Type} (enc : β → D) (bs : List β) : List V → Hp → VK → Prop := fun vs H Q => ∃ a xs H0, vs = [V.ref a] ∧ SqL K H a xs ∧ Same H0 H ∧ RpA H0 xs (bs.map enc) ∧
  ∀ ys p, RpA H0 ys ((bs.mergeSort (PySem.W.dataLe false fun b => toPy (enc b))).map enc) → H p = none → Q (.ref p) (upd H p (.lst ys))
theorem cr_sortD (enc : β → D) (bs : List β) (hal : PySem.W.AllAlike (bs.map fun b => toPy (enc b))) (hk : PySem.W.Sortable (bs.map fun b => toPy (enc b))) (hL : bs.length ≤ sizeLine) (hu : ∀ b, b ∈ bs → X.A.units + 2 + (toPy (enc b)).depth < cLine) (hcl : ∀ b, b ∈ bs → clean (enc b) = true) : CallR X (.builtin "sorted") (rSortD X.K enc bs) := by
  intro pins s σ H vs us Q I r h
  obtain ⟨a, xs, H0, rfl, hs, sm, ra, q⟩ := h
  obtain ⟨its, rv, hl, hz⟩ := I.list hs
  obtain ⟨u, rfl, ru⟩ := vals1 r
  obtain rfl : u = Value.ref a := ru
  have e := each_of rv ra
  refine PySem.W.sorted_data hl.isList e ((PySem.W.each_mem e).mono fun v b ⟨⟨x, r1, p1⟩, hb⟩ => Dp.reads I _ _ _ ((p1.mono sm).dp _ _ (hcl b hb)) r1) hal hk hL hu fun out ho eo => ?_
  obtain ⟨ys, rvy, ray⟩ := each_back eo
  obtain ⟨c, hc⟩ := sortedAll_at s.heap its out.toArray
  have hd : s.heap.objs.size ≤ s.heap.objs.size + 1 := Nat.le_succ _
  refine ⟨.ref (s.heap.objs.size + 1), upd H (s.heap.objs.size + 1) (.lst ys), I.laid (t' := s.toks) (fun b o => sortedAll_old) hd ⟨?_, out, c, rvy, hc⟩, rfl, q ys _ ray (I.hok.fresh hd)⟩
  rw [ray.len, List.length_map, List.length_mergeSort]
  exact hL
end
section
variable {X : Cx} {ρ ρ1 ρ2 ρ3 : List Sl} {e a b c : Expr} {es : List Expr} {x y z : D} {pos : Pos} {k : Nat} {β : Type}
theorem eo_sorted {p : Pos} (enc : β → D) (bs : List β) (le : β → β → Bool) (hm : X.mg "sorted" = none) (hr : Room k X.A) (ha : EE X ρ a ρ1 (.list (bs.map enc))) (hle : (PySem.W.dataLe false fun b => toPy (enc b)) = le) (hal : PySem.W.AllAlike (bs.map fun b => toPy (enc b))) (hk : PySem.W.Sortable (bs.map fun b => toPy (enc b))) (hL : bs.length ≤ 100000)
    (hd : ∀ b, b ∈ bs → (toPy (enc b)).depth ≤ 50) (hcl : ∀ b, b ∈ bs → clean (enc b) = true) (hg : Gl X "sorted" := by rfl) (he : starEach [a] X.env = (false, eval a X.env) :: starEach [] X.env := by rfl) (hpl : (backTo pos (starEach [] X.env)).any (·.1) = false := by rfl) : EO X ρ (.Call (.Name "sorted" p) [a] [] pos) ρ1 ((bs.mergeSort le).map enc) := fun F σ H0 H Q r kk =>
  WE.of (pe_callB (cr_sortD enc bs hal hk (Nat.le_trans hL (show 100000 ≤ sizeLine by decide)) (fun b hb => by have := hd b hb; have := hr.units; omega) hcl) hg hm (by decide +kernel) (pa_cons pe_we pa_nil he) (by decide) (by decide) he hpl) (ha F σ H0 H _ r fun v H1 H' s r' pv => by
    cases pv with
    | lst hs hx =>
      refine ⟨_, _, H1, rfl, SqL.of (r'.ex _ _ hs), r'.ex, hx, fun ys p ry hp => ?_⟩
      rw [hle] at ry
      exact kk p ys H1 _ s (r'.he_none hp) (r'.dk_none hp) (r'.newPin hp) ry)
end
end DL
set_option Elab.async false
set_option linter.all false
set_option maxRecDepth 100000
set_option maxHeartbeats 4000000
/-! DL9: plain tuples, enumerate of a tuple, min of two tuples, sets of ints, over data -/
namespace DL
open PySem PySem.Spec PyProof.Rows L2
section
variable {X : Cx} {pins : List (Addr × Obj)} {σ : L2.St} {H : Hp} {s : Shared}
/-- tuple(list): the new tuple, its object known -/
theorem cr_tupP : CallR X (.type "tuple") (fun xs H Q => ∃ p ys, xs = [.ref p] ∧ SqL X.K H p ys ∧ ∀ l o, H l = none → o.dict = none → Q (.ref l) (upd H l (.frz o (.tup ys)))) := by
  intro pins s σ H xs us Q I r h
  obtain ⟨p, ys, rfl, hq, q⟩ := h
  obtain ⟨u, rfl, rx⟩ := vals1 r
  cases rx
  obtain ⟨its, rv, pl, hz⟩ := I.list hq
  refine call_tuple_list pl.isList (fun h' kp => ?_) (by have := rv.length; simp only [List.size_toArray]; omega)
  have J : Inv X pins σ H { s with heap := h' } := I.kept (t' := s.toks) kp
  have hn : H h'.objs.size = none := J.hok.fresh (Nat.le_refl _)
  refine ⟨.ref h'.objs.size, _, J.laid (t' := s.toks) (a := h'.objs.size) (o := .frz { cls := .type "tuple", data := .seq its.toArray } (.tup ys)) (fun b o e => Heap.get?_push_of_some _ e) (Nat.le_refl _) ⟨Heap.get?_push_size _ rfl, hz, its, rv, IsTup.new _ _⟩, rfl, q _ _ hn rfl⟩
/-- the tuple at a as it stands at each turn, each item in a new pair -/
def IteT (K : PySem.W.Frag) (a : Addr) : It :=
  ⟨fun i H => ∃ (xs : List V) (x : V), SqT K H a xs ∧ xs[i]? = some x, fun i H v H' => ∃ T x, v = .ref T ∧ H T = none ∧ H' = upd H T (.tup [.int (i : Nat), x]) ∧ ∀ xs, SqT K H a xs → xs[i]? = some x, fun i H => ∃ xs : List V, SqT K H a xs ∧ xs.length ≤ i⟩
theorem turn_enumT {P : Program} {w : World} {K : PySem.W.Frag} {elts : List Expr} {kk : Nat} {tpos : Pos} (a e it : Addr) :
    Turn P w K (.Tuple elts kk tpos) (IteT K a) [e, it] e (fun i h => (∃ old, IsEnum h e it ((i : Nat) : Int) old) ∧ h.IsTupleIter it a i ∧ e ≠ it ∧ a ≠ it ∧ a ≠ e) where
  mem := by simp
  obj := fun i h st b hb => by
    obtain ⟨⟨old, he⟩, ⟨o, ho, hc, hd⟩, _⟩ := st
    rcases (show b = e ∨ b = it by simpa using hb) with z | z
    · rw [z]; exact ⟨_, he, fun v q => nomatch q⟩
    · rw [z]; exact ⟨o, ho, fun v q => by rw [hd] at q; cases q⟩
  keep := fun i h h' st k => let ⟨⟨old, he⟩, hi, hne⟩ := st; ⟨⟨old, k e (by simp) _ he⟩, hi.at fun o q => k it (by simp) o q, hne⟩
  item := by
    intro Y hP hw hK hc i pins s σ H E I hf st hg
    subst hP hw hK
    obtain ⟨⟨old, he⟩, hit, hne, ha1, ha2⟩ := st
    obtain ⟨xs, x, hq, hx⟩ := hg
    obtain ⟨its, rv, p, hz⟩ := I.tuple hq
    obtain ⟨u, hu, ru⟩ := rv.get hx
    have hel : e < s.heap.objs.size := Heap.lt_size he
    have hil : it < s.heap.objs.size := by obtain ⟨_, q, _⟩ := hit; exact Heap.lt_size q
    have hlt : i < its.toArray.size := by
      rw [List.size_toArray]
      exact (List.getElem?_eq_some_iff.mp hu).1
    refine wpAny_pyNext_enum_itemD (Draws.tuple (A := Y.A.in1) (I.ok.hd hc) it a ha1 its.toArray) he ⟨hit, p⟩ hlt hne (by simp only [List.mem_cons, List.not_mem_nil, or_false, not_or]; exact ⟨hne, Ne.symm ha2⟩) fun z h' tk hz' ho hst' hT hsz hk => ?_
    have ez : z = u := by
      have q : its[i]? = some z := by simpa using hz'
      rw [hu] at q; exact (Option.some.inj q).symm
    subst ez
    refine ⟨_, rfl, wpAny_letOwnedTupleGo_enum (s := { s with heap := h', toks := tk + 1 }) ho fun h'' he' sb => ?_⟩
    have hT2 : h''.get? s.heap.objs.size = some { cls := .type "tuple", data := .seq #[.int i tk, z] } := (sb.2 _ (Nat.ne_of_gt hel)).trans hT
    have J : Inv Y pins σ (upd H s.heap.objs.size (.tup [.int (i : Nat), x])) { s with heap := h'', toks := tk + 1 } :=
      I.turnedNew (ch := [e, it]) (fun b ob hb q => (sb.2 b (fun y => hb (by simp [y]))).trans (hk b ob (fun y => hb (by simp [y])) (fun y => hb (by simp [y])) q)) hf (Nat.le_refl _)
        ⟨by show 2 ≤ sizeLine; decide, [.int i tk, z], .cons ⟨_, rfl⟩ (.cons ru .nil), ⟨_, hT2, rfl, _, rfl⟩⟩
    refine ⟨.ref s.heap.objs.size, _, J, rfl, ⟨_, x, rfl, I.hok.fresh (Nat.le_refl _), rfl, fun ys hy => by rw [I.tuple_inj hy hq]; exact hx⟩, ⟨⟨z, ?_⟩, hst'.1.at fun o q => (sb.2 it (Ne.symm hne)).trans q, hne, ha1, ha2⟩, fun b hb => ?_⟩
    · rw [show ((i + 1 : Nat) : Int) = (i : Int) + 1 by omega]; exact he'
    · have hb' : b < s.heap.objs.size := by
        rcases (show b = e ∨ b = it by simpa using hb) with y | y
        · rw [y]; exact hel
        · rw [y]; exact hil
      rw [upd_ne (Nat.ne_of_lt hb')]
      exact (hf b hb).1
  done := by
    intro Y hP hw hK hc i pins s σ H E I hf st hg
    subst hP hw hK
    obtain ⟨⟨old, he⟩, hit, hne, ha1, ha2⟩ := st
    obtain ⟨xs, hq, hx⟩ := hg
    obtain ⟨its, rv, p, hz⟩ := I.tuple hq
    have hl := rv.length
    obtain ⟨f0, f1, f2, f3, f4, f5⟩ := hf it (by simp)
    have hT : s.TypeIs (.ref e) "enumerate" := ⟨_, he, rfl⟩
    unfold pyNext
    refine wpAny_bind (wpAny_attempt (wpAny_callSpecial?_slot (name := Str.ofString "__next__") hT F.slot_enumerate_next (wpAny_call_entry F.slot_enumerate_next hT F.entry_enumerate_next ?_ (F.args_enumerate_next_1 _))))
    show wpAny _ _ (field (.ref e) 2 >>= _) _ _ _
    refine wpAny_bind (wpAny_field he rfl (x := .ref it) rfl ?_)
    refine wpAny_bind (wpAny_nextOf_tuple_end (I.ok.hd hc) hit p (by simp; omega) fun h' y he' hy => ?_)
    obtain ⟨o, ho, hcl⟩ := hy
    refine wpAny_bind (wpAny_isInstance (T := "StopIteration") (b := true) ⟨o, ho, hcl⟩ isSubtype_stop ?_)
    exact wpAny_pure ⟨rfl, I.turned (t' := s.toks) (fun b o hb q => he' b o hb q) f0 f1 f3 f4 f5⟩
  self := fun A i s Q E st h => let ⟨⟨_, he⟩, _⟩ := st; wpAny_pyIter_enum he h
set_option maxHeartbeats 4000000 in
theorem meets_enumT (l : Addr) (items : Array Value) (n : Nat) (dct : Option Addr) (sl : Array (Option Value)) :
    Meets (Builtin.«enumerate.__new__» ⟨[.type "enumerate", .ref l], []⟩) (fun _ R s => s.heap.get? l = some { cls := .type "tuple", dict := dct, data := .seq items n, slots := sl } ∧
      R (.ok (.ret (.ref (s.heap.push { cls := .type "tuple_iterator", data := .fields #[.ref l, .int 0 0] }).objs.size)))
        { s with heap := (s.heap.push { cls := .type "tuple_iterator", data := .fields #[.ref l, .int 0 0] }).push { cls := .type "enumerate", data := .fields #[.none, .bool false, .ref s.heap.objs.size, rawInt 0, .none, .none] } }) :=
  .of_wp fun prog w A R s h => by
    obtain ⟨hp, g, d, tk, os⟩ := s; obtain ⟨hl, h⟩ := h
    have hsub := sub_enumerate
    have hL : Heap.IsTuple (Shared.heap ⟨hp, g, d, tk, os⟩) l items := ⟨_, hl, rfl, n, rfl⟩
    have q1 : ∀ {A' : Around} {E : Value → Shared → Prop} {Q : Value → Shared → Prop}, Q (.ref hp.objs.size) ⟨hp.push { cls := .type "tuple_iterator", data := .fields #[.ref l, .int 0 0] }, g, d, tk, os⟩ → wpAny (model prog w) A' (pyIter (.ref l)) Q E ⟨hp, g, d, tk, os⟩ :=
      fun q => wpAny_pyIter_tuple hL q
    wp_walk using AutoSeq1.wpAny_loadPart' hl
    refine wpAny_stack_any fun st => wpAny_pure ?_
    split
    · rename_i c _ _ _ _ _
      cases (c == Value.type "enumerate")
      · wp_walk using AutoSeq1.wpAny_loadPart' hl, q1
        exact ⟨_, rfl, h⟩
      · wp_walk using AutoSeq1.wpAny_loadPart' hl, q1
        exact ⟨_, rfl, h⟩
    · wp_walk using AutoSeq1.wpAny_loadPart' hl, q1
      exact ⟨_, rfl, h⟩
theorem call_enumT {prog : Program} {w : World} {A : Around} {E : Value → Shared → Prop} {s : Shared} {l : Addr} {items : Array Value} {Q : Value → Shared → Prop} (hL : IsTup s.heap l items)
    (h : ∀ h', IsEnum h' (s.heap.objs.size + 1) s.heap.objs.size 0 .none → h'.IsTupleIter s.heap.objs.size l 0 → h'.objs.size = s.heap.objs.size + 2 → (∀ b o, s.heap.get? b = some o → h'.get? b = some o) → Q (.ref (s.heap.objs.size + 1)) { s with heap := h' }) :
    wpAny (model prog w) A (call (.type "enumerate") [.ref l]) Q E s := by
  obtain ⟨⟨c, dct, dt, sl⟩, hl, hc, n, hd⟩ := hL
  simp only at hc hd
  subst hc hd
  refine callType_new F.called_enumerate (by decide) (F.typeCall_enumerate_1 _) (F.newCall_enumerate_1 _) (fun obj => F.args_object_init_2 obj _) F.entry_enumerate_new (meets_enumT l items n dct sl) ⟨hl, ?_⟩
  have hz : (s.heap.push { cls := .type "tuple_iterator", data := .fields #[.ref l, .int 0 0] }).objs.size = s.heap.objs.size + 1 := Heap.size_push ..
  have he : IsEnum ((s.heap.push { cls := .type "tuple_iterator", data := .fields #[.ref l, .int 0 0] }).push { cls := .type "enumerate", data := .fields #[.none, .bool false, .ref s.heap.objs.size, rawInt 0, .none, .none] }) (s.heap.objs.size + 1) s.heap.objs.size 0 .none := by
    have q := Heap.get?_push_size (s.heap.push { cls := .type "tuple_iterator", data := .fields #[.ref l, .int 0 0] }) (o := { cls := .type "enumerate", data := .fields #[.none, .bool false, .ref s.heap.objs.size, rawInt 0, .none, .none] }) rfl
    rw [hz] at q; exact q
  show _ ∧ _
  rw [hz]
  exact ⟨⟨_, he, rfl⟩, h _ he ⟨_, Heap.get?_push_of_some _ (Heap.get?_push_size _ rfl), rfl, rfl⟩ (by rw [Heap.size_push, hz]) fun b o y => Heap.get?_push_of_some _ (Heap.get?_push_of_some _ y)⟩
def iEnumT (K : PySem.W.Frag) (ta : TA) : TI := fun σ H R => ta σ H fun vs H1 => ∃ a xs, vs = [.ref a] ∧ SqT K H1 a xs ∧ R (IteT K a) H1
theorem pi_enumT {X : Cx} {e : Expr} {ta : TA} {p pos tpos : Pos} {elts : List Expr} {kk : Nat} (hg : Gl X "enumerate") (hm : X.mg "enumerate" = none) (ha : PA X [e] ta) (hs : starEach [e] X.env = [(false, eval e X.env)] := by rfl) :
    PI X (.Tuple elts kk tpos) (.Call (.Name "enumerate" p) [e] [] pos) (iEnumT X.K ta) := by
  refine ⟨fun pins s σ H R I h => ?_⟩
  refine Call_ (ld_blt I hg hm boot_enumerate (PyProof.Rows.callWith_type1 (thn (ha.run pos pins s σ H _ I h) fun us s1 ⟨vs, H1, I1, r1, q1⟩ => ?_) hs rfl))
  obtain ⟨a, xs, ex, hq, q⟩ := q1
  subst ex
  cases r1 with
  | cons r rr =>
    cases rr
    cases r
    obtain ⟨its, rv, p', hz⟩ := I1.tuple hq
    have hal : a < s1.heap.objs.size := p'.lt
    refine call_enumT p' fun h' he hit hsz hk => wpAny_pyIter_enum he ?_
    refine ⟨s1.heap.objs.size + 1, [s1.heap.objs.size + 1, s1.heap.objs.size], _, _, H1, rfl, I1.kept (t' := s1.toks) hk, turn_enumT a (s1.heap.objs.size + 1) s1.heap.objs.size, ⟨⟨.none, he⟩, hit, Nat.succ_ne_self _, Nat.ne_of_lt hal, Nat.ne_of_lt (Nat.lt_succ_of_lt hal)⟩, fun b hb => ?_, q⟩
    have hle : s1.heap.objs.size ≤ b := by
      rcases (show b = s1.heap.objs.size + 1 ∨ b = s1.heap.objs.size by simpa using hb) with z | z
      · rw [z]; exact Nat.le_add_right _ _
      · rw [z]; exact Nat.le_refl _
    exact I1.fpOk hle (I1.hok.fresh hle)
end
end DL
set_option Elab.async false
set_option linter.all false
set_option maxRecDepth 100000
set_option maxHeartbeats 4000000
/-! DL10: min of two tuples, sets of ints, over data -/
namespace DL
open PySem PySem.Spec PyProof.Rows L2
open PySem.W (cmpIn_lt moved_old iter_tupleW AlikeAll)
section
variable {prog : Program} {w : World} {A : Around} {E : Value → Shared → Prop} {s : Shared}
/-- min(a, b) of two values that read as alike data -/
theorem min_two_data {a b : Value} {x y : PyData} {as bs : List Addr} {Q : Value → Shared → Prop} (hh : A.handled = none) (ra : Reads s.heap a x as) (rb : Reads s.heap b y bs) (hal : AlikeAll [x, y]) (hu : A.units + 1 + PyData.depthAll [x, y] < cLine)
    (h : ∀ h' tk, (∀ b o, s.heap.get? b = some o → h'.get? b = some o) → Q (if PySem.W.dataLt y x = true then b else a) { s with heap := h', toks := tk }) : wpAny (model prog w) A (call (.builtin "min") [a, b]) Q E s := by
  have hname : (toString "min" ++ toString ".loop" : String) = "min.loop" := by decide
  refine call_function_tree F.kind_min F.plain_min F.entry_min (F.args_min2 _ _) ?_
  show wpAny _ A.in1 (Builtin.Builtins.bindParams "min" ["key", "default"] 0 ⟨[], []⟩ >>= _) _ _ s
  refine wpAny_bind (wpAny_of_eq (show Builtin.Builtins.bindParams "min" ["key", "default"] 0 ⟨[], []⟩ = pure [none, none] from rfl) ?_)
  show wpAny _ A.in1 (newTuple [a, b] >>= _) _ _ s
  refine wpAny_bind (wpAny_newObj_type ?_)
  have kp1 : ∀ c o, s.heap.get? c = some o → (s.heap.push { cls := .type "tuple", data := .seq #[a, b] }).get? c = some o := fun c o e => Heap.get?_push_of_some _ e
  have hT : (s.heap.push { cls := .type "tuple", data := .seq #[a, b] }).IsTuple s.heap.objs.size #[a, b] := ⟨_, Heap.get?_push_size _ rfl, rfl, 0, rfl⟩
  obtain ⟨cs, rc⟩ : ∃ cs, ReadsAll (s.heap.push { cls := .type "tuple", data := .seq #[a, b] }) (#[a, b] : Array Value).toList [x, y] cs := ⟨_, .cons (Reads.keeps kp1 ra) (.cons (Reads.keeps kp1 rb) .nil)⟩
  refine wpAny_bind (wpAny_mono (iter_tupleW (A := A.in1) (s := { s with heap := s.heap.push { cls := .type "tuple", data := .seq #[a, b] } }) (Q := fun it s2 => ∃ (I : Addr) (fp wr : List Addr) (G : Array GenState → Array GenState → Prop) (n : Nat) (P : Nat → Value → Prop) (St : Nat → Shared → Prop) (H : Heap) (bt : Nat → Nat → Bool), it = .ref I ∧ WalksS prog w A.in1 I fp wr G n P St ∧ St 0 s2 ∧ (∀ b ∈ fp, b < s2.heap.objs.size) ∧ 0 < n ∧
      (∀ b o, H.get? b = some o → b ∉ wr) ∧ (∀ b o, H.get? b = some o → s2.heap.get? b = some o) ∧ CmpIn prog w A.in1 .Lt H P bt ∧ ∀ v s', P (argBest bt (n - 1)) v → Moved wr G s2 s' → Q v s') hh hT fun s2 e W st hfp hw hk => ?_) (fun it s2 h2 => ?_) fun _ _ e => e)
  · refine ⟨_, _, _, _, _, _, _, s.heap.push { cls := .type "tuple", data := .seq #[a, b] }, _, rfl, W, st, hfp, by show 0 < 2; decide, hw, hk, cmpIn_lt (A := A.in1) (s := { s with heap := s.heap.push { cls := .type "tuple", data := .seq #[a, b] } }) rc hal (by show A.units + 1 + _ < _; exact hu), fun v s' hP m => ?_⟩
    obtain ⟨h', tk, rfl, hk'⟩ := moved_old (s := { s with heap := s.heap.push { cls := .type "tuple", data := .seq #[a, b] } }) e rfl m
    have q := h h' tk fun c o e => hk' c o (kp1 c o e)
    have hv : v = if PySem.W.dataLt y x = true then b else a := by
      have hP2 : (#[a, b] : Array Value)[argBest (fun i j => PySem.W.dataLt (([x, y] : List PyData).getD i PyData.none) (([x, y] : List PyData).getD j PyData.none)) 1]? = some v := hP
      cases hc : PySem.W.dataLt y x <;> simp [argBest, hc] at hP2 <;> simp [hP2]
    rw [hv]; exact q
  · obtain ⟨I, fp, wr, G, n, P, St, H, bt, rfl, W, hst, hfp, hn, hw, hkeep, hcmp, hQ⟩ := h2
    refine wpAny_bind (wpAny_newObj_type ?_)
    have hSf : s2.heap.objs.size ∉ fp := fun hm => Nat.lt_irrefl _ (hfp _ hm)
    rw [hname]
    exact wpAny_pure ⟨plainId_quiet F.plain_min_loop _, codeAny_min_loop_firstH W H hw bt hcmp s2.heap.objs.size hSf (fresh_in hkeep) _ hn (fun b o e => Heap.get?_push_of_some _ (hkeep b o e)) (W.frame 0 s2 _ s2.toks hst (Nat.le_refl _) fun b _ o e => Heap.get?_push_of_some _ e) (Heap.get?_push_size _ rfl) fun v s' hP hm => hQ v s' hP (Moved.drop_new (tk := s2.toks) hm (Nat.le_refl _))⟩
end
section
variable {X : Cx} {pins : List (Addr × Obj)} {σ : L2.St} {H : Hp} {s : Shared}
theorem cr_minD {x y : D} (hc : X.calm = true) (hal : AlikeAll [toPy x, toPy y]) (hu : X.A.units + 1 + PyData.depthAll [toPy x, toPy y] < cLine) (hx' : clean x = true) (hy' : clean y = true) : CallR X (.builtin "min") (fun xs H Q => ∃ u v, xs = [u, v] ∧ Rp H u x ∧ Rp H v y ∧ Q (if PySem.W.dataLt (toPy y) (toPy x) = true then v else u) H) := by
  intro pins s σ H xs us Q I r h
  obtain ⟨u, v, rfl, hx, hy, q⟩ := h
  obtain ⟨u1, u2, rfl, r1, r2⟩ := vals2 r
  obtain ⟨as, ra⟩ := Dp.reads I _ _ _ (hx.dp _ _ hx') r1
  obtain ⟨bs, rb⟩ := Dp.reads I _ _ _ (hy.dp _ _ hy') r2
  refine min_two_data (I.ok.hd hc) ra rb hal hu fun h' tk kp => ?_
  refine ⟨_, H, I.kept (t' := tk) kp, ?_, q⟩
  cases PySem.W.dataLt (toPy y) (toPy x) with
  | true => rw [if_pos rfl, if_pos rfl]; exact r2
  | false => rw [if_neg Bool.false_ne_true, if_neg Bool.false_ne_true]; exact r1
/-- two duplicate-free lists with the same members -/
theorem same_len {α : Type} [DecidableEq α] {l m : List α} (h1 : l.Nodup) (h2 : m.Nodup) (h : ∀ k, k ∈ l ↔ k ∈ m) : l.length = m.length := ((List.perm_ext_iff_of_nodup h1 h2).mpr h).length_eq
/-- len(set(t)), t a tuple of different ints -/
def tLenSetT (K : PySem.W.Frag) (ta : TE) : TE := fun σ H Q => ta σ H fun x H1 => ∃ (l : Addr) (ns : List Int), x = .ref l ∧ SqT K H1 l (ns.map V.int) ∧ ns.Nodup ∧ ns.length ≤ 1000 ∧ Q (.int (ns.length : Nat)) H1
theorem pe_lenSetT {X : Cx} {a : Expr} {ta : TE} {p p2 q pos : Pos} (hg : Gl X "len") (hm : X.mg "len" = none) (hg2 : Gl X "set") (hm2 : X.mg "set" = none) (ha : PE X a ta) (hc : X.calm = true) (na : starEach [a] X.env = (false, eval a X.env) :: starEach [] X.env) (nb : starEach [.Call (.Name "set" p2) [a] [] q] X.env = (false, eval (.Call (.Name "set" p2) [a] [] q) X.env) :: starEach [] X.env) :
    PE X (.Call (.Name "len" p) [.Call (.Name "set" p2) [a] [] q] [] pos) (tLenSetT X.K ta) := by
  refine ⟨fun pins s σ H Q I h => ?_⟩
  refine Call_ (ld_blt I hg hm boot_len ?_)
  refine PyProof.Rows.callWith_builtin1 (PyProof.Rows.args_cons ?_ nb) nb rfl
  refine Call_ (ld_blt I hg2 hm2 boot_set ?_)
  refine PyProof.Rows.callWith_type1 (PyProof.Rows.args_cons (thn (ha.run pins s σ H _ I h) fun v s1 ⟨x, H1, I1, r1, q1⟩ => PyProof.Rows.args_nil ?_) na) na rfl
  obtain ⟨l, ns, rfl, hq, hnd, hl, q1⟩ := q1
  cases r1
  obtain ⟨its, r, pl, hz⟩ := I1.tuple hq
  refine call_set_tupI ns (I1.ok.hd hc) pl (by simpa using L2.intsAre_of r) (Nat.lt_of_le_of_lt (Nat.add_le_add_right hl 1) (show 1001 < scanBound by decide)) fun h' tk c hS hcl hk => ?_
  refine PyProof.Rows.args_nil ?_
  obtain ⟨o, es, ep, t, ho, hex, hd, _, hkn, hmem, _, hf, hn, _, _⟩ := hS
  have I2 : Inv X pins σ H1 { s1 with heap := h', toks := tk } := I1.kept (t' := tk) hk
  have hlen : es.size = ns.length := by
    have q := same_len hkn hnd fun k => by rw [← hmem k]; simp
    rw [List.length_map, Array.length_toList] at q
    exact q
  exact call_len_set ho hex hd hf (by rw [hlen]; omega) ⟨.int ns.length, H1, I2.tok _, ⟨_, by rw [hlen]⟩, q1⟩
end
/-! set(xs) of a list of ints -/
section
variable {P : Program} {w : World} {A : Around} {E : Value → Shared → Prop} {s : Shared}
abbrev emptySet (w : World) : Obj := { cls := .type "set", dict := none, data := .set #[] 0 (.fresh 0 0 (!w.params.followText "set-order")) }
set_option maxHeartbeats 8000000 in
theorem call_setL {l : Addr} {items : Array Value} (ns : List Int) {Q : Value → Shared → Prop} (hh : A.handled = none) (hl : s.heap.IsList l items) (hit : IntsAre items.toList ns) (hb : ns.length + 1 < scanBound)
    (h : ∀ (h' : Heap) (tk c : Nat), SetR w h' s.heap.objs.size (fun j => decide (j ∈ ns)) c → c ≤ ns.length → (∀ b o, s.heap.get? b = some o → h'.get? b = some o) → Q (.ref s.heap.objs.size) { s with heap := h', toks := tk }) :
    wpAny (model P w) A (call (.type "set") [.ref l]) Q E s := by
  have hn : items.size = ns.length := by have q := IntsAre.length hit; rw [Array.length_toList] at q; exact q
  obtain ⟨c, tl, hmro⟩ := F.called_set.mro
  have hmade := F.called_set.made
  have hsub := F.called_set.sub
  refine wpAny_call (codeAny_of_tree ?_)
  show wpAny _ _ (callAny (.type "set") _) _ _ _
  refine wpAny_pure ⟨Code.quiet_builtin _ (by decide +kernel), codeAny_builtin F.entry_type_call ?_⟩
  rw [Around.under_plain (weight_type_call_type "set" [.ref l] []) rfl]
  have h1 := F.called_set.notType
  have h2 := F.called_set.canCreate
  have hct := F.typeCall_set_1 (.ref l)
  repeat (any_goals (first | assumption | wp_step))
  refine codeAny_mono (code_set_led1 (.ref l) (E := E) (Q₁ := fun obj s₁ => obj = .ref s.heap.objs.size ∧ s₁ = { s with heap := s.heap.push (emptySet w) }) ⟨rfl, rfl⟩) fun r s₁ hr => ?_
  cases r with
  | error e => exact hr
  | ok fl =>
    cases fl with
    | ret obj =>
      obtain ⟨rfl, rfl⟩ := hr
      have hS : (s.heap.push (emptySet w)).get? s.heap.objs.size = some (emptySet w) := Heap.get?_push_size _ rfl
      have hT : Shared.TypeIs { s with heap := s.heap.push (emptySet w) } (.ref s.heap.objs.size) "set" := ⟨_, hS, rfl⟩
      have hli := F.called_set.init.lookup
      have hbi := F.called_set.init.bind (.ref s.heap.objs.size)
      repeat (any_goals (first | assumption | wp_step))
      refine codeAny_mono (codeAny_call_builtin (R := wants (fun r s₂ => r = .none ∧ ∃ h' tk c, s₂ = { s with heap := h', toks := tk } ∧ SetR w h' s.heap.objs.size (fun j => decide (j ∈ ns)) c ∧ c ≤ ns.length ∧
          (∀ b o, s.heap.get? b = some o → h'.get? b = some o)) E) F.called_set.init.plain F.entry_set_init (check_set_init_1 hT ?_)) fun r₂ s₂ hr₂ => ?_
      · obtain ⟨ol, hol, hcl, nl, hdl⟩ := hl
        obtain ⟨ocls, odict, odata, oslots⟩ := ol
        simp only at hcl hdl
        subst hcl; subst hdl
        have hol' : (s.heap.push (emptySet w)).get? l = some { cls := .type "list", dict := odict, data := .seq items nl, slots := oslots } := Heap.get?_push_of_some _ hol
        have hsls := F.sub_list_set
        have hslf := F.sub_list_frozenset
        have hne : (Value.type "list" == Value.type "dict") = false := by decide
        have hl1 : (s.heap.push (emptySet w)).IsList l items := ⟨_, hol', rfl, nl, rfl⟩
        unfold Builtin.«set.__init__» noKeywords Builtin.Frozenset.updateFrom
        generalize hPI : pyIter = PI
        wp_walk
        subst hPI
        refine wpAny_pyIter_list hl1 ?_
        refine wpAny_bind (wpAny_runValue ?_)
        have hlS : l < s.heap.objs.size := Heap.lt_size hol
        have hh3 : A.in1.in1.in1.handled = none := by simp [hh]
        have hz1 : (s.heap.push (emptySet w)).objs.size = s.heap.objs.size + 1 := Heap.size_push ..
        have hneI : l ≠ (s.heap.push (emptySet w)).objs.size := by rw [hz1]; exact Nat.ne_of_lt (Nat.lt_succ_of_lt hlS)
        have hSf : s.heap.objs.size ∉ [(s.heap.push (emptySet w)).objs.size, l] := by
          rw [hz1]; simp only [List.mem_cons, List.not_mem_nil, or_false, not_or]
          exact ⟨Nat.ne_of_lt (Nat.lt_succ_self _), Nat.ne_of_gt hlS⟩
        have hval : ∀ (i : Nat) (v : Value), items[i]? = some v → ∃ k t, ns[i]? = some k ∧ v = .int k t := fun i v hv => by
          have hi : i < ns.length := by rw [← hn]; exact (Array.getElem?_eq_some_iff.mp hv).1
          obtain ⟨t, e⟩ := PyProof.Rows.IntsAre.int_at hit i v (by rw [Array.getElem?_toList]; exact hv)
          refine ⟨ns[i], t, List.getElem?_eq_getElem hi, ?_⟩
          rw [e, List.getD_eq_getElem?_getD, List.getElem?_eq_getElem hi] <;> rfl
        refine set_update_ints ((Walks.list hh3 _ l hneI items).toS) s.heap.objs.size hSf ns hn hb hval (items.size - 0) 0 _ (by omega) (Nat.zero_le _)
          ⟨⟨_, Heap.get?_push_size _ rfl, rfl, rfl⟩, (hl1.push _)⟩ ⟨0, Nat.le_refl 0, setR_new_at (Heap.get?_push_of_some _ hS)⟩ ?hR
        case hR =>
          intro s' c' hm hc' hS'
          obtain ⟨h', g2, d', tk', os'⟩ := s'
          have eg : g2 = s.gens := hm.gens
          have ed : d' = s.drawn := hm.drawn
          have eo : os' = s.os := hm.os
          subst eg; subst ed; subst eo
          show wpAny _ _ _ _ _ _
          refine wpAny_pure ?_
          show wpAny _ _ (ret Value.none) _ _ _
          rw [hn] at hc'
          refine wpAny_pure ⟨rfl, h', tk', c', rfl, hS', hc', fun b o e => ?_⟩
          have hb0 : b < s.heap.objs.size := Heap.lt_size e
          refine hm.heap b o ?_ (Heap.get?_push_of_some _ (Heap.get?_push_of_some _ e))
          rw [hz1]
          simp only [List.mem_cons, List.not_mem_nil, or_false, not_or]
          exact ⟨Nat.ne_of_lt hb0, Nat.ne_of_lt (Nat.lt_succ_of_lt hb0)⟩
      · cases r₂ with
        | error e => exact hr₂
        | ok fl₂ =>
          cases fl₂ with
          | ret r =>
            obtain ⟨rfl, h', tk, c', rfl, hS', hc', hk'⟩ := hr₂
            repeat (any_goals (first | assumption | wp_step))
            exact h _ _ _ hS' hc' hk'
          | _ => exact hr₂.elim
    | _ => exact hr.elim
end
section
variable {X : Cx}
theorem cr_setL (hc : X.calm = true) : CallR X (.type "set") (fun xs H Q => ∃ (l : Addr) (ns : List Int), xs = [.ref l] ∧ SqL X.K H l (ns.map V.int) ∧ ns.length ≤ 1000 ∧ ∀ p c, H p = none → c ≤ ns.length → Q (.ref p) (upd H p (SetO X.w p (fun j => decide (j ∈ ns)) c))) := by
  intro pins s σ H xs us Q I r h
  obtain ⟨l, ns, rfl, hq, hl, q⟩ := h
  obtain ⟨u, rfl, rx⟩ := vals1 r
  cases rx
  obtain ⟨its, rv, pl, hz⟩ := I.list hq
  refine call_setL ns (I.ok.hd hc) pl.isList (by simpa using L2.intsAre_of rv) (Nat.lt_of_le_of_lt (Nat.add_le_add_right hl 1) (show 1001 < scanBound by decide)) fun h' tk c hS hcl hk => ?_
  exact ⟨.ref _, _, I.laid (t' := tk) hk (Nat.le_refl _) (setO_new hS), rfl, q _ c (I.hok.fresh (Nat.le_refl _)) hcl⟩
end
end DL
set_option Elab.async false
set_option linter.all false
set_option maxRecDepth 100000
set_option maxHeartbeats 1000000
/-! DL11: the rules of DL9 and DL10 over data -/
namespace DL
open PySem PySem.Spec PyProof.Rows L2
section
variable {X : Cx} {ρ ρ1 ρ2 ρ3 : List Sl} {e a b c tg : Expr} {es : List Expr} {x y z : D} {pos : Pos} {k : Nat}
/-- tuple(list), a plain tuple -/
theorem ee_tupP {p : Pos} {xs : List D} (hm : X.mg "tuple" = none) (ha : EA X ρ [e] ρ1 [.list xs]) (hg : Gl X "tuple" := by rfl) (he : starEach [e] X.env = (false, eval e X.env) :: starEach [] X.env := by rfl) (hpl : (backTo pos (starEach [] X.env)).any (·.1) = false := by rfl) : EE X ρ (.Call (.Name "tuple" p) [e] [] pos) ρ1 (.tup true xs) :=
  ee_bltT cr_tupP hm boot_tuple ha (fun F σ us H0 H Q r ra k => by
    obtain ⟨u, rfl, ru⟩ := rpa1 ra
    cases ru with
    | lst hs hx =>
      refine ⟨_, _, rfl, SqL.of (r.ex _ _ hs), fun l o hl ho => ?_⟩
      obtain ⟨r2, s2⟩ := r.new (o := .frz o (.tup _)) hl
      exact k _ _ _ s2 r2 (.tup (b := true) ⟨o, ho, upd_same⟩ (hx.mono s2))) hg (by decide) (by decide) he hpl
/-- enumerate -/
def enumD (xs : List D) : List D := xs.mapIdx fun i x => .tup false [.int (i : Nat), x]
theorem enumD_get {xs : List D} {i : Nat} {y : D} (h : (enumD xs)[i]? = some y) : ∃ x, xs[i]? = some x ∧ y = .tup false [.int (i : Nat), x] := by
  unfold enumD at h
  rw [List.getElem?_mapIdx] at h
  cases q : xs[i]? with
  | none => rw [q] at h; cases h
  | some x => rw [q] at h; exact ⟨x, rfl, (Option.some.inj h).symm⟩
theorem enumD_len (xs : List D) : (enumD xs).length = xs.length := by simp [enumD]
theorem isIt_enumT {K : PySem.W.Frag} {H0 : Hp} {p : Addr} {vs : List V} {xs : List D} {tb : Bool} (h : TupAt H0 tb p vs) (ra : RpA H0 vs xs) : IsIt (IteT K p) H0 (enumD xs) where
  go := fun i H l e => by
    rw [enumD_len] at l
    obtain ⟨v, e1, _⟩ := ra.get (List.getElem?_eq_getElem l)
    exact ⟨vs, v, (h.mono e).sq, e1⟩
  yld := fun i H v H' y e q hy => by
    obtain ⟨x, hx, rfl⟩ := enumD_get hy
    obtain ⟨u, f1, r1⟩ := ra.get hx
    obtain ⟨T, w1, q1, q2, q3, q4⟩ := q
    have a1 := q4 vs (h.mono e).sq
    rw [f1] at a1; cases a1
    exact .inr ⟨T, _, _, q1, q2, q3, rfl, .cons (.int _) (.cons r1 .nil)⟩
  stop := fun H e => ⟨vs, (h.mono e).sq, by rw [enumD_len, ra.len]; exact Nat.le_refl _⟩
theorem isIt_enumL {K : PySem.W.Frag} {H0 : Hp} {p : Addr} {vs : List V} {xs : List D} (h : H0 p = some (.lst vs)) (ra : RpA H0 vs xs) : IsIt (Ite K p) H0 (enumD xs) where
  go := fun i H l e => by
    rw [enumD_len] at l
    obtain ⟨v, e1, _⟩ := ra.get (List.getElem?_eq_getElem l)
    exact ⟨vs, v, SqL.of (e _ _ h), e1⟩
  yld := fun i H v H' y e q hy => by
    obtain ⟨x, hx, rfl⟩ := enumD_get hy
    obtain ⟨u, f1, r1⟩ := ra.get hx
    obtain ⟨T, w1, q1, q2, q3, q4⟩ := q
    have a1 := q4 vs (SqL.of (e _ _ h))
    rw [f1] at a1; cases a1
    exact .inr ⟨T, _, _, q1, q2, q3, rfl, .cons (.int _) (.cons r1 .nil)⟩
  stop := fun H e => ⟨vs, SqL.of (e _ _ h), by rw [enumD_len, ra.len]; exact Nat.le_refl _⟩
theorem ei_enumT {p tpos : Pos} {elts : List Expr} {kk : Nat} {tb : Bool} {xs : List D} (hm : X.mg "enumerate" = none) (ha : EE X ρ a ρ1 (.tup tb xs)) (hg : Gl X "enumerate" := by rfl) (hs : starEach [a] X.env = [(false, eval a X.env)] := by rfl) : EI X ρ (.Tuple elts kk tpos) (.Call (.Name "enumerate" p) [a] [] pos) ρ1 (enumD xs) := fun F σ H0 H R r k =>
  WI.of (pi_enumT hg hm (pa_cons pe_we pa_nil (by rw [hs]; rfl)) hs) (ha F σ H0 H _ r fun v H1 H' s r' pv => by
    cases pv with
    | tup h hx => exact ⟨_, _, rfl, (h.mono r'.ex).sq, k _ _ _ s r' (isIt_enumT h hx)⟩)
theorem ei_enumL {p tpos : Pos} {elts : List Expr} {kk : Nat} {xs : List D} (hm : X.mg "enumerate" = none) (ha : EE X ρ a ρ1 (.list xs)) (hg : Gl X "enumerate" := by rfl) (hs : starEach [a] X.env = [(false, eval a X.env)] := by rfl) : EI X ρ (.Tuple elts kk tpos) (.Call (.Name "enumerate" p) [a] [] pos) ρ1 (enumD xs) := fun F σ H0 H R r k =>
  WI.of (pi_enum hg hm (pa_cons pe_we pa_nil (by rw [hs]; rfl)) hs) (ha F σ H0 H _ r fun v H1 H' s r' pv => by
    cases pv with
    | lst h hx => exact ⟨_, _, rfl, SqL.of (r'.ex _ _ h), k _ _ _ s r' (isIt_enumL h hx)⟩)
/-- min of two tuples of ints -/
theorem ee_minT {p : Pos} (hm : X.mg "min" = none) (hr : Room k X.A) (ha : EA X ρ [a, b] ρ1 [x, y]) (hal : PySem.W.AlikeAll [toPy x, toPy y]) (hdp : PyData.depthAll [toPy x, toPy y] ≤ 50) (hx' : clean x = true) (hy' : clean y = true) (hc : X.calm = true := by rfl) (hg : Gl X "min" := by rfl)
    (he : starEach [a, b] X.env = (false, eval a X.env) :: starEach [b] X.env := by rfl) (hpl : (backTo pos (starEach [b] X.env)).any (·.1) = false := by rfl) : EE X ρ (.Call (.Name "min" p) [a, b] [] pos) ρ1 (if PySem.W.dataLt (toPy y) (toPy x) = true then y else x) :=
  ee_blt (cr_minD hc hal (by have := hr.units; omega) hx' hy') hm boot_min ha (fun F σ us H0 H Q r ra k => by
    obtain ⟨u, w, rfl, ru, rw'⟩ := rpa2 ra
    refine ⟨u, w, rfl, ru.mono r.ex, rw'.mono r.ex, k _ _ _ (Same.refl _) r ?_⟩
    cases PySem.W.dataLt (toPy y) (toPy x) with
    | true => rw [if_pos rfl, if_pos rfl]; exact rw'
    | false => rw [if_neg Bool.false_ne_true, if_neg Bool.false_ne_true]; exact ru) hg (by decide) (by decide) he hpl
/-- len(set(t)) -/
theorem ee_lenSet {p p2 q : Pos} {tb : Bool} {ns : List Int} (hm : X.mg "len" = none) (hm2 : X.mg "set" = none) (ha : EE X ρ a ρ1 (.tup tb (ns.map .int))) (hnd : ns.Nodup) (hl : ns.length ≤ 1000) (hg : Gl X "len" := by rfl) (hg2 : Gl X "set" := by rfl) (hc : X.calm = true := by rfl)
    (na : starEach [a] X.env = (false, eval a X.env) :: starEach [] X.env := by rfl) (nb : starEach [.Call (.Name "set" p2) [a] [] q] X.env = (false, eval (.Call (.Name "set" p2) [a] [] q) X.env) :: starEach [] X.env := by rfl) :
    EE X ρ (.Call (.Name "len" p) [.Call (.Name "set" p2) [a] [] q] [] pos) ρ1 (.int (ns.length : Nat)) := fun F σ H0 H Q r k =>
  WE.of (pe_lenSetT hg hm hg2 hm2 pe_we hc na nb) (ha F σ H0 H _ r fun v H1 H' s r' pv => by
    cases pv with
    | tup h hx =>
      rw [hx.ints] at h
      exact ⟨_, ns, rfl, (h.mono r'.ex).sq, hnd, hl, k _ _ _ s r' (.int _)⟩)
/-- sorted(set(xs)): the one rising list of its members -/
theorem rising_unique : ∀ {l m : List Int}, l.Pairwise (· < ·) → m.Pairwise (· < ·) → (∀ k, k ∈ l ↔ k ∈ m) → l = m
  | [], [], _, _, _ => rfl
  | [], y :: m, _, _, h => absurd ((h y).mpr List.mem_cons_self) (by simp)
  | x :: l, [], _, _, h => absurd ((h x).mp List.mem_cons_self) (by simp)
  | x :: l, y :: m, h1, h2, h => by
    obtain ⟨a1, a2⟩ := List.pairwise_cons.mp h1
    obtain ⟨b1, b2⟩ := List.pairwise_cons.mp h2
    have e : x = y := by
      rcases List.mem_cons.mp ((h x).mp List.mem_cons_self) with q | q
      · exact q
      · rcases List.mem_cons.mp ((h y).mpr List.mem_cons_self) with u | u
        · exact u.symm
        · have := b1 x q; have := a1 y u; omega
    subst e
    congr 1
    refine rising_unique a2 b2 fun k => ⟨fun hk => ?_, fun hk => ?_⟩
    · rcases List.mem_cons.mp ((h k).mp (List.mem_cons_of_mem _ hk)) with q | q
      · have := a1 k hk; omega
      · exact q
    · rcases List.mem_cons.mp ((h k).mpr (List.mem_cons_of_mem _ hk)) with q | q
      · have := b1 k hk; omega
      · exact q
theorem eo_sortedSet {p p2 q : Pos} {ns ms : List Int} (hm : X.mg "sorted" = none) (hm2 : X.mg "set" = none) (ha : EE X ρ a ρ1 (.list (ns.map .int))) (hl : ns.length ≤ 63) (h1 : ms.Pairwise (· < ·)) (h2 : ∀ k, k ∈ ms ↔ k ∈ ns) (hg : Gl X "sorted" := by rfl) (hg2 : Gl X "set" := by rfl) (hc : X.calm = true := by rfl)
    (na : starEach [a] X.env = (false, eval a X.env) :: starEach [] X.env := by rfl) (npl : (backTo q (starEach [] X.env)).any (·.1) = false := by rfl) (nb : starEach [.Call (.Name "set" p2) [a] [] q] X.env = (false, eval (.Call (.Name "set" p2) [a] [] q) X.env) :: starEach [] X.env := by rfl) (hpl : (backTo pos (starEach [] X.env)).any (·.1) = false := by rfl) :
    EO X ρ (.Call (.Name "sorted" p) [.Call (.Name "set" p2) [a] [] q] [] pos) ρ1 (ms.map .int) := fun F σ H0 H Q r k =>
  WE.of (pe_callB (cr_sortedSet hc) hg hm (by decide +kernel) (pa_cons (pe_callTy (cr_setL hc) hg2 hm2 boot_set (pa_cons pe_we pa_nil na) (by decide) (by decide) na npl) pa_nil nb) (by decide) (by decide) nb hpl) (ha F σ H0 H _ r fun v H1 H' s r' pv => by
    cases pv with
    | lst h hx =>
      rw [hx.ints] at h
      refine ⟨_, ns, rfl, SqL.of (r'.ex _ _ h), by omega, fun p2 c hp hcl => ?_⟩
      have r2 : Rel F ρ1 σ H1 (upd H' p2 (SetO X.w p2 (fun j => decide (j ∈ ns)) c)) := r'.new1 hp
      refine ⟨p2, _, c, rfl, upd_same, by omega, fun os p3 hrise hmem _ hp3 => ?_⟩
      have e : os = ms := rising_unique hrise h1 fun k => by rw [hmem k, h2 k]; simp
      subst e
      exact k p3 _ H1 _ s (r2.he_none hp3) (r2.dk_none hp3) (r2.newPin hp3) (RpA.of_ints _))
/-! data equal -/
theorem eqv_ints : ∀ ns ms : List Int, PyData.eqvAll (toPyA (ns.map .int)) (toPyA (ms.map .int)) = decide (ns = ms)
  | [], [] => by simp [toPyA, PyData.eqvAll]
  | [], _ :: _ => by simp [toPyA, PyData.eqvAll]
  | _ :: _, [] => by simp [toPyA, PyData.eqvAll]
  | n :: ns, m :: ms => by
    simp only [List.map_cons, toPyA, toPy, PyData.eqvAll, eqv_ints ns ms]
    by_cases h : n = m
    · subst h; simp [PyData.eqv]
    · simp [PyData.eqv, h]
theorem eqv_tups {tb tc : Bool} (ns ms : List Int) : PyData.eqv (toPy (.tup tb (ns.map .int))) (toPy (.tup tc (ms.map .int))) = decide (ns = ms) := by
  simp only [toPy, PyData.eqv]
  exact eqv_ints ns ms
end
end DL
set_option Elab.async false
set_option linter.all false
set_option maxRecDepth 100000
set_option maxHeartbeats 4000000
/-! DL12: dicts keyed by tuples of ints: the rules by values -/
namespace DL
open PySem PySem.Spec PyProof.Rows L2
section
variable {P : Program} {w : World} {H : Hp} {h h' : Heap} {d : Addr} {xs : List Ent}
theorem ents_keep (x : EntsAt d xs h) (k : ∀ o, h.get? d = some o → h'.get? d = some o) : EntsAt d xs h' := by
  obtain ⟨a, b, o, es, ep, ho, r⟩ := x
  exact ⟨a, b, o, es, ep, k o ho, r⟩
theorem draw_ok (x : EntsAt d xs h) : ObjOk P w H h d (DRaw d xs) := by
  have y := x
  obtain ⟨a, b, o, es, ep, ho, r⟩ := y
  exact ⟨x, ⟨o, ho⟩, fun h1 h2 p k => ents_keep p k⟩
theorem ents_new (h : Heap) (hb : sysModules < h.objs.size) : EntsAt h.objs.size [] (h.push { cls := .type "dict", data := .dict #[] }) :=
  ⟨beq_eq_false_iff_ne.mpr (Ne.symm (Nat.ne_of_lt hb)), Nat.zero_le _, _, #[], 0, Heap.get?_push_size _ rfl, ⟨rfl, rfl, rfl⟩, rfl, rfl, List.nodup_nil⟩
theorem ents_of (hd : (d == sysModules) = false) (hl : xs.length ≤ sizeLine) (x : h.DictOfH (tupleKind (intKind P w)) d xs) : EntsAt d xs h := by
  obtain ⟨o, es, ep, h1, h2, h3, h4, _, h5⟩ := x
  exact ⟨hd, hl, o, es, ep, h1, h2, h3, h4, h5⟩
end
theorem atKey_some (xs : List Ent) (k : List Int) : (atKey xs k).isSome = decide (k ∈ xs.map (·.1)) := by
  induction xs with
  | nil => rfl
  | cons x xs ih =>
    unfold atKey at ih ⊢
    rw [List.find?_cons]
    by_cases e : x.1 = k
    · simp [e]
    · rw [decide_eq_false e, ih]
      have e2 : ¬ k = x.1 := fun z => e z.symm
      simp [e2]
theorem atKey_mem {xs : List Ent} {k : List Int} {p : Addr × Value} (h : atKey xs k = some p) : (k, p) ∈ xs := by
  unfold atKey at h
  obtain ⟨y, hy, e⟩ := Option.map_eq_some_iff.mp h
  have h1 := List.find?_some hy
  have h2 := List.mem_of_find?_eq_some hy
  have e1 : y.1 = k := by simpa using h1
  rw [← e, ← e1]
  exact h2
section
variable {X : Cx} {pins : List (Addr × Obj)} {σ : L2.St} {H : Hp} {s : Shared} {d : Addr} {xs : List Ent}
/-- the keys' tuples stand -/
def KeysIn (H : Hp) (xs : List Ent) : Prop := ∀ x ∈ xs, ∃ tb, TupAt H tb x.2.1 (x.1.map V.int)
theorem ents_at (I : Inv X pins σ H s) (hd : Rd H d (DRaw d xs)) : EntsAt d xs s.heap := (show ObjOk X.prog X.w H s.heap d (DRaw d xs) from hd.ok I.hok).1
theorem key_at (I : Inv X pins σ H s) {b : Addr} {k : List Int} {tb : Bool} (h : TupAt H tb b (k.map V.int)) : (tupleKind (intKind X.prog X.w)).is s.heap k b := I.isT h.sq
theorem dictH_at (I : Inv X pins σ H s) (hd : Rd H d (DRaw d xs)) (hk : KeysIn H xs) : (d == sysModules) = false ∧ xs.length ≤ sizeLine ∧ s.heap.DictOfH (tupleKind (intKind X.prog X.w)) d xs := by
  obtain ⟨a, b, o, es, ep, h1, h2, h3, h4, h5⟩ := ents_at I hd
  exact ⟨a, b, o, es, ep, h1, h2, h3, h4, fun x hx => let ⟨_, t⟩ := hk x hx; key_at I t, h5⟩
theorem d_put {h' : Heap} {t' : Nat} {ys : List Ent} (I : Inv X pins σ H s) (hd : H d = some (DRaw d xs)) (new : EntsAt d ys h') (hs : Heap.SameBut d s.heap h') : Inv X pins σ (upd H d (DRaw d ys)) { s with heap := h', toks := t' } := by
  have hn := new
  obtain ⟨_, _, o, _, _, ho, _⟩ := hn
  exact d_write I (by rw [hd]; exact True.intro) hs ⟨o, ho⟩ (draw_ok new)
/-- k in d -/
theorem op_inD (hu : X.A.units + 1 < cLine) : OpR X (compareOp .In) (fun x y H Q => ∃ d xs k b tb, x = .ref b ∧ y = .ref d ∧ Rd H d (DRaw d xs) ∧ KeysIn H xs ∧ TupAt H tb b (k.map V.int) ∧ Q (.bl (decide (k ∈ xs.map (·.1)))) H) := by
  intro pins s σ H x y v u Q I rx ry h
  obtain ⟨d, xs, k, b, tb, rfl, rfl, hd, hk, hb, q⟩ := h
  obtain rfl : v = Value.ref b := rx
  obtain rfl : u = Value.ref d := ry
  obtain ⟨a1, a2, dd⟩ := dictH_at I hd hk
  refine wpAny_in_heap (tupleKind_room_in1 hu) (key_at I hb) a1 dd ?_
  rw [atKey_some]
  exact ⟨.bl _, H, I.tok _, rfl, q⟩
/-- {} -/
theorem pe_newD {pos : Pos} : PE X (.Dict [] [] pos) (fun _ H Q => ∀ p, H p = none → Q (.ref p) (upd H p (DRaw p []))) := ⟨fun pins s σ H Q I h =>
  wpAny_Dict_empty ⟨.ref s.heap.objs.size, _, I.laid (a := s.heap.objs.size) (o := DRaw s.heap.objs.size []) (t' := s.toks) (fun _ _ q => Heap.get?_push_of_some _ q) (Nat.le_refl _) (draw_ok (ents_new s.heap I.big)), rfl, h _ (I.hok.fresh (Nat.le_refl _))⟩⟩
/-- d[k] = v, a new key -/
theorem ps_putD {o i value : Expr} {pos pos' : Pos} {td ty tv : TE} (hu : X.A.units + 1 < cLine) (ho : PE X o td) (hi : PE X i ty) (hv : PE X value tv) (hs : swapsWith value (some (.Subscript o i pos')) pos.line X.env = pure false) :
    PS X (.Assign [.Subscript o i pos'] value pos) (fun D σ H => tv σ H fun v H1 => td σ H1 fun x H2 => ty σ H2 fun y H3 => ∃ d xs k b tb, x = .ref d ∧ y = .ref b ∧ H3 d = some (DRaw d xs) ∧ KeysIn H3 xs ∧ TupAt H3 tb b (k.map V.int) ∧ k ∉ xs.map (·.1) ∧ xs.length < sizeLine ∧
      ∀ u, RelV v u → D.nx σ (upd H3 d (DRaw d (xs ++ [(k, b, u)])))) := by
  refine ⟨fun pins s σ H D I h => ?_⟩
  refine wpAny_Assign_Subscript (thn (hv.run pins s σ H _ I h) fun r s1 ⟨v, H1, I1, rv, q1⟩ => thn (ho.run pins s1 σ H1 _ I1 q1) fun u s2 ⟨x, H2, I2, rx, q2⟩ => thn (hi.run pins s2 σ H2 _ I2 q2) fun iv s3 ⟨y, H3, I3, ry, d, xs, k, b, tb, ex, ey, hd, hk, hb, hn, hl, q3⟩ => ?_) hs
  subst ex ey
  obtain rfl : u = Value.ref d := rx
  obtain rfl : iv = Value.ref b := ry
  obtain ⟨a1, a2, dd⟩ := dictH_at I3 (.inl hd) hk
  have hz : atKey xs k = none := by
    have q := atKey_some xs k
    rw [decide_eq_false hn] at q
    cases e : atKey xs k with
    | none => rfl
    | some p => rw [e] at q; cases q
  refine wpAny_setItem_heap (hsz := a2) (tupleKind_room_in1 hu) (key_at I3 hb) dd fun h' dd' hs' => ?_
  rw [storedH_new hz] at dd'
  exact ⟨σ, _, d_put (t' := _) I3 hd (ents_of a1 (by simp; omega) dd') hs', q3 r rv⟩
/-- d.setdefault(k, x) -/
theorem pe_setdD {o e f : Expr} {td ty tx : TE} {apos cpos : Pos} (hu : X.A.units + 1 < cLine) (ho : PE X o td) (he : PE X e ty) (hf : PE X f tx) (m : M2 X o "setdefault" apos e f cpos) : PE X (.Call (.Attribute o "setdefault" apos) [e, f] [] cpos)
    (fun σ H Q => td σ H fun x H1 => ∃ d xs0, x = .ref d ∧ H1 d = some (DRaw d xs0) ∧ ty σ H1 fun y H2 => tx σ H2 fun z H3 => ∃ xs k b tb, y = .ref b ∧ H3 d = some (DRaw d xs) ∧ KeysIn H3 xs ∧ TupAt H3 tb b (k.map V.int) ∧ xs.length < sizeLine ∧
      (∀ c u, (k, c, u) ∈ xs → ∃ v, RelV v u ∧ Q v H3) ∧ (k ∉ xs.map (·.1) → ∀ u, RelV z u → Q z (upd H3 d (DRaw d (xs ++ [(k, b, u)]))))) := by
  refine ⟨fun pins s σ H Q I h => ?_⟩
  refine wpAny_Call_method m.base m.few m.line PySem.F.plainAttrs_dict PySem.F.slot_dict_setdefault PySem.F.type_dict_setdefault (thn (ho.run pins s σ H _ I h) fun u s1 ⟨x, H1, I1, rx, d, xs0, ex, hd0, q1⟩ => ?_)
  subst ex
  obtain rfl : u = Value.ref d := rx
  obtain ⟨z1, z2, ob, es, ep, e1, e2, _⟩ := ents_at I1 (.inl hd0)
  refine ⟨⟨ob, e1, e2.1⟩, fun b q => by cases q; exact ⟨ob, e1, e2.2.1⟩, ?_⟩
  rw [m.trees]
  refine Calls.callWith_builtin rfl (Calls.evalArgs_plain (Calls.spliced_cons (thn (he.run pins s1 σ H1 _ I1 q1) fun iv s2 ⟨y, H2, I2, ry, q2⟩ =>
    Calls.spliced_cons (thn (hf.run pins s2 σ H2 _ I2 q2) fun fv s3 ⟨z, H3, I3, rz, xs, k, b, tb, ey, hd, hk, hb, hl, q3, q4⟩ => Calls.spliced_nil ?_))))
  subst ey
  obtain rfl : iv = Value.ref b := ry
  obtain ⟨a1, a2, dd⟩ := dictH_at I3 (.inl hd) hk
  refine call_setdefault_heap (hsz := a2) (tupleKind_room_in1 hu) (key_at I3 hb) a1 dd (fun p hp => ?_) fun hz h' dd' hs' => ?_
  · obtain ⟨v, rv, qv⟩ := q3 p.1 p.2 (atKey_mem hp)
    exact ⟨v, H3, I3.tok _, rv, qv⟩
  · have hn : k ∉ xs.map (·.1) := fun hm => by
      have q := atKey_some xs k
      rw [hz, decide_eq_true hm] at q
      cases q
    rw [storedH_new hz] at dd'
    exact ⟨z, _, d_put (t' := _) I3 hd (ents_of a1 (by simp; omega) dd') hs', rz, q4 hn fv rz⟩
end
end DL
set_option Elab.async false
set_option linter.all false
set_option maxRecDepth 100000
set_option maxHeartbeats 4000000
/-! DL13: dicts keyed by tuples of ints: walks, sorted -/
namespace DL
open PySem PySem.Spec PyProof.Rows L2
section
variable {X : Cx} {pins : List (Addr × Obj)} {σ : L2.St} {H : Hp} {s : Shared} {d : Addr} {xs : List Ent} {o : Obj}
theorem frz_at (I : Inv X pins σ H s) (h : H d = some (.frz o (DRaw d xs))) : (d == sysModules) = false ∧ xs.length ≤ sizeLine ∧ s.heap.get? d = some o ∧ o.ExactDict ∧ ∃ es ep, o.data = .dict es ep ∧ es.toList = xs.map entD := by
  obtain ⟨e, z⟩ := (show ObjOk X.prog X.w H s.heap d (.frz o (DRaw d xs)) from I.hok d _ h)
  obtain ⟨a, b, o', es, ep, h1, h2, h3, h4, _⟩ := z.1
  rw [e] at h1; cases h1
  exact ⟨a, b, e, h2, es, ep, h3, h4⟩
theorem ent_at {es : Array DictEntry} (he : es.toList = xs.map entD) {i : Nat} {x : Ent} (h : xs[i]? = some x) : ∃ hi : i < es.size, es[i] = entD x := by
  have e : es.toList[i]? = some (entD x) := by rw [he, List.getElem?_map, h]; rfl
  rw [Array.getElem?_toList] at e
  obtain ⟨hi, q⟩ := Array.getElem?_eq_some_iff.mp e
  exact ⟨hi, q⟩
theorem ents_size {es : Array DictEntry} (he : es.toList = xs.map entD) : es.size = xs.length := by
  rw [← Array.length_toList, he, List.length_map]
/-- the values of the entries -/
def ValsOf (xs : List Ent) (vs : List V) : Prop := Paired (fun (x : Ent) v => RelV v x.2.2) xs vs
theorem ValsOf.get : ∀ {xs : List Ent} {vs : List V}, ValsOf xs vs → ∀ {i : Nat} {x : Ent}, xs[i]? = some x → ∃ v, vs[i]? = some v ∧ RelV v x.2.2
  | _, _, .nil, i, x, h => by simp at h
  | _, _, .cons r t, 0, x, h => by simp at h; subst h; exact ⟨_, rfl, r⟩
  | _, _, .cons r t, i + 1, x, h => by simp at h; simpa using ValsOf.get t h
def ItdR (d : Addr) (o : Obj) (xs : List Ent) (vs : List V) : It :=
  ⟨fun i H => H d = some (.frz o (DRaw d xs)) ∧ i < xs.length, fun i H x H' => H' = H ∧ vs[i]? = some x, fun i H => H d = some (.frz o (DRaw d xs)) ∧ xs.length ≤ i⟩
def ItiR (d : Addr) (o : Obj) (xs : List Ent) (vs : List V) : It :=
  ⟨fun i H => H d = some (.frz o (DRaw d xs)) ∧ i < xs.length, fun i H x H' => ∃ T e v, xs[i]? = some e ∧ vs[i]? = some v ∧ x = .ref T ∧ H T = none ∧ H' = upd H T (.tup [.ref e.2.1, v]), fun i H => H d = some (.frz o (DRaw d xs)) ∧ xs.length ≤ i⟩
theorem turn_valsR {P : Program} {w : World} {K : PySem.W.Frag} {tg : Expr} {vs : List V} {es : Array DictEntry} {ep : Nat} (it : Addr) (hv : ValsOf xs vs) (hod : o.data = .dict es ep) : Turn P w K tg (ItdR d o xs vs) [it] it (fun i h => h.IsValIter it d i es.size ep) where
  mem := by simp
  obj := fun i h st b hb => by
    obtain rfl : b = it := by simpa using hb
    obtain ⟨oi, e, c, dd⟩ := st
    exact ⟨oi, e, fun v z => by rw [dd] at z; cases z⟩
  keep := fun i h h' st k => st.at fun oi e => k it (by simp) oi e
  item := by
    intro X hP hw hK hc i pins s σ H E I hf st hg
    subst hP hw hK
    obtain ⟨hd, hi⟩ := hg
    obtain ⟨f0, f1, f2, f3, f4, f5⟩ := hf it (by simp)
    obtain ⟨hs, hz, hgd, hx, es', ep', hdt, he⟩ := frz_at I hd
    obtain ⟨rfl, rfl⟩ := dict_ep hod hdt
    obtain ⟨hlt, en⟩ := ent_at he (List.getElem?_eq_getElem hi)
    obtain ⟨v, hv1, rv⟩ := hv.get (List.getElem?_eq_getElem hi)
    refine wpAny_pyNext_values_item_raw st ⟨o, hgd, hx, hdt⟩ hlt fun h' st' sb => ?_
    have I1 : Inv X pins σ H { s with heap := h' } := I.turned (t' := s.toks) (fun b ob hb e => (sb.2 b hb).trans e) f0 f1 f3 f4 f5
    obtain ⟨oi, e, c, dd⟩ := id st'
    exact ⟨_, rfl, go_of (s := { s with heap := h' }) e c dd (by decide) ⟨v, H, I1, by rw [en]; exact rv, ⟨rfl, hv1⟩, st', fun b hb => (hf b hb).1⟩⟩
  done := by
    intro X hP hw hK hc i pins s σ H E I hf st hg
    subst hP hw hK
    obtain ⟨hd, hi⟩ := hg
    obtain ⟨f0, f1, f2, f3, f4, f5⟩ := hf it (by simp)
    obtain ⟨hs, hz, hgd, hx, es', ep', hdt, he⟩ := frz_at I hd
    obtain ⟨rfl, rfl⟩ := dict_ep hod hdt
    exact wpAny_pyNext_values_end_raw (I.ok.hd hc) st ⟨o, hgd, hx, hdt⟩ (by rw [ents_size he]; exact hi) fun h' eb => ⟨rfl, I.turned (t' := s.toks) (fun b ob hb e => eb b ob hb e) f0 f1 f3 f4 f5⟩
  self := fun A i s Q E st h => wpAny_pyIter_valiter st h
theorem turn_itemsR {P : Program} {w : World} {K : PySem.W.Frag} {elts : List Expr} {kk : Nat} {tpos : Pos} {vs : List V} {es : Array DictEntry} {ep : Nat} (it : Addr) (hv : ValsOf xs vs) (hod : o.data = .dict es ep) :
    Turn P w K (.Tuple elts kk tpos) (ItiR d o xs vs) [it] it (fun i h => ∃ ok ov, IsItemIter h it d i es.size ep ok ov) where
  mem := by simp
  obj := fun i h st b hb => by
    obtain rfl : b = it := by simpa using hb
    obtain ⟨ok, ov, e⟩ := st
    exact ⟨_, e, fun v z => nomatch z⟩
  keep := fun i h h' st k => let ⟨ok, ov, e⟩ := st; ⟨ok, ov, k it (by simp) _ e⟩
  item := by
    intro X hP hw hK hc i pins s σ H E I hf st hg
    subst hP hw hK
    obtain ⟨hd, hi⟩ := hg
    obtain ⟨hs, hz, hgd, hx, es', ep', hdt, he⟩ := frz_at I hd
    obtain ⟨rfl, rfl⟩ := dict_ep hod hdt
    obtain ⟨hlt, en⟩ := ent_at he (List.getElem?_eq_getElem hi)
    obtain ⟨v, hv1, rv⟩ := hv.get (List.getElem?_eq_getElem hi)
    obtain ⟨ok, ov, hit⟩ := st
    have hil : it < s.heap.objs.size := Heap.lt_size hit
    refine wpAny_pyNext_items_item_raw hit ⟨o, hgd, hx, hdt⟩ hlt fun h' ho hT hz' hk => ?_
    refine ⟨_, rfl, wpAny_letOwnedTupleGo_items (s := { s with heap := h' }) ho fun h'' he' sb => ?_⟩
    have hT2 := (sb.2 _ (Nat.ne_of_gt hil)).trans hT
    rw [en] at hT2
    have new : ObjOk X.prog X.w (upd H s.heap.objs.size (.tup [.ref xs[i].2.1, v])) h'' s.heap.objs.size (.tup [.ref xs[i].2.1, v]) :=
      ⟨by show 2 ≤ sizeLine; decide, [.ref xs[i].2.1, xs[i].2.2], .cons rfl (.cons rv .nil), ⟨_, hT2, rfl, _, rfl⟩⟩
    have I1 : Inv X pins σ (upd H s.heap.objs.size (.tup [.ref xs[i].2.1, v])) { s with heap := h'' } :=
      I.turnedNew (t' := s.toks) (ch := [it]) (fun b ob hb e => (sb.2 b (by simpa using hb)).trans (hk b ob (by simpa using hb) e)) hf (Nat.le_refl _) new
    refine ⟨.ref s.heap.objs.size, _, I1, rfl, ⟨_, _, v, List.getElem?_eq_getElem hi, hv1, rfl, I.hok.fresh (Nat.le_refl _), rfl⟩, ⟨_, _, he'⟩, fun b hb => ?_⟩
    obtain rfl : b = it := by simpa using hb
    rw [upd_ne (Nat.ne_of_lt hil)]
    exact (hf b (by simp)).1
  done := by
    intro X hP hw hK hc i pins s σ H E I hf st hg
    subst hP hw hK
    obtain ⟨hd, hi⟩ := hg
    obtain ⟨f0, f1, f2, f3, f4, f5⟩ := hf it (by simp)
    obtain ⟨hs, hz, hgd, hx, es', ep', hdt, he⟩ := frz_at I hd
    obtain ⟨rfl, rfl⟩ := dict_ep hod hdt
    obtain ⟨ok, ov, hit⟩ := st
    exact wpAny_pyNext_items_end_raw (I.ok.hd hc) hit ⟨o, hgd, hx, hdt⟩ (by rw [ents_size he]; exact hi) fun h' eb => ⟨rfl, I.turned (t' := s.toks) (fun b ob hb e => eb b ob hb e) f0 f1 f3 f4 f5⟩
  self := fun A i s Q E st h => let ⟨_, _, e⟩ := st; wpAny_pyIter_itemiter e h
/-- .. in d.values(), d.items(): from here on the dict is known -/
def iValsR (td : TE) : TI := fun σ H R => td σ H fun x H1 => ∃ d xs vs, x = .ref d ∧ H1 d = some (DRaw d xs) ∧ ValsOf xs vs ∧ ∀ o, R (ItdR d o xs vs) (upd H1 d (.frz o (DRaw d xs)))
def iItemsR (td : TE) : TI := fun σ H R => td σ H fun x H1 => ∃ d xs vs, x = .ref d ∧ H1 d = some (DRaw d xs) ∧ ValsOf xs vs ∧ ∀ o, R (ItiR d o xs vs) (upd H1 d (.frz o (DRaw d xs)))
theorem pi_valuesR {tg e : Expr} {td : TE} {apos cpos : Pos} (he : PE X e td) (hbase : attributeBase e "values" X.env (eval e X.env) = eval e X.env := by rfl) (hline : (apos.endLine == cpos.line) = true := by rfl) : PI X tg (.Call (.Attribute e "values" apos) [] [] cpos) (iValsR td) := by
  refine ⟨fun pins s σ H R I h => ?_⟩
  refine wpAny_Call_method (T := "dict") (id := "dict.values") hbase rfl hline F.plainAttrs_dict F.slot_dict_values F.type_dict_values (thn (he.run pins s σ H _ I h) fun u s1 ⟨x, H1, I1, rx, d, xs, vs, ex, hd, hv, q⟩ => ?_)
  subst ex
  obtain rfl : u = Value.ref d := rx
  obtain ⟨o, I2⟩ := I1.lock hd True.intro
  obtain ⟨hs, hz, hgd, hx, es, ep, hdt, hes⟩ := frz_at I2 upd_same
  have ty : s1.TypeIs (.ref d) "dict" := ⟨o, hgd, hx.1⟩
  refine ⟨ty, fun b e => by cases e; exact ⟨o, hgd, hx.2.1⟩, ?_⟩
  have I3 : Inv X pins σ (upd H1 d (.frz o (DRaw d xs))) { s1 with heap := s1.heap.push { cls := .type "dict_values", data := .fields #[.ref d] } } := I2.kept (t' := s1.toks) fun b ob e => Heap.get?_push_of_some _ e
  have fin : wpAny (model X.prog X.w) X.A (pyIter (.ref s1.heap.objs.size)) (PIE X pins σ tg R) X.xe { s1 with heap := s1.heap.push { cls := .type "dict_values", data := .fields #[.ref d] } } :=
    wpAny_pyIter_values_raw (d := d) (es := es) (ep := ep) ⟨_, Heap.get?_push_size _ rfl, rfl, rfl⟩ ⟨o, Heap.get?_push_of_some _ hgd, hx, hdt⟩ (pi_one (tk := s1.toks) I3 _ (turn_valsR _ hv hdt) ⟨_, Heap.get?_push_size _ rfl, rfl, rfl⟩ (q o))
  show wpAny _ _ (callWith cpos (.builtin "dict.values") [.ref d] [] []) _ X.xe s1
  exact method_meetsIn F.slot_dict_values F.entry_dict_values rfl (PySem.evalArgs_none ⟨rfl, ty, F.args_dict_values_1 _, _, meets_dict_values_raw d hs, ⟨es, ep, o, hgd, hx, hdt⟩, fin⟩)
theorem pi_itemsR {e : Expr} {td : TE} {apos cpos tpos : Pos} {elts : List Expr} {kk : Nat} (he : PE X e td) (hbase : attributeBase e "items" X.env (eval e X.env) = eval e X.env := by rfl) (hline : (apos.endLine == cpos.line) = true := by rfl) : PI X (.Tuple elts kk tpos) (.Call (.Attribute e "items" apos) [] [] cpos) (iItemsR td) := by
  refine ⟨fun pins s σ H R I h => ?_⟩
  refine wpAny_Call_method (T := "dict") (id := "dict.items") hbase rfl hline F.plainAttrs_dict F.slot_dict_items F.type_dict_items (thn (he.run pins s σ H _ I h) fun u s1 ⟨x, H1, I1, rx, d, xs, vs, ex, hd, hv, q⟩ => ?_)
  subst ex
  obtain rfl : u = Value.ref d := rx
  obtain ⟨o, I2⟩ := I1.lock hd True.intro
  obtain ⟨hs, hz, hgd, hx, es, ep, hdt, hes⟩ := frz_at I2 upd_same
  have ty : s1.TypeIs (.ref d) "dict" := ⟨o, hgd, hx.1⟩
  refine ⟨ty, fun b e => by cases e; exact ⟨o, hgd, hx.2.1⟩, ?_⟩
  have I3 : Inv X pins σ (upd H1 d (.frz o (DRaw d xs))) { s1 with heap := s1.heap.push { cls := .type "dict_items", data := .fields #[.ref d] } } := I2.kept (t' := s1.toks) fun b ob e => Heap.get?_push_of_some _ e
  have fin : wpAny (model X.prog X.w) X.A (pyIter (.ref s1.heap.objs.size)) (PIE X pins σ (.Tuple elts kk tpos) R) X.xe { s1 with heap := s1.heap.push { cls := .type "dict_items", data := .fields #[.ref d] } } :=
    wpAny_pyIter_items_raw (d := d) (es := es) (ep := ep) ⟨_, Heap.get?_push_size _ rfl, rfl, rfl⟩ ⟨o, Heap.get?_push_of_some _ hgd, hx, hdt⟩ (pi_one (tk := s1.toks) I3 _ (turn_itemsR _ hv hdt) ⟨_, _, Heap.get?_push_size _ rfl⟩ (q o))
  show wpAny _ _ (callWith cpos (.builtin "dict.items") [.ref d] [] []) _ X.xe s1
  exact method_meetsIn F.slot_dict_items F.entry_dict_items rfl (PySem.evalArgs_none ⟨rfl, ty, F.args_dict_items_1 _, _, meets_dict_items_raw d hs, ⟨es, ep, o, hgd, hx, hdt⟩, fin⟩)
end
end DL
set_option Elab.async false
set_option linter.all false
set_option maxRecDepth 100000
set_option maxHeartbeats 4000000
/-! DL14: sorted(d), dict comprehensions -/
namespace DL
open PySem PySem.Spec PyProof.Rows L2
section
variable {X : Cx} {pins : List (Addr × Obj)} {σ : L2.St} {H : Hp} {s : Shared} {d : Addr} {xs : List Ent} {o : Obj}
def keyD (k : List Int) : D := .tup false (k.map .int)
theorem rpa_keys {H : Hp} : ∀ {xs : List Ent}, (∀ x ∈ xs, H x.2.1 = some (.tup (x.1.map V.int))) → RpA H (xs.map fun x => V.ref x.2.1) ((xs.map (·.1)).map keyD)
  | [], _ => .nil
  | x :: xs, h => .cons (.tup (b := false) (h x List.mem_cons_self) (RpA.of_ints _)) (rpa_keys fun y hy => h y (List.mem_cons_of_mem _ hy))
theorem clean_key (k : List Int) : clean (keyD k) = true := by
  unfold keyD
  rw [clean]
  exact cleanA_of fun x hx => by obtain ⟨i, _, rfl⟩ := List.mem_map.mp hx; rw [clean] <;> simp
/-- sorted(d) -/
theorem cr_sortedDict (hc : X.calm = true) (hu : X.A.units + 64 < cLine) : CallR X (.builtin "sorted") (fun ws H Q => ∃ d xs H0, ws = [.ref d] ∧ Rd H d (DRaw d xs) ∧ Same H0 H ∧ (∀ x ∈ xs, H0 x.2.1 = some (.tup (x.1.map V.int))) ∧ PySem.W.AllAlike ((xs.map (·.1)).map fun k => toPy (keyD k)) ∧ PySem.W.Sortable ((xs.map (·.1)).map fun k => toPy (keyD k)) ∧
    (∀ k ∈ xs.map (·.1), (toPy (keyD k)).depth ≤ 50) ∧ ∀ ys p, RpA H0 ys (((xs.map (·.1)).mergeSort (PySem.W.dataLe false fun k => toPy (keyD k))).map keyD) → H p = none → Q (.ref p) (upd H p (.lst ys))) := by
  intro pins s σ H ws us Q I r q
  obtain ⟨d, xs, H0, rfl, hd, sm, hk, hal, hso, hdep, q⟩ := q
  obtain ⟨u, rfl, rx⟩ := vals1 r
  obtain rfl : u = Value.ref d := rx
  obtain ⟨a1, a2, o, es, ep, ho, hx, hdt, he, hn⟩ := ents_at I hd
  have hsz : es.size = xs.length := ents_size he
  refine Calls.call_function_entry PyProof.Rows.kind_sorted PyProof.Rows.plain_sorted PyProof.Rows.entry_sorted (PyProof.Rows.args_sorted1 _) ?_
  unfold Builtin.«sorted»
  refine wpAny_bind (m := checkCount "sorted" 1 1 _) (wpAny_pure ?_)
  refine wpAny_bind (PySem.W.kdu_collect (A := X.A.in1) (kdl_raw a1 hx hdt) (I.ok.hd hc) ho (by rw [hsz]; exact a2) fun h' tk acc hkp hacc => ?_)
  have ea : acc.toList = xs.map fun x => Value.ref x.2.1 := by
    apply List.ext_getElem?
    intro j
    rw [List.getElem?_map]
    cases hj : acc.toList[j]? with
    | none =>
      have h1 := List.getElem?_eq_none_iff.mp hj
      rw [Array.length_toList, hacc.1, hsz] at h1
      rw [List.getElem?_eq_none h1]
      rfl
    | some v =>
      obtain ⟨en, hen, rfl⟩ := hacc.2 j v (by rw [← Array.getElem?_toList]; exact hj)
      have h2 : j < xs.length := by
        rw [← hsz]
        exact (Array.getElem?_eq_some_iff.mp hen).1
      obtain ⟨h3, h4⟩ := ent_at he (List.getElem?_eq_getElem h2)
      have h5 := (Array.getElem?_eq_some_iff.mp hen).2
      rw [List.getElem?_eq_getElem h2, ← h5, h4]
      rfl
  have I1 : Inv X pins σ H { s with heap := h', toks := tk } := I.kept hkp
  have ra : RpA H0 (xs.map fun x => V.ref x.2.1) ((xs.map (·.1)).map keyD) := rpa_keys hk
  have rv : Vals (xs.map fun x => V.ref x.2.1) acc.toList := by
    rw [ea]
    clear hk hal hso hdep q hn he hsz ea a2 hd ra hacc
    induction xs with
    | nil => exact .nil
    | cons x xs ih => exact .cons rfl ih
  have e := each_of rv ra
  refine wpAny_bind (wpAny_newList ?_ (by rw [ea, List.length_map]; exact a2))
  have hoL : (h'.push (seqObj "list" acc.toList.toArray 0)).get? h'.objs.size = some (seqObj "list" acc.toList.toArray 0) := Heap.get?_push_size _ rfl
  show wpAny _ _ _ _ _ { s with heap := h'.push (seqObj "list" acc.toList.toArray 0), toks := tk }
  have er : PySem.W.EachIs (fun v b => ∃ as, Reads (h'.push (seqObj "list" acc.toList.toArray 0)) v (toPy (keyD b)) as ∧ h'.objs.size ∉ as) acc.toList (xs.map (·.1)) := by
    refine (PySem.W.each_mem e).mono fun v b h1 => ?_
    obtain ⟨⟨x, r1, p1⟩, hb⟩ := h1
    obtain ⟨as, rd⟩ := Dp.reads I1 _ _ _ ((p1.mono sm).dp _ _ (clean_key b)) r1
    refine ⟨as, PyProof.Rows.Reads.keeps (fun c oc ec => Heap.get?_push_of_some _ ec) rd, fun hm => ?_⟩
    obtain ⟨oc, ec⟩ := PyProof.On.reads_mem_get rd _ hm
    exact Nat.lt_irrefl _ (Heap.lt_size ec)
  have hdp : ∀ b, b ∈ xs.map (·.1) → X.A.in1.units + 1 + (toPy (keyD b)).depth < cLine := fun b hb => by
    have := hdep b hb
    have e1 : X.A.in1.units ≤ X.A.units + 1 := Nat.le_refl _
    omega
  refine wpAny_bind (wpAny_holding (PySem.W.list_sort_data (s := { s with heap := h'.push (seqObj "list" acc.toList.toArray 0), toks := tk }) (enc := fun k => toPy (keyD k)) hoL e er hal hso (by rw [List.length_map]; exact a2) hdp fun out hlo eo => ?_))
  obtain ⟨ys, rvy, ray⟩ := each_back eo
  obtain ⟨c, hcc⟩ := PyProof.Rows.sortedHeap_at (vs := acc.toList) (out := out.toArray) hoL
  have hlen : ys.length ≤ sizeLine := by
    rw [ray.len, List.length_map, List.length_mergeSort, List.length_map]
    exact a2
  refine wpAny_pure ⟨_, rfl, .ref h'.objs.size, upd H h'.objs.size (.lst ys), I1.laid (t' := tk) (fun b u e => ?_) (Nat.le_refl _) (show ObjOk X.prog X.w _ _ _ (.lst ys) from ⟨hlen, out, c, rvy, hcc⟩), rfl, q ys _ ray (I1.hok.fresh (Nat.le_refl _))⟩
  have hb : b < h'.objs.size := Heap.lt_size e
  rw [PyProof.Rows.sortedHeap_old (Nat.ne_of_lt hb) (by rw [size_push']; exact Nat.lt_succ_of_lt hb)]
  exact Heap.get?_push_of_some _ e
/-- {k: v for target in iter if ..}, each key a new tuple of ints: D the new dict -/
def tDcR (wi : TI) (g : TG) (tt : TT) (tk tv : TE) (vs : List Nat) : TE := fun σ H Q => wi σ H fun J H1 => ∀ D, H1 D = none → ∃ W : Nat → Nat → Hp → Prop, (∃ m, W 0 m (upd H1 D (DRaw D []))) ∧ ∀ i m H, W i m H →
  (J.stop i H ∧ Q (.ref D) H) ∨ (J.go i H ∧ ∃ Nx : Hp → Prop, (∀ H', Nx H' → ∃ m', m' < m ∧ W (i + 1) m' H') ∧ ∀ x H', J.yld i H x H' → g x (wipe σ vs) H' fun σ2 H2 => wipe σ2 vs = wipe σ vs ∧ tt σ2 H2 fun b H3 =>
    if b = true then tk σ2 H3 fun y H4 => tv σ2 H4 fun z H5 => ∃ xs k bb tb, y = .ref bb ∧ H5 D = some (DRaw D xs) ∧ KeysIn H5 xs ∧ TupAt H5 tb bb (k.map V.int) ∧ k ∉ xs.map (·.1) ∧ xs.length < sizeLine ∧ ∀ u, RelV z u → Nx (upd H5 D (DRaw D (xs ++ [(k, bb, u)]))) else Nx H3)
theorem dcR_core {Q : VK} {kx vx tg iter : Expr} {ifs : List Expr} {scope : Scope} {own : List (Str × Nat)} {pos pos' : Pos} {wi : TI} {g : TG} {tt : TT} {tk tv : TE} {use : Option (Value → Sem Unit)} {Qf : Value → Shared → Prop}
    (hc : X.calm = true) (hu : X.A.units + 64 < cLine) (hN : X.N.Nodup) (I : Inv X pins σ H s) (hi : PI X tg iter wi) (ok : BlkOk X.N X.env.scope scope own)
    (hg : ∀ (s : Shared) (H : Hp) (C : Addr) (cl : List (Str × Addr)) (fp : List Addr), PG (bx X scope s H C cl fp) tg g) (ht : ∀ (s : Shared) (H : Hp) (C : Addr) (cl : List (Str × Addr)) (fp : List Addr), PTs (bx X scope s H C cl fp) ifs tt)
    (hk : ∀ (s : Shared) (H : Hp) (C : Addr) (cl : List (Str × Addr)) (fp : List Addr), PE (bx X scope s H C cl fp) kx tk) (he : ∀ (s : Shared) (H : Hp) (C : Addr) (cl : List (Str × Addr)) (fp : List Addr), PE (bx X scope s H C cl fp) vx tv) (hs : ∀ x, foldedSetIterable iter X.env x = pure x)
    (h : tDcR wi g tt tk tv (own.map (·.2)) σ H Q)
    (fin : ∀ D C s' m H', Inv X pins σ H' s' → Q (.ref D) H' → s'.heap.Ns C m → FpOk X pins H' C → compPost (model X.prog X.w) X.A X.xe use Qf (.ref D) C (.ok .next) s') :
    wpAny (model X.prog X.w) X.A (comprehension (.DictComp kx vx [⟨tg, iter, ifs, 0⟩] scope pos) scope X.env pos' newDict false (eval iter X.env) use) Qf X.xe s := by
  have cells : ∀ y ∈ scope.names, y.2 = .free → ∃ c, X.env.cells.lookup y.1 = some c := fun y hy e => I.ok.has _ (ok.free y hy e)
  refine wpAny_comprehension_free (use := use) rfl hs (closure_ok cells) ok.kind (fun y hy e => by rw [ok.uniq y hy, e]) (thn (hi.run pins s σ H _ I h) fun xv s1 h1 => thn h1 fun itv s2 h2 => ?_)
  obtain ⟨it, fp, tn, J, H2, rfl, I2, T, st2, f2, q⟩ := h2
  refine wpAny_newObj_type (newEnv_comp ?_)
  generalize hD : s2.heap.objs.size = D
  have hn : H2 D = none := I2.hok.fresh (Nat.le_of_eq hD)
  obtain ⟨W, ⟨m0, w0⟩, step⟩ := q D hn
  generalize hs3 : ({ s2 with heap := s2.heap.push { cls := .type "dict", data := .dict #[] } } : Shared) = s3
  have h3 : s3.heap = s2.heap.push { cls := .type "dict", data := .dict #[] } := by rw [← hs3]
  have I3 : Inv X pins σ (upd H2 D (DRaw D [])) s3 := by
    rw [← hs3]
    refine I2.laid (t' := s2.toks) (fun b o e => Heap.get?_push_of_some _ e) (Nat.le_of_eq hD) ?_
    rw [← hD]
    exact draw_ok (ents_new s2.heap I2.big)
  have sz : ∀ b ∈ fp, b < s2.heap.objs.size := fun b hb => let ⟨o, e, _⟩ := T.obj _ _ st2 b hb; Heap.lt_size e
  have f3 : ∀ b ∈ fp, FpOk X pins (upd H2 D (DRaw D [])) b ∧ b < s3.heap.objs.size := fun b hb =>
    ⟨⟨by rw [upd_ne (by rw [← hD]; exact Nat.ne_of_lt (sz b hb))]; exact (f2 b hb).1, (f2 b hb).2⟩, by rw [h3, Heap.size_push]; exact Nat.lt_succ_of_lt (sz b hb)⟩
  have st3 : tn 0 s3.heap := T.keep _ _ _ st2 fun b _ o e => by rw [h3]; exact Heap.get?_push_of_some _ e
  have I4 := block_start I3 ok hN f3
  have pg := hg s3 (upd H2 D (DRaw D [])) s3.heap.objs.size (cellsFrom (s3.heap.objs.size + 1) scope.names (cloFrom X.env.cells scope.names [])) fp
  have pt := ht s3 (upd H2 D (DRaw D [])) s3.heap.objs.size (cellsFrom (s3.heap.objs.size + 1) scope.names (cloFrom X.env.cells scope.names [])) fp
  have pk := hk s3 (upd H2 D (DRaw D [])) s3.heap.objs.size (cellsFrom (s3.heap.objs.size + 1) scope.names (cloFrom X.env.cells scope.names [])) fp
  have pe := he s3 (upd H2 D (DRaw D [])) s3.heap.objs.size (cellsFrom (s3.heap.objs.size + 1) scope.names (cloFrom X.env.cells scope.names [])) fp
  show codeAny _ _ (.compStart (.DictComp kx vx [⟨tg, iter, ifs, 0⟩] scope pos) 0 (.ref it) (.ref D) (compEnvC scope (cellsFrom (s3.heap.objs.size + 1) scope.names (cloFrom X.env.cells scope.names [])) s3.heap.objs.size X.env)) (compPost (model X.prog X.w) X.A X.xe use Qf (.ref D) s3.heap.objs.size) { s3 with heap := pushCells (s3.heap.push { cls := .type "dict", data := .dict #[] }) scope.names }
  have nfp : ∀ b ∈ fp, (upd H2 D (DRaw D [])) b = none := fun b hb => (f3 b hb).1.1
  unfold bx at pg pt pk pe
  generalize hce : compEnvC scope (cellsFrom (s3.heap.objs.size + 1) scope.names (cloFrom X.env.cells scope.names [])) s3.heap.objs.size X.env = ce at I4 pg pt pk pe ⊢
  have cL : ce.locals = s3.heap.objs.size := by subst hce; rfl
  generalize hH3 : upd H2 D (DRaw D []) = H3 at I3 I4 pg pt pk pe w0 nfp f3
  generalize hs4 : ({ s3 with heap := pushCells (s3.heap.push { cls := .type "dict", data := .dict #[] }) scope.names } : Shared) = s4 at I4 ⊢
  have st4 : tn 0 s4.heap := T.keep _ _ _ st3 fun b _ o e => by rw [← hs4]; exact pushCells_keeps _ _ _ _ (Heap.get?_push_of_some _ e)
  have stat : ∀ {σ' : L2.St} {H' : Hp} {s' : Shared}, Inv (X.blk s3 H3 scope ce fp) [] σ' H' s' → (∀ b ∈ fp, H' b = none) → ∀ b ∈ fp, FpOk (X.blk s3 H3 scope ce fp) [] H' b := fun {σ' H' s'} I' n b hb =>
    ⟨n b hb, (I'.ok.exf b hb).1, I'.ok.exfs b hb, .inl hb, fun x c e => (I'.ok.exf b hb).2 x c e, fun p hp => absurd (show p ∈ ([] : List (Addr × Obj)) ++ [] from hp) (by simp)⟩
  have loop : codeAny (model X.prog X.w) X.A (.compLoop (.DictComp kx vx [⟨tg, iter, ifs, 0⟩] scope pos) 0 (.ref it) (.ref D) ce) (compPost (model X.prog X.w) X.A X.xe use Qf (.ref D) s3.heap.objs.size) s4 := by
    refine compLoop_anyD (fun n s' => ∃ i H', Inv (X.blk s3 H3 scope ce fp) [] (wipe σ (own.map (·.2))) H' s' ∧ tn i s'.heap ∧ (∀ b ∈ fp, H' b = none) ∧ W i n H') ?_ m0 ⟨0, H3, I4, st4, nfp, w0⟩
    rintro n s5 ⟨i, H5, I5, st5, n5, w5⟩
    rcases step i n H5 w5 with ⟨stop, qq⟩ | ⟨go, Nx, hNx, turn⟩
    · refine thnF (T.done (X.blk s3 H3 scope ce fp) rfl rfl rfl hc i [] s5 _ H5 (fun _ _ => False) I5 (stat I5 n5) st5 stop) fun r s6 h6 => ?_
      obtain ⟨rfl, I6⟩ := h6
      have I7 : Inv X pins σ H5 s6 := I3.call' (ch := fp) I6.os I6.base I6.hok I6.bare fun b hb => ⟨(f3 b hb).1.2.2.2.1, (f3 b hb).1.2.1, (f3 b hb).1.2.2.2.2.1, (f3 b hb).1.2.2.2.2.2⟩
      have nC : H5 s3.heap.objs.size = none := by rw [← cL]; exact I6.free
      obtain ⟨m, hm, _⟩ := I6.loc
      have hm : s6.heap.Ns ce.locals m := hm
      rw [cL] at hm
      exact fin D s3.heap.objs.size s6 m H5 I7 qq hm (I3.fpOk (Nat.le_refl _) nC)
    · refine thnF (T.item (X.blk s3 H3 scope ce fp) rfl rfl rfl hc i [] s5 _ H5 (fun _ _ => False) I5 (stat I5 n5) st5 go) fun r s6 h6 => ?_
      obtain ⟨u, rfl, h6⟩ := h6
      refine thnF h6 fun _ s7 h7 => ?_
      obtain ⟨x, H7, I7, r7, y7, st7, n7⟩ := h7
      have I8 := I7.pinned (stat I7 n7) (T.obj _ _ st7)
      refine thnF (pg.run _ s7 _ H7 x u _ I8 r7 (turn x H7 y7)) fun _ s8 h8 => ?_
      obtain ⟨σ8, H8, I8, hw8, q8⟩ := h8
      refine thnF (pt.run _ s8 σ8 H8 _ I8 q8) fun b s9 h9 => ?_
      obtain ⟨H9, I9, q9⟩ := h9
      have back : ∀ {s' : Shared} {H' : Hp}, Inv (X.blk s3 H3 scope ce fp) ([] ++ pinsAt fp s7.heap) σ8 H' s' → Nx H' → ∃ m, m < n ∧ ∃ i H', Inv (X.blk s3 H3 scope ce fp) [] (wipe σ (own.map (·.2))) H' s' ∧ tn i s'.heap ∧ (∀ b ∈ fp, H' b = none) ∧ W i m H' := fun {s' H'} I' nx => by
        obtain ⟨m', hm, w'⟩ := hNx H' nx
        have pin' : ∀ b ∈ fp, ∀ o, s7.heap.get? b = some o → s'.heap.get? b = some o ∧ H' b = none := fun b hb o e =>
          let z := I'.pin (b, o) (List.mem_append_right _ (List.mem_append_right _ (mem_pinsAt hb e)))
          ⟨z.1, z.2.1⟩
        refine ⟨m', hm, i + 1, H', (I'.unpinned (pins := [])).weak (by rw [← hw8, wipe_length]) (fun j v e => by rw [← hw8] at e; exact (wipe_some e).1), T.keep _ _ _ st7 fun b hb o e => (pin' b hb o e).1, fun b hb => ?_, w'⟩
        obtain ⟨o, e, _⟩ := T.obj _ _ st7 b hb
        exact (pin' b hb o e).2
      cases b with
      | false =>
        rw [if_neg Bool.false_ne_true] at q9 ⊢
        exact back I9 q9
      | true =>
        rw [if_pos rfl] at q9 ⊢
        refine thnF (pk.run _ s9 σ8 H9 _ I9 q9) fun z s10 h10 => ?_
        obtain ⟨yk, H10, I10, r10, q10⟩ := h10
        refine thnF (pe.run _ s10 σ8 H10 _ I10 q10) fun z2 s11 h11 => ?_
        obtain ⟨yv, H11, I11, r11, xs, k, bb, tb, rfl, hD11, hk11, hb11, hnew, hz11, nx⟩ := h11
        obtain rfl : z = Value.ref bb := r10
        obtain ⟨a1, a2, dd⟩ := dictH_at I11 (.inl hD11) hk11
        have hz : atKey xs k = none := by
          have q := atKey_some xs k
          rw [decide_eq_false hnew] at q
          cases e : atKey xs k with
          | none => rfl
          | some p => rw [e] at q; cases q
        refine wpAny_dictSet_heap (hsz := a2) (show X.A.units < cLine by omega) (key_at I11 hb11) dd fun h' dd' hs' => ?_
        rw [storedH_new hz] at dd'
        exact back (d_put (t' := _) I11 hD11 (ents_of a1 (by simp; omega) dd') hs') (nx z2 r11)
  exact codeAny_compStart_dict loop (T.self X.A 0 _ _ _ st4 loop)
theorem pe_dcR {kx vx tg iter : Expr} {ifs : List Expr} {scope : Scope} {own : List (Str × Nat)} {pos : Pos} {wi : TI} {g : TG} {tt : TT} {tk tv : TE} (hc : X.calm = true) (hu : X.A.units + 64 < cLine) (hN : X.N.Nodup) (hi : PI X tg iter wi) (ok : BlkOk X.N X.env.scope scope own)
    (hg : ∀ (s : Shared) (H : Hp) (C : Addr) (cl : List (Str × Addr)) (fp : List Addr), PG (bx X scope s H C cl fp) tg g) (ht : ∀ (s : Shared) (H : Hp) (C : Addr) (cl : List (Str × Addr)) (fp : List Addr), PTs (bx X scope s H C cl fp) ifs tt)
    (hk : ∀ (s : Shared) (H : Hp) (C : Addr) (cl : List (Str × Addr)) (fp : List Addr), PE (bx X scope s H C cl fp) kx tk) (he : ∀ (s : Shared) (H : Hp) (C : Addr) (cl : List (Str × Addr)) (fp : List Addr), PE (bx X scope s H C cl fp) vx tv) (hs : ∀ x, foldedSetIterable iter X.env x = pure x) :
    PE X (.DictComp kx vx [⟨tg, iter, ifs, 0⟩] scope pos) (tDcR wi g tt tk tv (own.map (·.2))) := by
  refine ⟨fun pins s σ H Q I h => ?_⟩
  rw [arm_eval_DictComp]
  refine dcR_core hc hu hN I hi ok hg ht hk he hs h fun D C s' m H' I' q hn f => ⟨m, hn, fun h'' sb => ?_⟩
  obtain ⟨f0, f1, f2, f3, f4, f5⟩ := f
  exact ⟨.ref D, H', I'.turned (t' := s'.toks) (fun b o hb e => (sb.2 b hb).trans e) f0 f1 f3 f4 f5, rfl, q⟩
end
end DL
set_option Elab.async false
set_option linter.all false
set_option maxRecDepth 100000
set_option maxHeartbeats 4000000
/-! DL15: dicts keyed by tuples of ints, over data -/
namespace DL
open PySem PySem.Spec PyProof.Rows L2
theorem KR.keys {H : Hp} : ∀ {xs : List Ent} {kvs : List (List Int × D)}, KR H xs kvs → xs.map (·.1) = kvs.map (·.1)
  | _, _, .nil => rfl
  | _, _, .cons r t => by rw [List.map_cons, List.map_cons, r.1, KR.keys t]
theorem KR.tups {H : Hp} : ∀ {xs : List Ent} {kvs : List (List Int × D)}, KR H xs kvs → ∀ x ∈ xs, H x.2.1 = some (.tup (x.1.map V.int))
  | _, _, .nil, _, h => nomatch h
  | _, _, .cons r t, x, h => by
    rcases List.mem_cons.mp h with rfl | h
    · exact r.2.1
    · exact KR.tups t x h
theorem KR.len {H : Hp} {xs : List Ent} {kvs : List (List Int × D)} (h : KR H xs kvs) : xs.length = kvs.length := Paired.length h
theorem KR.append {H : Hp} : ∀ {xs ys : List Ent} {kvs lvs : List (List Int × D)}, KR H xs kvs → KR H ys lvs → KR H (xs ++ ys) (kvs ++ lvs)
  | _, _, _, _, .nil, h => h
  | _, _, _, _, .cons r t, h => .cons r (KR.append t h)
theorem KR.one {H : Hp} {k : List Int} {b : Addr} {u : Value} {v : V} {x : D} (h : H b = some (.tup (k.map V.int))) (rv : RelV v u) (p : Rp H v x) : KR H [(k, b, u)] [(k, x)] := .cons ⟨rfl, h, v, rv, p⟩ .nil
theorem KR.val {H : Hp} : ∀ {xs : List Ent} {kvs : List (List Int × D)}, KR H xs kvs → ∀ {x : Ent}, x ∈ xs → ∃ v d, RelV v x.2.2 ∧ Rp H v d ∧ (x.1, d) ∈ kvs
  | _, _, .nil, _, h => nomatch h
  | _, _, .cons (b := kv) r t, x, h => by
    rcases List.mem_cons.mp h with rfl | h
    · obtain ⟨e, _, v, r1, r2⟩ := r
      exact ⟨v, kv.2, r1, r2, by rw [e]; exact List.mem_cons_self⟩
    · obtain ⟨v, d, a, b, c⟩ := KR.val t h
      exact ⟨v, d, a, b, List.mem_cons_of_mem _ c⟩
theorem KR.vals {H : Hp} : ∀ {xs : List Ent} {kvs : List (List Int × D)}, KR H xs kvs → ∃ vs, ValsOf xs vs ∧ RpA H vs (kvs.map (·.2))
  | _, _, .nil => ⟨[], .nil, .nil⟩
  | _, _, .cons r t => by
    obtain ⟨vs, a, b⟩ := KR.vals t
    obtain ⟨_, _, v, r1, r2⟩ := r
    exact ⟨v :: vs, .cons r1 a, .cons r2 b⟩
theorem keysIn_of {H H' : Hp} {xs : List Ent} (h : ∀ x ∈ xs, H x.2.1 = some (.tup (x.1.map V.int))) (s : Same H H') : KeysIn H' xs := fun x hx => ⟨false, s _ _ (h x hx)⟩
theorem rp_key {H : Hp} {v : V} {k : List Int} (h : Rp H v (keyD k)) : ∃ b, v = .ref b ∧ H b = some (.tup (k.map V.int)) := by
  unfold keyD at h
  cases h with
  | tup hs hx =>
    rw [hx.ints] at hs
    exact ⟨_, rfl, hs⟩
section
variable {X : Cx} {ρ ρ1 ρ2 ρ3 : List Sl} {e a b c tg iter : Expr} {es : List Expr} {x y z : D} {pos : Pos} {k : Nat}
/-- k in d, d a datum -/
theorem ee_inD {ks : List (List Int)} {k : List Int} (hu : X.A.units + 64 < cLine) (ha : EE X ρ a ρ1 (keyD k)) (hb : EE X ρ1 b ρ2 (.dict ks)) (hbm : behindInMarks .In b = false := by rfl) : EE X ρ (.Compare a [.In] [b] pos) ρ2 (.bool (decide (k ∈ ks))) :=
  ee_cmpD ⟨_, op_inD (by omega), fun v w H0 H Q s r1 r2 q => by
    obtain ⟨bb, rfl, hk⟩ := rp_key r1
    cases r2 with
    | dct h1 h2 h3 =>
      subst h2
      exact ⟨_, _, k, bb, false, rfl, rfl, .inl (s _ _ h1), keysIn_of h3 s, s _ _ hk, q _ (.bl _)⟩⟩ hbm ha hb
/-- k in d, d an own dict in slot i -/
theorem ownD_rel {F : Fm} {σ : L2.St} {H0 H : Hp} (r : Rel F ρ σ H0 H) {j : Nat} {kvs : List (List Int × D)} (hr : ρ[j]? = some (.ownD kvs)) : ∃ p xs, σ[j]? = some (some (.ref p)) ∧ H p = some (DRaw p xs) ∧ KR H0 xs kvs ∧ H0 p = none ∧ F.He p = none ∧ p ∉ F.dk := by
  obtain ⟨p, e1, e2, e3, e4, xs, e5, e6⟩ := r.sl j _ hr
  exact ⟨p, xs, e1, e5, e6, e2, e3, e4⟩
theorem et_inO (j : Nat) {n : Str} {p1 : Pos} {kvs : List (List Int × D)} {k : List Int} (hu : X.A.units + 64 < cLine) (ha : EE X ρ a ρ1 (keyD k)) (hr : ρ1[j]? = some (.ownD kvs) := by rfl) (hN : X.N[j]? = some n := by rfl)
    (hv : Vis X.env.scope n := by first | exact Or.inl rfl | exact Or.inr (Or.inl rfl) | exact Or.inr (Or.inr rfl)) (hd : (n == ("__debug__" : Str)) = false := by decide) (hcd : (n == ("__classdict__" : Str)) = false := by decide) :
    ET X ρ (.Compare a [.In] [.Name n p1] pos) ρ1 (decide (k ∈ kvs.map (·.1))) := fun F σ H0 H Q r kk => by
  refine WT.of (pt_cmpR (op_inD (by omega)) pe_we (pe_var hN hv hd hcd) rfl) (ha F σ H0 H _ r fun v H1 H' s r' pv => ?_)
  obtain ⟨bb, rfl, hk⟩ := rp_key pv
  obtain ⟨p, xs, e1, e2, e3, _⟩ := ownD_rel r' hr
  refine ⟨_, e1, ⟨p, xs, k, bb, false, rfl, rfl, .inl e2, keysIn_of e3.tups r'.ex, r'.ex _ _ hk, _, rfl, ?_⟩⟩
  rw [e3.keys]
  exact kk _ _ s r'
variable {nx bk ct : List Sl → Prop} {rt : List Sl → D → Prop}
/-- name = {} -/
theorem sj_newD (i : Nat) {n : Str} {p' p1 : Pos} (q : nx (ρ.set i (.ownD []))) (hi : X.N[i]? = some n := by rfl) (hN : X.N.Nodup := by assumption) (hx : Loc X.env.scope n := by first | exact Or.inl rfl | exact Or.inr rfl)
    (hs : swapsWith (.Dict [] [] p1) (some (.Name n p')) pos.line X.env = pure false := by rfl) (hf : X.fn n = true ∨ X.env.scope.names.lookup n = some .local := by first | exact .inl rfl | exact .inr rfl) : SJ X ρ (.Assign [.Name n p'] (.Dict [] [] p1) pos) nx rt bk ct := fun F σ H0 H D r k1 k2 k3 k4 =>
  WS.of (ps_set hN hi hx pe_newD hs hf) (fun p hp => k1 _ _ _ _ (Same.refl _) ((r.newPin hp).setOwnD .nil (r.he_none hp) (r.dk_none hp)) q)
/-- d[k] = v, d an own dict, k new -/
theorem sj_putD (j : Nat) {n : Str} {p1 p2 : Pos} {kvs : List (List Int × D)} {k : List Int} (hu : X.A.units + 64 < cLine) (hv : EE X ρ e ρ1 x) (hk : EE X ρ1 b ρ2 (keyD k)) (hn : k ∉ kvs.map (·.1)) (hl : kvs.length ≤ 100000) (q : nx (ρ2.set j (.ownD (kvs ++ [(k, x)])))) (hr1 : ∃ l, ρ1[j]? = some (.ownD l)) (hr : ρ2[j]? = some (.ownD kvs) := by rfl) (hN : X.N[j]? = some n := by rfl)
    (hvis : Vis X.env.scope n := by first | exact Or.inl rfl | exact Or.inr (Or.inl rfl) | exact Or.inr (Or.inr rfl)) (hd : (n == ("__debug__" : Str)) = false := by decide) (hcd : (n == ("__classdict__" : Str)) = false := by decide)
    (hs : swapsWith e (some (.Subscript (.Name n p1) b p2)) pos.line X.env = pure false := by rfl) : SJ X ρ (.Assign [.Subscript (.Name n p1) b p2] e pos) nx rt bk ct := fun F σ H0 H D r k1 k2 k3 k4 => by
  refine WS.of (ps_putD (by omega) (pe_var hN hvis hd hcd) pe_we pe_we hs) (hv F σ H0 H _ r fun v H1 H' s r' pv => ?_)
  obtain ⟨l1, hr1⟩ := hr1
  obtain ⟨p, xs, e1, _⟩ := ownD_rel r' hr1
  refine ⟨_, e1, hk F σ H1 H' _ r' fun w H2 H'' s2 r2 pw => ?_⟩
  obtain ⟨bb, rfl, hb⟩ := rp_key pw
  obtain ⟨p', xs', e1', e2', e3', e4', e5', e6'⟩ := ownD_rel r2 hr
  rw [e1] at e1'; cases e1'
  refine ⟨p, xs', k, bb, false, rfl, rfl, e2', keysIn_of e3'.tups r2.ex, r2.ex _ _ hb, by rw [e3'.keys]; exact hn, by rw [e3'.len]; exact Nat.lt_of_le_of_lt hl (show 100000 < sizeLine by decide), fun u ru => ?_⟩
  refine k1 _ _ _ _ (s.trans s2) (r2.mutate (s := .ownD (kvs ++ [(k, x)])) hr rfl e1 rfl e4' e5' e6' ⟨p, rfl, e4', e5', e6', _, upd_same, e3'.append (.one hb ru (pv.mono s2))⟩) q
/-- d.setdefault(k, v), nobody asks what it gives -/
theorem sj_setd (j : Nat) {n : Str} {p1 p2 p3 : Pos} {kvs : List (List Int × D)} {k : List Int} (hu : X.A.units + 64 < cLine) (hk : EE X ρ b ρ1 (keyD k)) (hv : EE X ρ1 e ρ2 x) (hl : kvs.length ≤ 100000) (q1 : k ∈ kvs.map (·.1) → nx ρ2) (q2 : k ∉ kvs.map (·.1) → nx (ρ2.set j (.ownD (kvs ++ [(k, x)])))) (hr0 : ∃ l, ρ[j]? = some (.ownD l)) (hr : ρ2[j]? = some (.ownD kvs) := by rfl) (hN : X.N[j]? = some n := by rfl)
    (m : M2 X (.Name n p1) "setdefault" p2 b e p3 := by exact ⟨rfl, rfl, rfl, rfl⟩)
    (hvis : Vis X.env.scope n := by first | exact Or.inl rfl | exact Or.inr (Or.inl rfl) | exact Or.inr (Or.inr rfl)) (hd : (n == ("__debug__" : Str)) = false := by decide) (hcd : (n == ("__classdict__" : Str)) = false := by decide)
    (hs : swapsWith (.Call (.Attribute (.Name n p1) "setdefault" p2) [b, e] [] p3) none pos.line X.env = pure false := by rfl) : SJ X ρ (.Expr (.Call (.Attribute (.Name n p1) "setdefault" p2) [b, e] [] p3) pos) nx rt bk ct := fun F σ H0 H D r k1 k2 k3 k4 => by
  obtain ⟨l0, hr0⟩ := hr0
  obtain ⟨p, xs, e1, e2, _⟩ := ownD_rel r hr0
  refine WS.of (ps_expr (pe_setdD (by omega) (pe_var hN hvis hd hcd) pe_we pe_we m) hs) ⟨_, e1, p, xs, rfl, e2, hk F σ H0 H _ r fun w H1 H' s r' pw => hv F σ H1 H' _ r' fun v H2 H'' s2 r2 pv => ?_⟩
  obtain ⟨bb, rfl, hb⟩ := rp_key pw
  obtain ⟨p', xs', e1', e2', e3', e4', e5', e6'⟩ := ownD_rel r2 hr
  rw [e1] at e1'; cases e1'
  refine ⟨xs', k, bb, false, rfl, e2', keysIn_of e3'.tups r2.ex, r2.ex _ _ (s2 _ _ hb), by rw [e3'.len]; exact Nat.lt_of_le_of_lt hl (show 100000 < sizeLine by decide), fun c u hm => ?_, fun hn u ru => ?_⟩
  · obtain ⟨v0, d, rv, _, hmem⟩ := e3'.val hm
    refine ⟨v0, rv, k1 _ _ _ _ (s.trans s2) r2 (q1 ?_)⟩
    exact List.mem_map.mpr ⟨_, hmem, rfl⟩
  · rw [e3'.keys] at hn
    exact k1 _ _ _ _ (s.trans s2) (r2.mutate (s := .ownD (kvs ++ [(k, x)])) hr rfl e1 rfl e4' e5' e6' ⟨p, rfl, e4', e5', e6', _, upd_same, e3'.append (.one (s2 _ _ hb) ru pv)⟩) (q2 hn)
/-- an own dict becomes a known one -/
theorem Rel.known {F : Fm} {σ : L2.St} {H0 H : Hp} (r : Rel F ρ σ H0 H) {i : Nat} {kvs : List (List Int × D)} (hi : ρ[i]? = some (.ownD kvs)) {p : Addr} (hp : σ[i]? = some (some (.ref p))) (o : HO) : Rel F (ρ.set i .any) σ (upd H0 p o) (upd H p o) ∧ Same H0 (upd H0 p o) := by
  obtain ⟨p', xs, e1, e2, e3, e4, e5, e6⟩ := ownD_rel r hi
  rw [hp] at e1; cases e1
  have s0 : Same H0 (upd H0 p o) := same_upd e4
  refine ⟨⟨fun b u q => ?_, fun b u q n => ?_, fun b q z => ?_, fun b q z => ?_, fun b u q => ?_, by simpa using r.len, fun j s' hj => ?_, fun j k s1 s2 p' h1 h2 o1 o2 q1 q2 => ?_, r.nd.set fun _ z => nomatch z⟩, s0⟩
  · by_cases e : b = p
    · subst e; rw [upd_same] at q ⊢; exact q
    · rw [upd_ne e] at q ⊢; exact r.ex _ _ q
  · rw [upd_ne (ne_of_none q e5)]; exact r.fr _ _ q n
  · by_cases e : b = p
    · subst e; rw [upd_same] at z; cases z
    · rw [upd_ne e] at z; exact r.al b q z
  · by_cases e : b = p
    · subst e; exact e6 q
    · rw [upd_ne e] at z; exact r.ad b q z
  · rw [upd_ne (ne_of_none q e5)]; exact r.ba b u q
  · rcases get_set hj with ⟨e, e'⟩ | ⟨e, e'⟩
    · subst e e'; exact ⟨_, hp⟩
    · have h := r.sl j s' e'
      cases s' with
      | any => exact h
      | d x => obtain ⟨v, q1, q2⟩ := h; exact ⟨v, q1, q2.mono s0⟩
      | own xs =>
        obtain ⟨p', vs', q1, q2, q3, q4, q5, q6⟩ := h
        have hne : p' ≠ p := fun z => by
          subst z
          exact e (r.ne j i _ _ _ e' hi rfl rfl q1 hp)
        exact ⟨p', vs', q1, by rw [upd_ne hne]; exact q2, q3, q4, by rw [upd_ne hne]; exact q5, q6.mono s0⟩
      | ownD ks =>
        obtain ⟨p', q1, q2, q3, q4, xs, q5, q6⟩ := h
        have hne : p' ≠ p := fun z => by
          subst z
          exact e (r.ne j i _ _ _ e' hi rfl rfl q1 hp)
        exact ⟨p', q1, by rw [upd_ne hne]; exact q2, q3, q4, xs, by rw [upd_ne hne]; exact q5, q6.mono s0⟩
      | dk N =>
        obtain ⟨a, p', q, q1, q2, q3, q4, q5, n1, n2, n3, b, c, j', h1, h2, h3, h4⟩ := h
        have m1 : a ≠ p := fun z => e6 (by rw [q1, ← z]; simp)
        have m2 : p' ≠ p := fun z => e6 (by rw [q1, ← z]; simp)
        have m3 : q ≠ p := fun z => e6 (by rw [q1, ← z]; simp)
        exact ⟨a, p', q, q1, q2, by rw [upd_ne m1]; exact q3, by rw [upd_ne m2]; exact q4, by rw [upd_ne m3]; exact q5, n1, n2, n3, b, c, j', by rw [upd_ne m1]; exact h1, by rw [upd_ne m2]; exact h2, by rw [upd_ne m3]; exact h3, h4⟩
  · rcases get_set h1 with ⟨a1, b1⟩ | ⟨a1, b1⟩
    · subst b1; cases o1
    · rcases get_set h2 with ⟨a2, b2⟩ | ⟨a2, b2⟩
      · subst b2; cases o2
      · exact r.ne j k s1 s2 p' b1 b2 o1 o2 q1 q2
/-- .. in d.items(), d an own dict -/
theorem KR.get {H : Hp} : ∀ {xs : List Ent} {kvs : List (List Int × D)}, KR H xs kvs → ∀ {i : Nat} {kv : List Int × D}, kvs[i]? = some kv → ∃ x, xs[i]? = some x ∧ x.1 = kv.1 ∧ H x.2.1 = some (.tup (x.1.map V.int))
  | _, _, .nil, i, kv, h => by simp at h
  | _, _, .cons r t, 0, kv, h => by simp at h; subst h; exact ⟨_, rfl, r.1, r.2.1⟩
  | _, _, .cons r t, i + 1, kv, h => by simp at h; simpa using KR.get t h
theorem isIt_itemsR {H0 : Hp} {p : Addr} {o : Obj} {xs : List Ent} {vs : List V} {kvs : List (List Int × D)} (h : H0 p = some (.frz o (DRaw p xs))) (kr : KR H0 xs kvs) (hv : ValsOf xs vs) (ra : RpA H0 vs (kvs.map (·.2))) : IsIt (ItiR p o xs vs) H0 (kvs.map fun kv => .tuple [keyD kv.1, kv.2]) where
  go := fun i H l e => ⟨e _ _ h, by rw [List.length_map] at l; rw [kr.len]; exact l⟩
  yld := fun i H v H' y e q hy => by
    obtain ⟨T, en, v1, q1, q2, q3, q4, q5⟩ := q
    rw [List.getElem?_map] at hy
    obtain ⟨kv, hkv, rfl⟩ := Option.map_eq_some_iff.mp hy
    obtain ⟨x, h1, h2, h3⟩ := kr.get hkv
    rw [q1] at h1; cases h1
    obtain ⟨u, f1, r1⟩ := ra.get (i := i) (d := kv.2) (by rw [List.getElem?_map, hkv]; rfl)
    rw [q2] at f1; cases f1
    refine .inr ⟨T, _, _, q3, q4, q5, rfl, .cons ?_ (.cons r1 .nil)⟩
    rw [h2] at h3
    exact .tup (b := false) h3 (RpA.of_ints _)
  stop := fun H e => ⟨e _ _ h, by rw [List.length_map, kr.len]; exact Nat.le_refl _⟩
theorem ei_items (i : Nat) {n : Str} {p1 apos cpos tpos : Pos} {elts : List Expr} {kk : Nat} {kvs : List (List Int × D)} (hr : ρ[i]? = some (.ownD kvs) := by rfl) (hN : X.N[i]? = some n := by rfl) (hvis : Vis X.env.scope n := by first | exact Or.inl rfl | exact Or.inr (Or.inl rfl) | exact Or.inr (Or.inr rfl))
    (hd : (n == ("__debug__" : Str)) = false := by decide) (hcd : (n == ("__classdict__" : Str)) = false := by decide) (hbase : attributeBase (.Name n p1) "items" X.env (eval (.Name n p1) X.env) = eval (.Name n p1) X.env := by rfl) (hline : (apos.endLine == cpos.line) = true := by rfl) :
    EI X ρ (.Tuple elts kk tpos) (.Call (.Attribute (.Name n p1) "items" apos) [] [] cpos) (ρ.set i .any) (kvs.map fun kv => .tuple [keyD kv.1, kv.2]) := fun F σ H0 H R r k => by
  obtain ⟨p, xs, e1, e2, e3, e4, e5, e6⟩ := ownD_rel r hr
  obtain ⟨vs, hv, ra⟩ := e3.vals
  refine WI.of (pi_itemsR (pe_var hN hvis hd hcd) hbase hline) ⟨_, e1, p, xs, vs, rfl, e2, hv, fun o => ?_⟩
  obtain ⟨r2, s2⟩ := r.known hr e1 (.frz o (DRaw p xs))
  exact k _ _ _ s2 r2 (isIt_itemsR upd_same (e3.mono s2) hv (ra.mono s2))
/-- sorted(d) -/
theorem eo_sortedD {p : Pos} {ks : List (List Int)} (le : List Int → List Int → Bool) (hm : X.mg "sorted" = none) (hr : Room k X.A) (ha : EE X ρ a ρ1 (.dict ks)) (hle : (PySem.W.dataLe false fun k => toPy (keyD k)) = le) (hal : PySem.W.AllAlike (ks.map fun k => toPy (keyD k))) (hk : PySem.W.Sortable (ks.map fun k => toPy (keyD k)))
    (hd : ∀ b, b ∈ ks → (toPy (keyD b)).depth ≤ 50) (hc : X.calm = true := by rfl) (hg : Gl X "sorted" := by rfl) (he : starEach [a] X.env = (false, eval a X.env) :: starEach [] X.env := by rfl) (hpl : (backTo pos (starEach [] X.env)).any (·.1) = false := by rfl) : EO X ρ (.Call (.Name "sorted" p) [a] [] pos) ρ1 ((ks.mergeSort le).map keyD) := fun F σ H0 H Q r kk =>
  WE.of (pe_callB (cr_sortedDict hc (by have := hr.units; omega)) hg hm (by decide +kernel) (pa_cons pe_we pa_nil he) (by decide) (by decide) he hpl) (ha F σ H0 H _ r fun v H1 H' s r' pv => by
    cases pv with
    | dct h1 h2 h3 =>
      subst h2
      refine ⟨_, _, H1, rfl, .inl (r'.ex _ _ h1), r'.ex, h3, hal, hk, hd, fun ys p ry hp => ?_⟩
      rw [hle] at ry
      exact kk p ys H1 _ s (r'.he_none hp) (r'.dk_none hp) (r'.newPin hp) ry)
/-- {k: v for .. in .. if ..}, the keys new each time -/
theorem ee_dc {α : Type} {scope : Scope} {ifs : List Expr} {own : List (Str × Nat)} {kx vx : Expr} (xs : List α) (enc : α → D) (p : α → Bool) (kf : α → List Int) (vf : α → D) (hu : X.A.units + 64 < cLine) (hi : EI X ρ tg iter ρ1 (xs.map enc)) (ok : blkC X.N X.env.scope scope own = true) (hw : wipeS ρ1 (own.map (·.2)) = ρ1) (hlen : xs.length ≤ 100000) (hnd : ((xs.filter p).map kf).Nodup)
    (ht : ∀ a ∈ xs, ∃ ρ2, ∀ s H C cl fp, GJ (bx X scope s H C cl fp) ρ1 tg (enc a) (own.map (·.2)) ρ2 ∧ wipeS ρ2 (own.map (·.2)) = ρ1 ∧ ETs (bx X scope s H C cl fp) ρ2 ifs ρ2 (p a) ∧ (p a = true → EE (bx X scope s H C cl fp) ρ2 kx ρ2 (keyD (kf a)) ∧ EE (bx X scope s H C cl fp) ρ2 vx ρ2 (vf a)))
    (hN : X.N.Nodup := by assumption) (hc : X.calm = true := by rfl) (hs : ∀ x, foldedSetIterable iter X.env x = pure x := by intro _; rfl) : EE X ρ (.DictComp kx vx [⟨tg, iter, ifs, 0⟩] scope pos) ρ1 (.dict ((xs.filter p).map kf)) := fun F σ H0 H Q r k => by
  refine WE.of (pe_dcR (wi := WI X tg iter) (g := WGB X scope tg) (tt := WTsB X scope ifs) (tk := WEB X scope kx) (tv := WEB X scope vx) hc hu hN pi_wi (blkOk_by ok) pg_B pts_B pe_B pe_B hs) ?_
  generalize ew : own.map (·.2) = ws at hw ht ⊢
  refine hi F σ H0 H _ r fun J H01 H1 s1 r1 it => ?_
  intro Dn hDn
  have he := r1.he_none hDn
  have hdk := r1.dk_none hDn
  have rp := r1.newPin (o := DRaw Dn []) hDn
  have ylen : (xs.map enc).length = xs.length := List.length_map ..
  refine ⟨fun i m H => m = xs.length - i ∧ i ≤ xs.length ∧ ∃ H0' es, Same H01 H0' ∧ Rel (F.pin Dn (DRaw Dn es)) ρ1 (L2.wipe σ ws) H0' H ∧ KR H0' es (((xs.take i).filter p).map fun a => (kf a, vf a)),
    ⟨xs.length, by omega, Nat.zero_le _, H01, [], Same.refl _, by have q := rp.wipe ws; rw [hw] at q; exact q, .nil⟩, ?_⟩
  rintro i m Hc ⟨rfl, hle, H0c, es, sc, rc, kr⟩
  have it' := it.mono sc
  by_cases hlt : i < xs.length
  · have hy : (xs.map enc)[i]? = some (enc xs[i]) := by rw [List.getElem?_map, List.getElem?_eq_getElem hlt]; rfl
    have et : xs.take (i + 1) = xs.take i ++ [xs[i]] := by rw [List.take_add_one, List.getElem?_eq_getElem hlt]; rfl
    obtain ⟨ρ2, hb⟩ := ht xs[i] (List.getElem_mem hlt)
    refine .inr ⟨it'.go i Hc (by rw [ylen]; exact hlt) rc.ex, fun H' => ∃ H0' es, Same H01 H0' ∧ Rel (F.pin Dn (DRaw Dn es)) ρ1 (L2.wipe σ ws) H0' H' ∧ KR H0' es (((xs.take (i + 1)).filter p).map fun a => (kf a, vf a)),
      fun H' q => ⟨xs.length - (i + 1), by omega, rfl, hlt, q⟩, fun v H' yv => ?_⟩
    obtain ⟨H0d, sd, rd, pd⟩ := it'.turn rc yv hy
    intro s2 H2 C2 cl2 fp2
    obtain ⟨hg, hwc, -, -⟩ := hb s2 H2 C2 cl2 fp2
    refine hg _ _ H0d H' v _ rd pd fun σ' rg wg => ⟨wg.trans (wipe_wipe σ ws), ?_⟩
    intro s3 H3 C3 cl3 fp3
    obtain ⟨-, -, hts, -⟩ := hb s3 H3 C3 cl3 fp3
    refine hts _ σ' H0d H' _ rg fun H0e He se re => ?_
    by_cases hp : p xs[i] = true
    · rw [hp, if_pos rfl]
      intro s4 H4 C4 cl4 fp4
      obtain ⟨-, -, -, hel⟩ := hb s4 H4 C4 cl4 fp4
      refine (hel hp).1 _ σ' H0e He _ re fun w H0f Hf sf rf pf => ?_
      intro s5 H5 C5 cl5 fp5
      obtain ⟨-, -, -, hel5⟩ := hb s5 H5 C5 cl5 fp5
      refine (hel5 hp).2 _ σ' H0f Hf _ rf fun w2 H0g Hg sg rg2 pg2 => ?_
      obtain ⟨bb, rfl, hbb⟩ := rp_key pf
      obtain ⟨_, hD, _, _⟩ := rg2.unpinned he hdk
      have kr' := kr.mono (((sd.trans se).trans sf).trans sg)
      have hkn : kf xs[i] ∉ es.map (·.1) := fun hm => by
        rw [kr'.keys, List.map_map] at hm
        have h2 := hnd
        rw [← List.take_append_drop (i + 1) xs, et, List.filter_append, List.filter_append, List.map_append, List.map_append] at h2
        have h3 := (List.nodup_append.mp (List.nodup_append.mp h2).1).2.2
        obtain ⟨c, hc1, hc2⟩ := List.mem_map.mp hm
        exact h3 _ (List.mem_map.mpr ⟨c, hc1, rfl⟩) (kf xs[i]) (by simp [hp]) hc2
      refine ⟨es, kf xs[i], bb, false, rfl, hD, keysIn_of kr'.tups rg2.ex, rg2.ex _ _ (sg _ _ hbb), hkn, ?_, fun u ru => ⟨H0g, es ++ [(kf xs[i], bb, u)], (((sc.trans sd).trans se).trans sf).trans sg, ?_, ?_⟩⟩
      · rw [kr.len, List.length_map]
        have h1 := List.length_filter_le p (xs.take i)
        have h2 := List.length_take_le i xs
        exact Nat.lt_of_le_of_lt (show _ ≤ 100000 by omega) (show 100000 < sizeLine by decide)
      · have q := (rg2.repin (o' := DRaw Dn (es ++ [(kf xs[i], bb, u)])) he hdk).wipe ws
        rw [wg, wipe_wipe, hwc] at q
        exact q
      · rw [et, List.filter_append, List.map_append]
        refine kr'.append ?_
        rw [List.filter_cons_of_pos hp]
        exact .one (sg _ _ hbb) ru pg2
    · have hp' : p xs[i] = false := by simpa using hp
      rw [hp', if_neg Bool.false_ne_true]
      refine ⟨H0e, es, (sc.trans sd).trans se, ?_, ?_⟩
      · have q := re.wipe ws
        rw [wg, wipe_wipe, hwc] at q
        exact q
      · rw [et, List.filter_append, List.filter_cons_of_neg (by rw [hp']; exact Bool.false_ne_true), List.filter_nil, List.append_nil]
        exact kr.mono (sd.trans se)
  · have e : i = xs.length := by omega
    subst e
    rw [List.take_length] at kr
    have q := rc
    rw [← hw] at q
    have q2 := q.toOuter
    rw [hw] at q2
    obtain ⟨r3, s3⟩ := q2.unpinD he hdk
    refine .inl ⟨by have := it'.stop Hc rc.ex; rw [ylen] at this; exact this, k _ _ _ ((s1.trans sc).trans s3) r3 (.dct upd_same ?_ (kr.mono s3).tups)⟩
    rw [kr.keys, List.map_map]
    rfl
end
end DL
set_option Elab.async false
set_option linter.all false
set_option maxRecDepth 100000
set_option maxHeartbeats 4000000
/-! DL16: by ways: what an expression may come to; more statements -/
namespace DL
open PySem PySem.Spec PyProof.Rows L2
def CDivWN (_ j : Int) : Prop := j ≠ 0 ∧ j.natAbs.log2 < 9000
theorem op_fdivWN {X : Cx} : OpR X (binaryOp .FloorDiv) (rI CDivWN fun i j => .int (i.fdiv j)) := opI fun _ _ _ _ _ _ _ hc q => floordiv_int hc.1 q (.inl (PyProof.noPylong_of_log2 hc.2))
theorem od_divN {X : Cx} {i j : Int} (h : CDivWN i j) : OpD X (binaryOp .FloorDiv) (.int i) (.int j) (.int (i.fdiv j)) := opd_I op_fdivWN h fun _ => .int _
/-- an expression list by ways -/
def WAD (X : Cx) (ρ : List Sl) (es : List Expr) (Qd : List Sl → List D → Prop) : Prop := ∀ F σ H0 H Q, Rel F ρ σ H0 H → (∀ vs H0' H' ρ' xs, Same H0 H0' → Rel F ρ' σ H0' H' → RpA H0' vs xs → Qd ρ' xs → Q vs H') → WA X es σ H Q
def EWD (X : Cx) (ρ : List Sl) (e : Expr) (Qd : List Sl → Bool → Prop) : Prop := ∀ F σ H0 H Q, Rel F ρ σ H0 H → (∀ b H0' H' ρ', Same H0 H0' → Rel F ρ' σ H0' H' → Qd ρ' b → Q b H') → WW X e σ H Q
def WTsD (X : Cx) (ρ : List Sl) (ifs : List Expr) (Qd : List Sl → Bool → Prop) : Prop := ∀ F σ H0 H Q, Rel F ρ σ H0 H → (∀ b H0' H' ρ', Same H0 H0' → Rel F ρ' σ H0' H' → Qd ρ' b → Q b H') → WTs X ifs σ H Q
def EID (X : Cx) (ρ : List Sl) (tg iter : Expr) (Qd : List Sl → List D → Prop) : Prop := ∀ F σ H0 H R, Rel F ρ σ H0 H → (∀ J H0' H' ρ' ys, Same H0 H0' → Rel F ρ' σ H0' H' → IsIt J H0' ys → Qd ρ' ys → R J H') → WI X tg iter σ H R
/-- a new list by ways -/
def WO (X : Cx) (ρ : List Sl) (e : Expr) (Qd : List Sl → List D → Prop) : Prop := ∀ F σ H0 H Q, Rel F ρ σ H0 H → (∀ p vs H0' H' ρ' xs, Same H0 H0' → F.He p = none → p ∉ F.dk → Rel (F.pin p (.lst vs)) ρ' σ H0' H' → RpA H0' vs xs → Qd ρ' xs → Q (.ref p) H') → WE X e σ H Q
section
variable {X : Cx} {ρ ρ1 ρ2 ρ3 : List Sl} {e a b c tg iter : Expr} {es rest : List Expr} {x y z : D} {pos : Pos} {k : Nat} {Qd : List Sl → D → Prop} {Qb : List Sl → Bool → Prop} {Qa : List Sl → List D → Prop}
theorem WO.wd (h : WO X ρ e fun ρ' xs => Qd ρ' (.list xs)) : WD X ρ e Qd := fun F σ H0 H Q r k => h F σ H0 H Q r fun p vs H0' H' ρ' xs s he hd r' ra q => by
  obtain ⟨r2, s2⟩ := r'.unpinD he hd
  exact k _ _ _ _ _ (s.trans s2) r2 (.lst upd_same (ra.mono s2)) q
theorem EO.wo {xs : List D} (h : EO X ρ e ρ1 xs) (q : Qa ρ1 xs) : WO X ρ e Qa := fun F σ H0 H Q r k => h F σ H0 H Q r fun p vs H0' H' s he hd r' ra => k p vs H0' H' ρ1 xs s he hd r' ra q
theorem ET.wtd {t : Bool} (h : ET X ρ e ρ1 t) (q : Qb ρ1 t) : WTD X ρ e Qb := fun F σ H0 H Q r k => h F σ H0 H Q r fun H0' H' s r' => k t H0' H' ρ1 s r' q
theorem EI.eid {ys : List D} (h : EI X ρ tg iter ρ1 ys) (q : Qa ρ1 ys) : EID X ρ tg iter Qa := fun F σ H0 H R r k => h F σ H0 H R r fun J H0' H' s r' it => k J H0' H' ρ1 ys s r' it q
theorem wd_bin {op : Operator} (h : WD X ρ a fun ρ1 x => WD X ρ1 b fun ρ2 y => ∃ z, OpD X (binaryOp op) x y z ∧ Qd ρ2 z) : WD X ρ (.BinOp a op b pos) Qd := fun F σ H0 H Q r k => by
  have ho : OpR X (binaryOp op) (fun v w H (Q : VK) => ∃ r : R2, OpR X (binaryOp op) r ∧ r v w H Q) := fun pins s σ H x y v u Q I r1 r2 h => by
    obtain ⟨r, hr, h⟩ := h
    exact hr pins s σ H x y v u Q I r1 r2 h
  exact WE.of (pe_op ho pe_we pe_we) (twoW h r fun v w H0' H' ρ2 x y s r' p1 p2 q => by
    obtain ⟨z, ⟨rr, hr, hv⟩, hz⟩ := q
    exact ⟨rr, hr, hv v w H0' H' Q r'.ex p1 p2 fun u hu => k u H0' H' ρ2 z s r' hu hz⟩)
theorem wtd_cmp {op : CmpOp} (hm : behindInMarks op b = false) (h : WD X ρ a fun ρ1 x => WD X ρ1 b fun ρ2 y => ∃ t, OpD X (compareOp op) x y (.bool t) ∧ Qb ρ2 t) : WTD X ρ (.Compare a [op] [b] pos) Qb := fun F σ H0 H Q r k => by
  have ho : OpR X (compareOp op) (fun v w H (Q : VK) => ∃ r : R2, OpR X (compareOp op) r ∧ r v w H Q) := fun pins s σ H x y v u Q I r1 r2 h => by
    obtain ⟨r, hr, h⟩ := h
    exact hr pins s σ H x y v u Q I r1 r2 h
  exact WT.of (pt_cmpR ho pe_we pe_we hm) (twoW h r fun v w H0' H' ρ2 x y s r' p1 p2 q => by
    obtain ⟨t, ⟨rr, hr, hv⟩, hz⟩ := q
    exact ⟨rr, hr, hv v w H0' H' _ r'.ex p1 p2 fun u hu => by cases hu; exact ⟨t, rfl, k t H0' H' ρ2 s r' hz⟩⟩)
theorem wtd_w (h : EWD X ρ e Qb) : WTD X ρ e Qb := fun F σ H0 H Q r k => WT.of pw_ww.pt (h F σ H0 H Q r k)
theorem ewd_and1 (h : WTD X ρ a Qb) : EWD X ρ (.BoolOp .And [a] pos) Qb := fun F σ H0 H Q r k => WW.of (pw_and1 pt_wt) (h F σ H0 H Q r k)
theorem ewd_or1 (h : WTD X ρ a Qb) : EWD X ρ (.BoolOp .Or [a] pos) Qb := fun F σ H0 H Q r k => WW.of (pw_or1 pt_wt) (h F σ H0 H Q r k)
theorem ewd_and (h : WTD X ρ a fun ρ1 t => if t = true then EWD X ρ1 (.BoolOp .And (b :: rest) pos) Qb else Qb ρ1 false) : EWD X ρ (.BoolOp .And (a :: b :: rest) pos) Qb := fun F σ H0 H Q r k =>
  WW.of (pw_and pt_wt pw_ww) (h F σ H0 H _ r fun t H0' H' ρ1 s r' q => by
    cases t with
    | true => rw [if_pos rfl] at q ⊢; exact q F σ H0' H' Q r' fun t2 H2 H3 ρ2 s2 => k t2 H2 H3 ρ2 (s.trans s2)
    | false => rw [if_neg Bool.false_ne_true] at q ⊢; exact k _ _ _ _ s r' q)
theorem ewd_or (h : WTD X ρ a fun ρ1 t => if t = true then Qb ρ1 true else EWD X ρ1 (.BoolOp .Or (b :: rest) pos) Qb) : EWD X ρ (.BoolOp .Or (a :: b :: rest) pos) Qb := fun F σ H0 H Q r k =>
  WW.of (pw_or pt_wt pw_ww) (h F σ H0 H _ r fun t H0' H' ρ1 s r' q => by
    cases t with
    | false => rw [if_neg Bool.false_ne_true] at q ⊢; exact q F σ H0' H' Q r' fun t2 H2 H3 ρ2 s2 => k t2 H2 H3 ρ2 (s.trans s2)
    | true => rw [if_pos rfl] at q ⊢; exact k _ _ _ _ s r' q)
theorem wtsd_one (h : WTD X ρ c Qb) : WTsD X ρ [c] Qb := fun F σ H0 H Q r k => WTs.of (pts_one pt_wt) (h F σ H0 H Q r k)
/-- x[e] -/
theorem wd_ix {xs : List D} (hx : x = .list xs ∨ ∃ tb, x = .tup tb xs) (ha : EE X ρ a ρ1 x) (hb : WD X ρ1 b fun ρ2 y => ∃ i z, y = .int i ∧ atI xs i = some z ∧ Qd ρ2 z) (hs : PlainIx b := by exact fun _ _ => rfl) : WD X ρ (.Subscript a b pos) Qd := fun F σ H0 H Q r k => by
  rcases hx with rfl | ⟨tb, rfl⟩
  · refine WE.of (pe_ix ix_list pe_we pe_we hs) (ha F σ H0 H _ r fun v H1 H' s r' p1 => hb F σ H1 H' _ r' fun w H2 H'' ρ2 y s2 r2 p2 q => ?_)
    obtain ⟨i, z, rfl, hi, hq⟩ := q
    cases p2
    cases p1.mono s2 with
    | lst hs ha =>
      obtain ⟨u, e, ru⟩ := rpa_at ha hi
      exact ⟨_, _, i, u, rfl, rfl, SqL.of (r2.ex _ _ hs), e, k _ _ _ _ _ (s.trans s2) r2 ru hq⟩
  · refine WE.of (pe_ix ix_tup pe_we pe_we hs) (ha F σ H0 H _ r fun v H1 H' s r' p1 => hb F σ H1 H' _ r' fun w H2 H'' ρ2 y s2 r2 p2 q => ?_)
    obtain ⟨i, z, rfl, hi, hq⟩ := q
    cases p2
    cases p1.mono s2 with
    | tup hs ha =>
      obtain ⟨u, e, ru⟩ := rpa_at ha hi
      exact ⟨_, _, i, u, rfl, rfl, (hs.mono r2.ex).sq, e, k _ _ _ _ _ (s.trans s2) r2 ru hq⟩
/-! argument lists by ways -/
theorem wad_nil (q : Qa ρ []) : WAD X ρ [] Qa := fun F σ H0 H Q r k => WA.of pa_nil (k [] H0 H ρ [] (Same.refl _) r .nil q)
theorem wad_cons (h : WD X ρ e fun ρ1 x => WAD X ρ1 es fun ρ2 xs => Qa ρ2 (x :: xs)) (hs : starEach (e :: es) X.env = (false, eval e X.env) :: starEach es X.env := by rfl) : WAD X ρ (e :: es) Qa := fun F σ H0 H Q r k =>
  WA.of (pa_cons pe_we pa_wa hs) (h F σ H0 H _ r fun v H1 H' ρ1 x s r' p q => q F σ H1 H' _ r' fun vs H2 H'' ρ2 xs s2 r2 p2 q2 => k _ _ _ ρ2 _ (s.trans s2) r2 (.cons (p.mono s2) p2) q2)
theorem EA.wad {xs : List D} (h : EA X ρ es ρ1 xs) (q : Qa ρ1 xs) : WAD X ρ es Qa := fun F σ H0 H Q r k => h F σ H0 H Q r fun vs H1 H' s r' p => k vs H1 H' ρ1 xs s r' p q
theorem wd_tup {x1 : Nat} (h : WAD X ρ es fun ρ1 xs => xs.length ≤ 1000 ∧ Qd ρ1 (.tuple xs)) : WD X ρ (.Tuple es x1 pos) Qd := fun F σ H0 H Q r k =>
  WE.of (pe_tup pa_wa) (h F σ H0 H _ r fun vs H1 H' ρ1 xs s r' p q => ⟨by rw [p.len]; exact Nat.le_of_lt (small1000 q.1), fun l hl => by
    obtain ⟨r2, s2⟩ := r'.new (o := .tup vs) hl
    exact k _ _ _ ρ1 _ (s.trans s2) r2 (.tup (b := false) upd_same (p.mono s2)) q.2⟩)
theorem wo_lst (h : WAD X ρ es fun ρ1 xs => xs.length ≤ 1000 ∧ Qa ρ1 xs) : WO X ρ (.List es pos) Qa := fun F σ H0 H Q r k =>
  WE.of (pe_lst pa_wa) (h F σ H0 H _ r fun vs H1 H' ρ1 xs s r' p q => ⟨by rw [p.len]; exact Nat.le_of_lt (small1000 q.1), fun l hl => k l vs H1 _ ρ1 xs s (r'.he_none hl) (r'.dk_none hl) (r'.newPin hl) p q.2⟩)
theorem wo_cat {xs : List D} (h : WD X ρ a fun ρ1 x => ∃ xs, x = .list xs ∧ WD X ρ1 b fun ρ2 y => ∃ ys, y = .list ys ∧ xs.length + ys.length ≤ 100000 ∧ Qa ρ2 (xs ++ ys)) : WO X ρ (.BinOp a .Add b pos) Qa := fun F σ H0 H Q r k =>
  WE.of (pe_op op_cat pe_we pe_we) (h F σ H0 H _ r fun v H1 H' ρ1 x s r' p1 q => by
    obtain ⟨xs, rfl, q⟩ := q
    refine q F σ H1 H' _ r' fun w H2 H'' ρ2 y s2 r2 p2 q2 => ?_
    obtain ⟨ys, rfl, hl, q2⟩ := q2
    cases p1.mono s2 with
    | lst hs hx =>
      cases p2 with
      | lst hs2 hx2 =>
        exact ⟨_, _, _, _, rfl, rfl, r2.ex _ _ hs, r2.ex _ _ hs2, by rw [hx.len, hx2.len]; exact Nat.le_trans hl (show 100000 ≤ sizeLine by decide), fun p hp => k p _ H2 _ ρ2 _ (s.trans s2) (r2.he_none hp) (r2.dk_none hp) (r2.newPin hp) (hx.append hx2) q2⟩)
/-- calls, the arguments by ways -/
theorem wd_call {n : Str} {p : Pos} {j : Nat} {R : List D → D → Prop} (F0 : DFam X.prog X.w X.K X.mg X.base j n R) (hr : Room k X.A) (ha : WAD X ρ (e :: es) fun ρ1 ds => ∃ x, R ds x ∧ Qd ρ1 x) (hj : j ≤ k := by decide) (hg : Gl X n := by rfl) (hdb : (n == ("__debug__" : Str)) = false := by decide)
    (he : starEach (e :: es) X.env = (false, eval e X.env) :: starEach es X.env := by rfl) (hpl : (backTo pos (starEach es X.env)).any (·.1) = false := by rfl) : WD X ρ (.Call (.Name n p) (e :: es) [] pos) Qd := fun F σ H0 H Q r kk => by
  obtain ⟨f, fd, ps, F1, hm, hk, hb⟩ := F0.ex
  refine WE.of (pe_call F1 (hr.mono hj) hg hm hk hb .nil pass0 pa_wa hdb he hpl) (ha F σ H0 H _ r fun us H01 H1 ρ1 ds s r1 ra q => ?_)
  obtain ⟨x, hx, q⟩ := q
  refine ⟨ds, x, hx, H01, r1.ex, by rw [List.append_nil]; exact ra, fun v H0' H' h1 h2 h3 h4 p => kk v H0' H' _ _ (s.trans h1) (r1.called h1 h2 h3 h4) p q⟩
theorem wd_callKW {n dn : Str} {p pd : Pos} {j : Nat} {R : Nat → List D → (D → Nat → Prop) → Prop} (i : Nat) (F0 : KFam X.prog X.w X.K X.mg X.base j n R) (hr : Room k X.A) (ha : WAD X ρ es fun ρ1 ds => ∃ N post, R N ds post ∧ ρ1[i]? = some (.dk (dkN N)) ∧ ∀ x N', post x N' → Qd (ρ1.set i (.dk (dkN N'))) x)
    (hi : ∃ P, ρ[i]? = some (.dk P)) (hj : j ≤ k := by decide) (hg : Gl X n := by rfl) (hdb : (n == ("__debug__" : Str)) = false := by decide) (hN : X.N[i]? = some dn := by rfl)
    (hv : Vis X.env.scope dn := by first | exact Or.inl rfl | exact Or.inr (Or.inl rfl) | exact Or.inr (Or.inr rfl)) (hd : (dn == ("__debug__" : Str)) = false := by decide) (hcd : (dn == ("__classdict__" : Str)) = false := by decide)
    (he : starEach (.Name dn pd :: es) X.env = (false, eval (.Name dn pd) X.env) :: starEach es X.env := by rfl) (hpl : (backTo pos (starEach es X.env)).any (·.1) = false := by rfl) : WD X ρ (.Call (.Name n p) (.Name dn pd :: es) [] pos) Qd := fun F σ H0 H Q r kk => by
  obtain ⟨f, fd, ps, F1, hm, hk, hb⟩ := F0.ex
  obtain ⟨P0, hi⟩ := hi
  obtain ⟨a, pp, qq, e1, e2, _⟩ := r.sl i _ hi
  refine WE.of (pe_call F1 (hr.mono hj) hg hm hk hb .nil pass0 (pa_cons (pe_var hN hv hd hcd) pa_wa he) hdb he hpl) ?_
  refine ⟨_, e2, ha F σ H0 H _ r fun us H01 H1 ρ1 ds s r1 ra q => ?_⟩
  obtain ⟨N, post, hR, hi1, q⟩ := q
  obtain ⟨a', p', q', e1', e2', e3, e4, e5, e6, e7, e8, e9⟩ := r1.sl i _ hi1
  rw [e2] at e2'; cases e2'
  obtain ⟨rfl, rfl⟩ : pp = p' ∧ qq = q' := by rw [e1] at e1'; simpa using e1'
  refine ⟨N, ds, post, hR, H01, a, pp, qq, us, by simp, r1.ex, ra, e3, e4, e5, e6, e7, e8, e9, fun v H0' H' x N' hp h1 h2 h3 h4 h5 dk p => ?_⟩
  exact kk v H0' H' _ x (s.trans h1) (r1.drawn hi1 e1 e2 e3 e4 e5 e6 e7 e8 e9 h1 h2 h3 h4 h5 dk) p (q x N' hp)
/-- the deck's slot, weaker -/
theorem Rel.dkWeak {F : Fm} {σ : L2.St} {H0 H : Hp} (r : Rel F ρ σ H0 H) {i : Nat} {P P' : Dkp} (hi : ρ[i]? = some (.dk P)) (l : ∀ b c j, (∃ a p q, F.dk = [a, p, q] ∧ H a = some (.lst [.ref p, .ref q, .int (j : Nat)]) ∧ H p = some (.lst (b.map V.int)) ∧ H q = some (.lst (c.map V.int))) → P b c j → P' b c j) : Rel F (ρ.set i (.dk P')) σ H0 H where
  ex := r.ex
  fr := r.fr
  al := r.al
  ad := r.ad
  ba := r.ba
  len := by simpa using r.len
  sl := fun j s hs => by
    rcases get_set hs with ⟨rfl, rfl⟩ | ⟨_, z⟩
    · obtain ⟨a, p, q, e1, e2, e3, e4, e5, e6, e7, e8, b, c, j', h1, h2, h3, h4⟩ := r.sl _ _ hi
      exact ⟨a, p, q, e1, e2, e3, e4, e5, e6, e7, e8, b, c, j', h1, h2, h3, l _ _ _ ⟨a, p, q, e1, h1, h2, h3⟩ h4⟩
    · exact r.sl j s z
  ne := fun i1 i2 s1 s2 p' g1 g2 o1 o2 f1 f2 => by
    rcases get_set g1 with ⟨z1, z2⟩ | ⟨z1, z2⟩
    · subst z2; cases o1
    · rcases get_set g2 with ⟨z3, z4⟩ | ⟨z3, z4⟩
      · subst z4; cases o2
      · exact r.ne i1 i2 s1 s2 p' z2 z4 o1 o2 f1 f2
  nd := r.nd.set_dk hi
theorem wd_weak (i : Nat) {P P' : Dkp} (h : WD X (ρ.set i (.dk P')) e Qd) (hi : ρ[i]? = some (.dk P)) (l : ∀ b c j, P b c j → P' b c j) : WD X ρ e Qd := fun F σ H0 H Q r k => h F σ H0 H Q (r.dkWeak hi fun b c j _ => l b c j) k
/-- max, min of two by ways -/
theorem wd_max2 {p : Pos} (hm : X.mg "max" = none) (ha : WAD X ρ [a, b] fun ρ1 ds => ∃ i j, ds = [.int i, .int j] ∧ Qd ρ1 (.int (max i j))) (hc : X.calm = true := by rfl) (hg : Gl X "max" := by rfl) (he : starEach [a, b] X.env = (false, eval a X.env) :: starEach [b] X.env := by rfl) (hpl : (backTo pos (starEach [b] X.env)).any (·.1) = false := by rfl) : WD X ρ (.Call (.Name "max" p) [a, b] [] pos) Qd := fun F σ H0 H Q r k =>
  WE.of (pe_callB (call_max2 hc) hg hm boot_max pa_wa (by decide) (by decide) he hpl) (ha F σ H0 H _ r fun vs H1 H' ρ1 ds s r' ra q => by
    obtain ⟨i, j, rfl, q⟩ := q
    obtain ⟨u, w, rfl, ru, rw'⟩ := rpa2 ra
    cases ru; cases rw'
    exact ⟨_, _, rfl, k _ _ _ _ _ s r' (by have e : (if j > i then j else i) = max i j := (by rw [Int.max_def]; split <;> split <;> omega); rw [e]; exact .int _) q⟩)
theorem wd_min2 {p : Pos} (hm : X.mg "min" = none) (ha : WAD X ρ [a, b] fun ρ1 ds => ∃ i j, ds = [.int i, .int j] ∧ Qd ρ1 (.int (min i j))) (hc : X.calm = true := by rfl) (hg : Gl X "min" := by rfl) (he : starEach [a, b] X.env = (false, eval a X.env) :: starEach [b] X.env := by rfl) (hpl : (backTo pos (starEach [b] X.env)).any (·.1) = false := by rfl) : WD X ρ (.Call (.Name "min" p) [a, b] [] pos) Qd := fun F σ H0 H Q r k =>
  WE.of (pe_callB (call_min2 hc) hg hm boot_min pa_wa (by decide) (by decide) he hpl) (ha F σ H0 H _ r fun vs H1 H' ρ1 ds s r' ra q => by
    obtain ⟨i, j, rfl, q⟩ := q
    obtain ⟨u, w, rfl, ru, rw'⟩ := rpa2 ra
    cases ru; cases rw'
    exact ⟨_, _, rfl, k _ _ _ _ _ s r' (by have e : (if j < i then j else i) = min i j := (by rw [Int.min_def]; split <;> split <;> omega); rw [e]; exact .int _) q⟩)
/-- tuple(list) by ways -/
theorem wd_tupL {p : Pos} (hm : X.mg "tuple" = none) (ha : WD X ρ e fun ρ1 x => ∃ xs, x = .list xs ∧ Qd ρ1 (.tuple xs)) (hg : Gl X "tuple" := by rfl) (he : starEach [e] X.env = (false, eval e X.env) :: starEach [] X.env := by rfl) (hpl : (backTo pos (starEach [] X.env)).any (·.1) = false := by rfl) : WD X ρ (.Call (.Name "tuple" p) [e] [] pos) Qd := fun F σ H0 H Q r k => by
  refine WE.of (pe_callTy call_tuple_of hg hm boot_tuple (pa_cons pe_we pa_nil he) (by decide) (by decide) he hpl) (ha F σ H0 H _ r fun v H1 H' ρ1 x s r' pv q => ?_)
  obtain ⟨xs, rfl, q⟩ := q
  cases pv with
  | lst hs hx =>
    refine ⟨_, _, rfl, .inl ⟨SqL.of (r'.ex _ _ hs), fun l hl => ?_⟩⟩
    obtain ⟨r2, s2⟩ := r'.new (o := .tup _) hl
    exact k _ _ _ _ _ (s.trans s2) r2 (.tup (b := false) upd_same (hx.mono s2)) q
/-- tuple(list) or b -/
theorem wd_orT (h : WD X ρ a fun ρ1 x => ∃ tb xs, x = .tup tb xs ∧ (xs ≠ [] → Qd ρ1 x) ∧ (xs = [] → WD X ρ1 (.BoolOp .Or (b :: rest) pos) Qd)) : WD X ρ (.BoolOp .Or (a :: b :: rest) pos) Qd := fun F σ H0 H Q r k =>
  WE.of (pe_orT pe_we pe_we) (h F σ H0 H _ r fun v H1 H' ρ1 x s r' pv q => by
    obtain ⟨tb, xs, rfl, q1, q2⟩ := q
    cases pv with
    | tup hs hx =>
      refine ⟨_, .inr (.inl ⟨_, (hs.mono r'.ex).sq, rfl⟩), ?_⟩
      cases xs with
      | nil =>
        cases hx
        rw [show (!([] : List V).isEmpty) = false from rfl, if_neg Bool.false_ne_true]
        exact q2 rfl F σ H1 H' Q r' fun v2 H2 H3 ρ2 x2 s2 => k v2 H2 H3 ρ2 x2 (s.trans s2)
      | cons y ys =>
        cases hx with
        | cons h1 h2 =>
          rw [show (!(List.cons _ _ : List V).isEmpty) = true from rfl, if_pos rfl]
          exact k _ _ _ _ _ s r' (.tup hs (.cons h1 h2)) (q1 (by simp)))
theorem wd_one {op : BoolOp} (h : WD X ρ a Qd) : WD X ρ (.BoolOp op [a] pos) Qd := fun F σ H0 H Q r k => WE.of (pe_one pe_we) (h F σ H0 H Q r k)
/-- isinstance(x, (tuple, list)) -/
theorem ee_isiTL {t1 : Bool} {p p1 p2 tpos : Pos} {k : Nat} (hmi : X.mg "isinstance" = none) (hmt : X.mg "tuple" = none) (hml : X.mg "list" = none) (ha : EE X ρ a ρ1 x) (h1 : kitB (tyD x) "tuple" = some t1) (h2 : t1 = false → kitB (tyD x) "list" = some false) (hnd : noD x = true := by rfl) (hgi : Gl X "isinstance" := by rfl) (hgt : Gl X "tuple" := by rfl) (hgl : Gl X "list" := by rfl)
    (hs : starEach [a, .Tuple [.Name "tuple" p1, .Name "list" p2] k tpos] X.env = (false, eval a X.env) :: starEach [.Tuple [.Name "tuple" p1, .Name "list" p2] k tpos] X.env := by rfl) (hs2 : starEach [.Tuple [.Name "tuple" p1, .Name "list" p2] k tpos] X.env = (false, eval (.Tuple [.Name "tuple" p1, .Name "list" p2] k tpos) X.env) :: starEach [] X.env := by rfl)
    (hs3 : starEach [.Name "tuple" p1, .Name "list" p2] X.env = (false, eval (.Name "tuple" p1) X.env) :: starEach [.Name "list" p2] X.env := by rfl) (hs4 : starEach [.Name "list" p2] X.env = (false, eval (.Name "list" p2) X.env) :: starEach [] X.env := by rfl)
    (hpl : (backTo pos (starEach [.Tuple [.Name "tuple" p1, .Name "list" p2] k tpos] X.env)).any (·.1) = false := by rfl) :
    EE X ρ (.Call (.Name "isinstance" p) [a, .Tuple [.Name "tuple" p1, .Name "list" p2] k tpos] [] pos) ρ1 (.bool t1) := fun F σ H0 H Q r kk =>
  WE.of (pe_callB call_isiT hgi hmi PyProof.Rows.boot_isinstance (pa_cons pe_we (pa_cons (pe_tup (pa_cons (pe_bltn (v := .ty "tuple") hgt hmt boot_tuple rfl (by decide) (by decide)) (pa_cons (pe_bltn (v := .ty "list") hgl hml boot_list rfl (by decide) (by decide)) pa_nil hs4) hs3)) pa_nil hs2) hs) (by decide) (by decide) hs hpl) (ha F σ H0 H _ r fun v H0' H' s r' pv => by
    refine ⟨by show 2 ≤ sizeLine; decide, fun q hq => ?_⟩
    have rq : Rel F ρ1 σ H0' (upd H' q (.tup [.ty "tuple", .ty "list"])) := r'.new1 hq
    refine ⟨v, q, _, .type (tyD x), [.type "tuple", .type "list"], t1, rfl, upd_same, .cons (.ty _) (.cons (.ty _) .nil), tyX_of (pv.mono rq.ex) hnd, ?_, kk _ _ _ s rq (.bl t1)⟩
    refine kitAny_cons (b := t1) (kit_ty h1) (fun e => ?_) id
    subst e
    exact kitAny_cons (b := false) (kit_ty (h2 rfl)) (fun _ => rfl) (fun e => e))
/-! statements by ways -/
variable {nx bk ct : List Sl → Prop} {rt : List Sl → D → Prop}
theorem sj_ownW (i : Nat) {n : Str} {p' : Pos} (he : WO X ρ e fun ρ1 xs => nx (ρ1.set i (.own xs))) (hi : X.N[i]? = some n := by rfl) (hN : X.N.Nodup := by assumption) (hx : Loc X.env.scope n := by first | exact Or.inl rfl | exact Or.inr rfl)
    (hs : swapsWith e (some (.Name n p')) pos.line X.env = pure false := by rfl) (hf : X.fn n = true ∨ X.env.scope.names.lookup n = some .local := by first | exact .inl rfl | exact .inr rfl) : SJ X ρ (.Assign [.Name n p'] e pos) nx rt bk ct := fun F σ H0 H D r k1 k2 k3 k4 =>
  WS.of (ps_set hN hi hx pe_we hs hf) (he F σ H0 H _ r fun p vs H0' H' ρ' xs s he hd r' ra q => k1 _ _ _ _ s (r'.setOwn he hd ra) q)
theorem sj_parW (i j : Nat) {n1 n2 : Str} {px py pt pt2 : Pos} {kt k2 : Nat} (h : WD X ρ a fun ρ1 x => WD X ρ1 b fun ρ2 y => nx ((ρ2.set i (.d x)).set j (.d y))) (hi : X.N[i]? = some n1 := by rfl) (hj : X.N[j]? = some n2 := by rfl) (hij : i ≠ j := by decide) (hN : X.N.Nodup := by assumption) (hc : X.calm = true := by rfl)
    (hx : X.env.scope.names.lookup n1 = some .local := by rfl) (hy : X.env.scope.names.lookup n2 = some .local := by rfl) (hs1 : starEach [a, b] X.env = (false, eval a X.env) :: starEach [b] X.env := by rfl) (hs2 : starEach [b] X.env = (false, eval b X.env) :: starEach [] X.env := by rfl)
    (hw : swappedStores [.Tuple [.Name n1 px, .Name n2 py] kt pt] (.Tuple [a, b] k2 pt2) X.env = pure (some [n1, n2]) := by rfl)
    (hs : swapsWithSole [.Tuple [.Name n1 px, .Name n2 py] kt pt] (.Tuple [a, b] k2 pt2) pos.line X.env = pure false := by rfl) :
    SJ X ρ (.Assign [.Tuple [.Name n1 px, .Name n2 py] kt pt] (.Tuple [a, b] k2 pt2) pos) nx rt bk ct := fun F σ H0 H D r k1 k2 k3 k4 =>
  WS.of (ps_par hc hN hi hj hij hx hy (pa_cons pe_we (pa_cons pe_we pa_nil hs2) hs1) hw hs) (twoW h r fun v w H1 H' ρ2 x y s r' p1 p2 q => ⟨v, w, rfl, k1 _ _ _ _ s ((r'.setD p1).setD p2) q⟩)
/-- a, b = e by ways, e a tuple -/
theorem sj_unpackW {tg : Expr} (he : WD X ρ e fun ρ1 x => ∃ vs ρ2, GJ X ρ1 tg x vs ρ2 ∧ nx ρ2) (hs : swapsWithSole [tg] e pos.line X.env = pure false := by rfl) (hw : swappedStores [tg] e X.env = pure none := by rfl) (h1 : (assignEach [tg] X.env).map (·.2) = [assign tg X.env] := by rfl) : SJ X ρ (.Assign [tg] e pos) nx rt bk ct := fun F σ H0 H D r k1 k2 k3 k4 =>
  WS.of (ps_asg pe_we pg_wg hs hw h1) (he F σ H0 H _ r fun v H1 H' ρ1 x s r' pv q => by
    obtain ⟨vs, ρ2, hg, q⟩ := q
    exact hg F σ H1 H' v _ r' pv fun σ' r2 _ => k1 _ _ _ _ s r2 q)
/-- while c: body -/
theorem sj_while {body : List Stmt} (I : Nat → List Sl → Prop) (h0 : ∃ m, I m ρ) (hs : ∀ m ρ, I m ρ → WTD X ρ c fun ρ1 t => if t = true then SB X ρ1 body (fun ρ2 => ∃ m', m' < m ∧ I m' ρ2) rt nx (fun ρ2 => ∃ m', m' < m ∧ I m' ρ2) else nx ρ1)
    (hp : PassesOwn (model X.prog X.w) X.A X.env X.xe := by exact PassesOwn.never) : SJ X ρ (.While c body [] pos) nx rt bk ct := fun F σ H0 H D r k1 k2 k3 k4 => by
  obtain ⟨m0, h0⟩ := h0
  refine WS.of (ps_while hp pt_wt pss_wss) ⟨fun m σ' H' => ∃ H0' ρ', Same H0 H0' ∧ Rel F ρ' σ' H0' H' ∧ I m ρ', ⟨m0, H0, ρ, Same.refl _, r, h0⟩, ?_⟩
  rintro m σ' H' ⟨H0', ρ', s, r', hI⟩
  refine hs m ρ' hI F σ' H0' H' _ r' fun t H1 H1' ρ1 s1 r1 q => ?_
  cases t with
  | false =>
    rw [if_neg Bool.false_ne_true] at q ⊢
    exact k1 _ _ _ _ (s.trans s1) r1 q
  | true =>
    rw [if_pos rfl] at q ⊢
    refine ⟨fun σ2 H2 => ∃ m', m' < m ∧ ∃ H0' ρ', Same H0 H0' ∧ Rel F ρ' σ2 H0' H2 ∧ I m' ρ', fun σ2 H2 h => h, ?_⟩
    exact q F σ' H1 H1' _ r1 (fun ρ2 σ2 H02 H2 s2 r2 ⟨m', hm, hI'⟩ => ⟨m', hm, H02, ρ2, (s.trans s1).trans s2, r2, hI'⟩) (fun v x ρ2 σ2 H02 H2 s2 r2 p q => k2 v x ρ2 σ2 H02 H2 ((s.trans s1).trans s2) r2 p q)
      (fun ρ2 σ2 H02 H2 s2 r2 q => k1 ρ2 σ2 H02 H2 ((s.trans s1).trans s2) r2 q) (fun ρ2 σ2 H02 H2 s2 r2 ⟨m', hm, hI'⟩ => ⟨m', hm, H02, ρ2, (s.trans s1).trans s2, r2, hI'⟩)
/-- own.pop(e) by ways -/
theorem seqIndex_nat {n j : Nat} (h : j < n) : seqIndex? (j : Int) n = some j := by
  have h0 : ¬ (j : Int) < 0 := by omega
  have h1 : (j : Int) < n := by omega
  unfold seqIndex?
  simp only [h0, if_false]
  rw [if_pos (by simp [h])]
  rfl
theorem wd_popAt (i : Nat) {n : Str} {p1 p2 p3 : Pos} (he : WD X ρ e fun ρ1 y => ∃ (j : Nat) (xs : List D) (x : D), y = .int (j : Nat) ∧ ρ1[i]? = some (.own xs) ∧ xs[j]? = some x ∧ j < 2 ^ 62 ∧ Qd (ρ1.set i (.own (xs.eraseIdx j))) x) (hr : ∃ xs, ρ[i]? = some (.own xs)) (hN : X.N[i]? = some n := by rfl)
    (hv : Vis X.env.scope n := by first | exact Or.inl rfl | exact Or.inr (Or.inl rfl) | exact Or.inr (Or.inr rfl)) (hd : (n == ("__debug__" : Str)) = false := by decide) (hcd : (n == ("__classdict__" : Str)) = false := by decide)
    (hbase : attributeBase (.Name n p1) "pop" X.env (eval (.Name n p1) X.env) = eval (.Name n p1) X.env := by rfl)
    (hfew : ((backTo p3 (starEach (e :: []) X.env)).all (fun x => !x.1) && (backToKw p3 (keywordEach [] X.env)).all (fun x => x.1.isSome)
      && decide ((e :: ([] : List Expr)).length + ([] : List Keyword).length + (if ([] : List Keyword).isEmpty then 0 else 1) < 30)) = true := by rfl)
    (hline : (p2.endLine == p3.line) = true := by rfl) (hst : starEach (e :: []) X.env = (false, eval e X.env) :: starEach [] X.env := by rfl) (hplain : (backTo p3 (starEach [] X.env)).any (·.1) = false := by rfl) :
    WD X ρ (.Call (.Attribute (.Name n p1) "pop" p2) [e] [] p3) Qd := fun F σ H0 H Q r k => by
  obtain ⟨xs0, hr⟩ := hr
  obtain ⟨p, vs, e1, e2, e3, e4, e5, e6⟩ := r.sl i _ hr
  refine WE.of (pe_bm PySem.F.plainAttrs_list PySem.F.slot_list_pop PySem.F.type_list_pop mt_popAt (pe_var hN hv hd hcd) (pa_cons pe_we pa_nil hst) hbase hfew hline hst hplain) ?_
  refine ⟨.ref p, e1, .inl ⟨rfl, _, SqL.of e5⟩, he F σ H0 H _ r fun v H0' H' ρ1 y s r' py q => ?_⟩
  obtain ⟨j, xs, x, rfl, hx, hj, h62, q⟩ := q
  cases py
  obtain ⟨p', vs', f1, f2, f3, f4, f5, f6⟩ := r'.sl i _ hx
  rw [e1] at f1; cases f1
  obtain ⟨u, hu, ru⟩ := f6.get hj
  have hjl := (List.getElem?_eq_some_iff.mp hu).1
  refine ⟨p, vs', _, j, u, rfl, rfl, f5, by omega, by omega, seqIndex_nat hjl, hu, ?_⟩
  exact k u _ _ _ x s (r'.mutate (s := .own (xs.eraseIdx j)) hx rfl e1 rfl f2 f3 f4 ⟨p, _, rfl, f2, f3, f4, upd_same, f6.eraseIdx j⟩) ru q
/-- own.pop() -/
theorem RpA.dropLast {H : Hp} : ∀ {ds : List D} {vs : List V}, RpA H vs ds → RpA H vs.dropLast ds.dropLast
  | _, _, .nil => .nil
  | _, _, .cons h .nil => .nil
  | _, _, .cons h (.cons h2 t) => .cons h (RpA.dropLast (.cons h2 t))
theorem ee_pop (i : Nat) {n : Str} {p1 p2 p3 : Pos} {xs : List D} (hx : xs[xs.length - 1]? = some x) (hr : ρ[i]? = some (.own xs) := by rfl) (hN : X.N[i]? = some n := by rfl)
    (hv : Vis X.env.scope n := by first | exact Or.inl rfl | exact Or.inr (Or.inl rfl) | exact Or.inr (Or.inr rfl)) (hd : (n == ("__debug__" : Str)) = false := by decide) (hcd : (n == ("__classdict__" : Str)) = false := by decide)
    (hbase : attributeBase (.Name n p1) "pop" X.env (eval (.Name n p1) X.env) = eval (.Name n p1) X.env := by rfl) (hline : (p2.endLine == p3.line) = true := by rfl) :
    EE X ρ (.Call (.Attribute (.Name n p1) "pop" p2) [] [] p3) (ρ.set i (.own xs.dropLast)) x := fun F σ H0 H Q r k => by
  obtain ⟨p, vs, e1, e2, e3, e4, e5, e6⟩ := r.sl i _ hr
  obtain ⟨u, hu, ru⟩ := e6.get hx
  rw [← e6.len] at hu
  refine WE.of (pe_bm0 PySem.F.plainAttrs_list PySem.F.slot_list_pop PySem.F.type_list_pop mt_pop (pe_var hN hv hd hcd) hbase hline) ?_
  exact ⟨.ref p, e1, .inl ⟨rfl, _, SqL.of e5⟩, p, vs, u, rfl, rfl, e5, hu, k u _ _ (Same.refl _) (r.mutate (s := .own xs.dropLast) hr rfl e1 rfl e2 e3 e4 ⟨p, _, rfl, e2, e3, e4, upd_same, e6.dropLast⟩) ru⟩
/-- for by ways -/
theorem sj_forW {body : List Stmt} (hi : EID X ρ tg iter fun ρ1 ys => ∃ I : Nat → List Sl → Prop, I 0 ρ1 ∧ (∀ i y ρ, ys[i]? = some y → I i ρ → ∃ vs ρ2, GJ X ρ tg y vs ρ2 ∧ SB X ρ2 body (I (i + 1)) rt nx (I (i + 1))) ∧ ∀ ρ, I ys.length ρ → nx ρ)
    (hp : PassesOwn (model X.prog X.w) X.A X.env X.xe := by exact PassesOwn.never) (hc : X.calm = true := by rfl) (hf : ∀ x, foldedSetIterable iter X.env x = pure x := by intro _; rfl) : SJ X ρ (.For tg iter body [] pos) nx rt bk ct := fun F σ H0 H D r k1 k2 k3 k4 => by
  refine WS.of (ps_for hp hc pi_wi pg_wg pss_wss hf) (hi F σ H0 H _ r fun J H01 H1 ρ1 ys s1 r1 it q => ?_)
  obtain ⟨I, h0, hs, hd⟩ := q
  refine ⟨fun i m σ H => m = ys.length - i ∧ i ≤ ys.length ∧ ∃ H0' ρ', Same H01 H0' ∧ Rel F ρ' σ H0' H ∧ I i ρ', ⟨_, rfl, Nat.zero_le _, H01, ρ1, Same.refl _, r1, h0⟩, ?_⟩
  rintro i m σc Hc ⟨rfl, hle, H0c, ρc, sc, rc, hI⟩
  have it' := it.mono sc
  by_cases hlt : i < ys.length
  · have hy : ys[i]? = some ys[i] := List.getElem?_eq_getElem hlt
    obtain ⟨vs, ρ2, hg, hb⟩ := hs i _ _ hy hI
    refine .inr ⟨it'.go i Hc hlt rc.ex, fun σ' H' => ∃ H0' ρ', Same H01 H0' ∧ Rel F ρ' σ' H0' H' ∧ I (i + 1) ρ', fun σ' H' q => ⟨ys.length - (i + 1), by omega, rfl, hlt, q⟩, fun v H' yv => ?_⟩
    obtain ⟨H0d, sd, rd, pd⟩ := it'.turn rc yv hy
    refine hg F σc H0d H' v _ rd pd fun σ' rg _ => ?_
    refine hb F σ' H0d H' _ rg (fun ρ2 σ2 H02 H2 s2 r2 q => ⟨H02, ρ2, (sc.trans sd).trans s2, r2, q⟩) (fun v x ρ2 σ2 H02 H2 s2 r2 p q => k2 v x ρ2 σ2 H02 H2 (((s1.trans sc).trans sd).trans s2) r2 p q)
      (fun ρ2 σ2 H02 H2 s2 r2 q => k1 ρ2 σ2 H02 H2 (((s1.trans sc).trans sd).trans s2) r2 q) (fun ρ2 σ2 H02 H2 s2 r2 q => ⟨H02, ρ2, (sc.trans sd).trans s2, r2, q⟩)
  · have e : i = ys.length := by omega
    subst e
    exact .inl ⟨it'.stop Hc rc.ex, k1 ρc σc H0c Hc (s1.trans sc) rc (hd _ hI)⟩
theorem eid_range1 {p : Pos} (hm : X.mg "range" = none) (h : WD X ρ a fun ρ1 y => ∃ j : Int, y = .int j ∧ (-(2 ^ 62) ≤ j ∧ j < 2 ^ 62) ∧ Qa ρ1 (rangeD 0 j.toNat)) (hg : Gl X "range" := by rfl) (hs : starEach [a] X.env = [(false, eval a X.env)] := by rfl) : EID X ρ tg (.Call (.Name "range" p) [a] [] pos) Qa := fun F σ H0 H R r k =>
  WI.of (pi_range1 hg hm (pa_cons pe_we pa_nil (by rw [hs]; rfl)) hs) (h F σ H0 H _ r fun v H1 H' ρ1 y s r' pv q => by
    obtain ⟨j, rfl, hj, q⟩ := q
    cases pv
    exact ⟨j, rfl, hj.1, hj.2, k _ _ _ _ _ s r' (isIt_range 0 _) q⟩)
end
end DL
set_option Elab.async false
set_option linter.all false
set_option maxRecDepth 100000
set_option maxHeartbeats 4000000
/-! DL17: comprehensions by ways; the deck -/
namespace DL
open PySem PySem.Spec PyProof.Rows L2
section
variable {X : Cx} {ρ ρ1 ρ2 ρ3 : List Sl} {e a b c tg iter elt : Expr} {es rest : List Expr} {x y z : D} {pos : Pos} {k : Nat} {Qd : List Sl → D → Prop} {Qb : List Sl → Bool → Prop} {Qa : List Sl → List D → Prop} {ys : List D}
theorem wd_lcW {scope : Scope} {ifs : List Expr} {own : List (Str × Nat)} (hi : EI X ρ tg iter ρ1 ys) (ok : blkC X.N X.env.scope scope own = true) (I : Nat → List Sl → List D → Prop) (h0 : I 0 (wipeS ρ1 (own.map (·.2))) []) (hlen : ys.length ≤ 100000)
    (ht : ∀ i y ρ acc, ys[i]? = some y → I i ρ acc → ∃ ρ2, ∀ s H C cl fp, GJ (bx X scope s H C cl fp) ρ tg y (own.map (·.2)) ρ2 ∧ WTsD (bx X scope s H C cl fp) ρ2 ifs fun ρ3 b =>
      if b = true then ∀ s H C cl fp, WD (bx X scope s H C cl fp) ρ3 elt fun ρ4 z => I (i + 1) (wipeS ρ4 (own.map (·.2))) (acc ++ [z]) else I (i + 1) (wipeS ρ3 (own.map (·.2))) acc)
    (hd : ∀ ρ acc, I ys.length ρ acc → Qd ρ (.list acc)) (hN : X.N.Nodup := by assumption) (hc : X.calm = true := by rfl) (hs : ∀ x, foldedSetIterable iter X.env x = pure x := by intro _; rfl) : WD X ρ (.ListComp elt [⟨tg, iter, ifs, 0⟩] scope pos) Qd := fun F σ H0 H Q r k => by
  refine WE.of (pe_lc hc hN pi_wi (blkOk_by ok) pg_B pts_B pe_B hs) ?_
  generalize ew : own.map (·.2) = ws at h0 ht ⊢
  refine hi F σ H0 H _ r fun J H01 H1 s1 r1 it => ?_
  intro Dn hDn
  have he := r1.he_none hDn
  have hdk := r1.dk_none hDn
  have rp := r1.newPin (o := .lst []) hDn
  refine ⟨fun i m H => m = ys.length - i ∧ i ≤ ys.length ∧ ∃ H0' ρ0 vs acc, Same H01 H0' ∧ I i (wipeS ρ0 ws) acc ∧ acc.length ≤ i ∧ Rel (F.pin Dn (.lst vs)) (wipeS ρ0 ws) (L2.wipe σ ws) H0' H ∧ RpA H0' vs acc,
    ⟨ys.length, by omega, Nat.zero_le _, H01, ρ1, [], [], Same.refl _, h0, Nat.le_refl _, rp.wipe ws, .nil⟩, ?_⟩
  rintro i m Hc ⟨rfl, hle, H0c, ρ0, vc, acc, sc, hI, hacc, rc, ra⟩
  have it' := it.mono sc
  by_cases hlt : i < ys.length
  · have hy : ys[i]? = some ys[i] := List.getElem?_eq_getElem hlt
    obtain ⟨ρ2, hb⟩ := ht i _ _ _ hy hI
    refine .inr ⟨it'.go i Hc hlt rc.ex, fun H' => i + 1 ≤ ys.length ∧ ∃ H0' ρ0 vs acc, Same H01 H0' ∧ I (i + 1) (wipeS ρ0 ws) acc ∧ acc.length ≤ i + 1 ∧ Rel (F.pin Dn (.lst vs)) (wipeS ρ0 ws) (L2.wipe σ ws) H0' H' ∧ RpA H0' vs acc,
      fun H' ⟨q1, q2⟩ => ⟨ys.length - (i + 1), by omega, rfl, q1, q2⟩, fun v H' yv => ?_⟩
    obtain ⟨H0d, sd, rd, pd⟩ := it'.turn rc yv hy
    intro s2 H2 C2 cl2 fp2
    refine (hb s2 H2 C2 cl2 fp2).1 _ _ H0d H' v _ rd pd fun σ' rg wg => ⟨wg.trans (wipe_wipe σ ws), ?_⟩
    intro s3 H3 C3 cl3 fp3
    refine (hb s3 H3 C3 cl3 fp3).2 _ σ' H0d H' _ rg fun b H0e He ρ3 se re hq => ?_
    cases b with
    | true =>
      rw [if_pos rfl] at hq ⊢
      intro s4 H4 C4 cl4 fp4
      refine hq s4 H4 C4 cl4 fp4 _ σ' H0e He _ re fun w H0f Hf ρ4 z sf rf pf hz => ?_
      obtain ⟨_, hD, _, _⟩ := rf.unpinned he hdk
      have ra' := ra.mono ((sd.trans se).trans sf)
      refine ⟨vc, hD, Nat.lt_of_le_of_lt (by rw [ra.len]; omega) (show 100001 < sizeLine by decide), by omega, H0f, ρ4, vc ++ [w], acc ++ [z], ((sc.trans sd).trans se).trans sf, hz, by rw [List.length_append]; show acc.length + 1 ≤ i + 1; omega, ?_, ra'.append (.one pf)⟩
      have q := (rf.repin (o' := .lst (vc ++ [w])) he hdk).wipe ws
      rw [wg, wipe_wipe] at q
      exact q
    | false =>
      rw [if_neg Bool.false_ne_true] at hq ⊢
      refine ⟨by omega, H0e, ρ3, vc, acc, (sc.trans sd).trans se, hq, by omega, ?_, ra.mono (sd.trans se)⟩
      have q := re.wipe ws
      rw [wg, wipe_wipe] at q
      exact q
  · have e : i = ys.length := by omega
    subst e
    have ro := rc.toOuter
    obtain ⟨r2, s2⟩ := ro.unpinD he hdk
    exact .inl ⟨it'.stop Hc rc.ex, k _ _ _ _ _ ((s1.trans sc).trans s2) r2 (.lst upd_same (ra.mono s2)) (hd _ _ hI)⟩
/-! the deck, its contents known -/
def dkX (bg cl : List Int) (j : Nat) : Dkp := fun b c i => b = bg ∧ c = cl ∧ i = j
theorem dk_rel {F : Fm} {σ : L2.St} {H0 H : Hp} (r : Rel F ρ σ H0 H) {i : Nat} {bg cl : List Int} {j : Nat} (hr : ρ[i]? = some (.dk (dkX bg cl j))) : ∃ a p q, F.dk = [a, p, q] ∧ σ[i]? = some (some (.ref a)) ∧ H a = some (.lst [.ref p, .ref q, .int (j : Nat)]) ∧ H p = some (.lst (bg.map V.int)) ∧ H q = some (.lst (cl.map V.int)) := by
  obtain ⟨a, p, q, e1, e2, _, _, _, _, _, _, b, c, j', h1, h2, h3, rfl, rfl, rfl⟩ := r.sl i _ hr
  exact ⟨a, p, q, e1, e2, h1, h2, h3⟩
variable {nx bk ct : List Sl → Prop} {rt : List Sl → D → Prop}
theorem sb_open {sts : List Stmt} (i : Nat) {P : Dkp} (hi : ρ[i]? = some (.dk P)) (h : ∀ bg cl j, P bg cl j → SB X (ρ.set i (.dk (dkX bg cl j))) sts nx rt bk ct) : SB X ρ sts nx rt bk ct := fun F σ H0 H D r k1 k2 k3 k4 => by
  obtain ⟨a, p, q, e1, e2, e3, e4, e5, e6, e7, e8, b, c, j, h1, h2, h3, h4⟩ := r.sl i _ hi
  refine h b c j h4 F σ H0 H D (r.dkWeak hi fun b' c' j' g _ => ?_) k1 k2 k3 k4
  obtain ⟨a', p', q', f1, g1, g2, g3⟩ := g
  rw [e1] at f1
  obtain ⟨rfl, rfl, rfl⟩ : a = a' ∧ p = p' ∧ q = q' := by simpa using f1
  rw [h1] at g1; rw [h2] at g2; rw [h3] at g3
  have i1 := Option.some.inj g1
  have i2 := Option.some.inj g2
  have i3 := Option.some.inj g3
  refine ⟨?_, ?_, ?_⟩
  · have := HO.lst.inj i2
    exact ((List.map_inj_right (fun x y h => V.int.inj h)).mp this).symm
  · have := HO.lst.inj i3
    exact ((List.map_inj_right (fun x y h => V.int.inj h)).mp this).symm
  · have := HO.lst.inj i1
    have e : (j : Int) = (j' : Int) := by simpa using this
    omega
/-- a change of the deck -/
theorem Rel.dkSet {F : Fm} {σ : L2.St} {H0 H : Hp} (r : Rel F ρ σ H0 H) {i : Nat} {P P' : Dkp} (hi : ρ[i]? = some (.dk P)) {p0 : Addr} {o : HO} (hp : p0 ∈ F.dk) (hn : ∀ a p q, F.dk = [a, p, q] → DeckOk H a p q P → DeckOk (upd H p0 o) a p q P') : Rel F (ρ.set i (.dk P')) σ H0 (upd H p0 o) := by
  obtain ⟨a, p, q, e1, e2, e3, e4, e5, e6, e7, e8, e9⟩ := r.sl i _ hi
  have h0 : H0 p0 = none := by
    rw [e1] at hp
    rcases List.mem_cons.mp hp with rfl | hp
    · exact e3
    · rcases List.mem_cons.mp hp with rfl | hp
      · exact e4
      · rw [List.mem_singleton.mp hp]; exact e5
  refine ⟨fun b u z => ?_, fun b u z n => ?_, fun b z y => ?_, fun b z y => ?_, r.ba, by simpa using r.len, fun jj s' hs => ?_, fun i1 i2 s1 s2 p' g1 g2 o1 o2 f1 f2 => ?_, r.nd.set_dk hi⟩
  · rw [upd_ne (ne_of_none z h0)]; exact r.ex _ _ z
  · rw [upd_ne (fun y => n (by rw [y]; exact hp))]; exact r.fr _ _ z n
  · by_cases e : b = p0
    · subst e; rw [upd_same] at y; cases y
    · rw [upd_ne e] at y; exact r.al b z y
  · by_cases e : b = p0
    · subst e; rw [upd_same] at y; cases y
    · rw [upd_ne e] at y; exact r.ad b z y
  · rcases get_set hs with ⟨rfl, rfl⟩ | ⟨z1, z2⟩
    · exact ⟨a, p, q, e1, e2, e3, e4, e5, e6, e7, e8, hn a p q e1 e9⟩
    · have h := r.sl jj s' z2
      cases s' with
      | any => exact h
      | d x => exact h
      | own xs =>
        obtain ⟨p1, vs, q1, q2, q3, q4, q5, q6⟩ := h
        exact ⟨p1, vs, q1, q2, q3, q4, by rw [upd_ne (fun y => q4 (by rw [y]; exact hp))]; exact q5, q6⟩
      | ownD ks =>
        obtain ⟨p1, q1, q2, q3, q4, xs, q5, q6⟩ := h
        exact ⟨p1, q1, q2, q3, q4, xs, by rw [upd_ne (fun y => q4 (by rw [y]; exact hp))]; exact q5, q6⟩
      | dk N2 => exact absurd (r.nd jj i N2 _ z2 hi) z1
  · rcases get_set g1 with ⟨z1, z2⟩ | ⟨z1, z2⟩
    · subst z2; cases o1
    · rcases get_set g2 with ⟨z3, z4⟩ | ⟨z3, z4⟩
      · subst z4; cases o2
      · exact r.ne i1 i2 s1 s2 p' z2 z4 o1 o2 f1 f2
abbrev ixC (n : Str) (p1 p2 p3 : Pos) (k : Nat) (i : Int) : Expr := .Subscript (.Name n p1) (.Constant (.int i) k p2) p3
variable {bg cl : List Int} {j : Nat} {n : Str} {p1 p2 p3 p4 p5 : Pos} {k1 k2 : Nat}
theorem plain0 {i : Int} {k : Nat} {p : Pos} : PlainIx (.Constant (.int i) k p) := fun _ _ => rfl
/-- deck[0], deck[1], deck[2] -/
theorem we_dk0 {F : Fm} {σ : L2.St} {H0 H : Hp} {Q : VK} (i : Nat) (r : Rel F ρ σ H0 H) (hr : ρ[i]? = some (.dk (dkX bg cl j))) (hN : X.N[i]? = some n) (hv : Vis X.env.scope n) (hd : (n == ("__debug__" : Str)) = false) (hcd : (n == ("__classdict__" : Str)) = false)
    (q : ∀ a p q, F.dk = [a, p, q] → H a = some (.lst [.ref p, .ref q, .int (j : Nat)]) → H p = some (.lst (bg.map V.int)) → H q = some (.lst (cl.map V.int)) → Q (.ref p) H) : WE X (ixC n p1 p2 p3 k1 0) σ H Q := by
  obtain ⟨a, p, qq, e1, e2, e3, e4, e5⟩ := dk_rel r hr
  exact WE.of (pe_ix ix_list (pe_var hN hv hd hcd) pe_int plain0) ⟨_, e2, _, _, 0, .ref p, rfl, rfl, SqL.of e3, rfl, q a p qq e1 e3 e4 e5⟩
theorem we_dk1 {F : Fm} {σ : L2.St} {H0 H : Hp} {Q : VK} (i : Nat) (r : Rel F ρ σ H0 H) (hr : ρ[i]? = some (.dk (dkX bg cl j))) (hN : X.N[i]? = some n) (hv : Vis X.env.scope n) (hd : (n == ("__debug__" : Str)) = false) (hcd : (n == ("__classdict__" : Str)) = false)
    (q : ∀ a p q, F.dk = [a, p, q] → H a = some (.lst [.ref p, .ref q, .int (j : Nat)]) → H p = some (.lst (bg.map V.int)) → H q = some (.lst (cl.map V.int)) → Q (.ref q) H) : WE X (ixC n p1 p2 p3 k1 1) σ H Q := by
  obtain ⟨a, p, qq, e1, e2, e3, e4, e5⟩ := dk_rel r hr
  exact WE.of (pe_ix ix_list (pe_var hN hv hd hcd) pe_int plain0) ⟨_, e2, _, _, 1, .ref qq, rfl, rfl, SqL.of e3, rfl, q a p qq e1 e3 e4 e5⟩
section
variable (i : Nat) (hr : ρ[i]? = some (.dk (dkX bg cl j)) := by rfl) (hN : X.N[i]? = some n := by rfl) (hv : Vis X.env.scope n := by first | exact Or.inl rfl | exact Or.inr (Or.inl rfl) | exact Or.inr (Or.inr rfl)) (hd : (n == ("__debug__" : Str)) = false := by decide) (hcd : (n == ("__classdict__" : Str)) = false := by decide)
theorem ee_dk2 (i : Nat) (hr : ρ[i]? = some (.dk (dkX bg cl j)) := by rfl) (hN : X.N[i]? = some n := by rfl) (hv : Vis X.env.scope n := by first | exact Or.inl rfl | exact Or.inr (Or.inl rfl) | exact Or.inr (Or.inr rfl)) (hd : (n == ("__debug__" : Str)) = false := by decide) (hcd : (n == ("__classdict__" : Str)) = false := by decide) :
    EE X ρ (ixC n p1 p2 p3 k1 2) ρ (.int (j : Nat)) := fun F σ H0 H Q r k => by
  obtain ⟨a, p, qq, e1, e2, e3, e4, e5⟩ := dk_rel r hr
  exact WE.of (pe_ix ix_list (pe_var hN hv hd hcd) pe_int plain0) ⟨_, e2, _, _, 2, .int (j : Nat), rfl, rfl, SqL.of e3, rfl, k _ _ _ (Same.refl _) r (.int _)⟩
theorem ee_dk00 (i : Nat) {g : Int} (hg : bg.head? = some g) (hr : ρ[i]? = some (.dk (dkX bg cl j)) := by rfl) (hN : X.N[i]? = some n := by rfl) (hv : Vis X.env.scope n := by first | exact Or.inl rfl | exact Or.inr (Or.inl rfl) | exact Or.inr (Or.inr rfl)) (hd : (n == ("__debug__" : Str)) = false := by decide) (hcd : (n == ("__classdict__" : Str)) = false := by decide) :
    EE X ρ (.Subscript (ixC n p1 p2 p3 k1 0) (.Constant (.int 0) k2 p4) p5) ρ (.int g) := fun F σ H0 H Q r k =>
  WE.of (pe_ix ix_list pe_we pe_int plain0) (we_dk0 i r hr hN hv hd hcd fun a p q e1 h1 h2 h3 => by
    cases bg with
    | nil => cases hg
    | cons b bs =>
      cases hg
      exact ⟨_, _, 0, .int g, rfl, rfl, SqL.of h2, by unfold atI ixN; simp, k _ _ _ (Same.refl _) r (.int _)⟩)
theorem ee_dk1at (i : Nat) {t : Nat} {g : Int} (hb : EE X ρ b ρ (.int (t : Nat))) (hg : cl[t]? = some g) (hs : PlainIx b := by exact fun _ _ => rfl) (hr : ρ[i]? = some (.dk (dkX bg cl j)) := by rfl) (hN : X.N[i]? = some n := by rfl) (hv : Vis X.env.scope n := by first | exact Or.inl rfl | exact Or.inr (Or.inl rfl) | exact Or.inr (Or.inr rfl)) (hd : (n == ("__debug__" : Str)) = false := by decide) (hcd : (n == ("__classdict__" : Str)) = false := by decide) :
    EE X ρ (.Subscript (ixC n p1 p2 p3 k1 1) b p5) ρ (.int g) := fun F σ H0 H Q r k =>
  WE.of (pe_ix ix_list pe_we pe_we hs) (we_dk1 i r hr hN hv hd hcd fun a p q e1 h1 h2 h3 => hb F σ H0 H _ r fun w H1 H' s r' pw => by
    cases pw
    obtain ⟨a', p', q', f1, f2, f3, f4, f5⟩ := dk_rel r' hr
    rw [e1] at f1
    obtain ⟨rfl, rfl, rfl⟩ : a = a' ∧ p = p' ∧ q = q' := by simpa using f1
    have hlt := (List.getElem?_eq_some_iff.mp hg).1
    have ei : ixN (cl.map V.int).length (t : Int) = some t := by
      unfold ixN
      rw [if_pos (by omega), if_pos (by rw [List.length_map]; omega)]
      rfl
    refine ⟨_, _, t, .int g, rfl, rfl, SqL.of f5, ?_, k _ _ _ s r' (.int _)⟩
    unfold atI
    rw [ei]
    show (cl.map V.int)[t]? = _
    rw [List.getElem?_map, hg]
    rfl)
theorem ee_dkLen1 (i : Nat) {p p6 : Pos} (hm : X.mg "len" = none) (hr : ρ[i]? = some (.dk (dkX bg cl j)) := by rfl) (hN : X.N[i]? = some n := by rfl) (hv : Vis X.env.scope n := by first | exact Or.inl rfl | exact Or.inr (Or.inl rfl) | exact Or.inr (Or.inr rfl)) (hd : (n == ("__debug__" : Str)) = false := by decide) (hcd : (n == ("__classdict__" : Str)) = false := by decide)
    (hg : Gl X "len" := by rfl) (he : starEach [ixC n p1 p2 p3 k1 1] X.env = (false, eval (ixC n p1 p2 p3 k1 1) X.env) :: starEach [] X.env := by rfl) (hpl : (backTo p6 (starEach [] X.env)).any (·.1) = false := by rfl) :
    EE X ρ (.Call (.Name "len" p) [ixC n p1 p2 p3 k1 1] [] p6) ρ (.int (cl.length : Nat)) := fun F σ H0 H Q r k =>
  WE.of (pe_callB call_len_seq hg hm boot_len (pa_cons pe_we pa_nil he) (by decide) (by decide) he hpl) (we_dk1 i r hr hN hv hd hcd fun a p q e1 h1 h2 h3 => ⟨_, _, rfl, .inl (SqL.of h3), by rw [List.length_map]; exact k _ _ _ (Same.refl _) r (.int _)⟩)
theorem et_dk0ne (i : Nat) (hu : X.A.units + 64 < cLine) (hr : ρ[i]? = some (.dk (dkX bg cl j)) := by rfl) (hN : X.N[i]? = some n := by rfl) (hv : Vis X.env.scope n := by first | exact Or.inl rfl | exact Or.inr (Or.inl rfl) | exact Or.inr (Or.inr rfl)) (hd : (n == ("__debug__" : Str)) = false := by decide) (hcd : (n == ("__classdict__" : Str)) = false := by decide) :
    ET X ρ (.Compare (ixC n p1 p2 p3 k1 0) [.NotEq] [.List [] p4] p5) ρ (!bg.isEmpty) := fun F σ H0 H Q r k =>
  WT.of (pt_cmpR (op_neD hu) pe_we (pe_lst pa_nil) (nomark _)) (we_dk0 i r hr hN hv hd hcd fun a p q e1 h1 h2 h3 => by
    refine ⟨Nat.zero_le _, fun l hl => ?_⟩
    have rq : Rel F ρ σ H0 (upd H l (.lst [])) := r.new1 hl
    have hne : p ≠ l := fun z => by subst z; rw [hl] at h2; cases h2
    have hz : ∀ b : List Int, DpAll X.K (upd H l (.lst [])) (b.map V.int) (b.map PyData.int) := fun b => by
      induction b with
      | nil => exact .nil
      | cons x b ih => exact .cons (.int x) ih
    have hsh : ∀ b : List Int, PyData.canLayAll0 (b.map PyData.int) = true ∧ PyData.depthAll (b.map PyData.int) ≤ 1 := fun b => by
      induction b with
      | nil => exact ⟨rfl, by simp [PyData.depthAll]⟩
      | cons x b ih => exact ⟨by simp [PyData.canLayAll0, PyData.canLay0, ih.1], by simp [PyData.depthAll, PyData.depth]; exact ih.2⟩
    refine ⟨.list (bg.map PyData.int), .list [], .lst (SqL.of (by rw [upd_ne hne]; exact h2)) (hz bg), .lst (SqL.of upd_same) .nil, ?_, rfl, !bg.isEmpty, ?_, k _ _ (Same.refl _) rq⟩
    · show ((PyData.list (bg.map PyData.int)).canLay0 && decide ((PyData.list (bg.map PyData.int)).depth ≤ 64)) = true
      rw [Bool.and_eq_true]
      refine ⟨by simp only [PyData.canLay0]; exact (hsh bg).1, decide_eq_true ?_⟩
      simp only [PyData.depth]
      have := (hsh bg).2
      omega
    · cases bg with
      | nil => simp [PyData.eqv, PyData.eqvAll]
      | cons b bs => simp [PyData.eqv, PyData.eqvAll])
/-- deck[0][0] = e -/
theorem sj_dk00 (i : Nat) {b0 g : Int} {bs : List Int} (he : EE X ρ e ρ (.int g)) (q : nx (ρ.set i (.dk (dkX (g :: bs) cl j)))) (hr : ρ[i]? = some (.dk (dkX (b0 :: bs) cl j)) := by rfl) (hN : X.N[i]? = some n := by rfl) (hv : Vis X.env.scope n := by first | exact Or.inl rfl | exact Or.inr (Or.inl rfl) | exact Or.inr (Or.inr rfl)) (hd : (n == ("__debug__" : Str)) = false := by decide) (hcd : (n == ("__classdict__" : Str)) = false := by decide)
    (hs : swapsWithSole [.Subscript (ixC n p1 p2 p3 k1 0) (.Constant (.int 0) k2 p4) p5] e pos.line X.env = pure false := by rfl) (hw : swappedStores [.Subscript (ixC n p1 p2 p3 k1 0) (.Constant (.int 0) k2 p4) p5] e X.env = pure none := by rfl) (h1 : (assignEach [.Subscript (ixC n p1 p2 p3 k1 0) (.Constant (.int 0) k2 p4) p5] X.env).map (·.2) = [assign (.Subscript (ixC n p1 p2 p3 k1 0) (.Constant (.int 0) k2 p4) p5) X.env] := by rfl)
    (hsub : ∀ v, assign (.Subscript (ixC n p1 p2 p3 k1 0) (.Constant (.int 0) k2 p4) p5) X.env v = (do
      let ov ← holding [v] (eval (ixC n p1 p2 p3 k1 0) X.env)
      let iv ← holding [v, ov] (eval (.Constant (.int 0) k2 p4) X.env)
      standAt p5
      holding [v, ov, iv] (setItem ov iv v)
      release [v, ov, iv] []) := by intro _; rfl) : SJ X ρ (.Assign [.Subscript (ixC n p1 p2 p3 k1 0) (.Constant (.int 0) k2 p4) p5] e pos) nx rt bk ct := fun F σ H0 H D r q1 q2 q3 q4 =>
  WS.of (ps_asg pe_we (pg_sub pe_we pe_int set_list hsub) hs hw h1) (he F σ H0 H _ r fun v H1 H' s r' pv => by
    cases pv
    refine we_dk0 i r' hr hN hv hd hcd fun a p qq e1 f1 f2 f3 => ?_
    refine ⟨_, (b0 :: bs).map V.int, 0, 0, rfl, rfl, f2, by unfold ixN; simp, ?_⟩
    refine q1 _ σ _ _ s (r'.dkSet hr (by rw [e1]; simp) fun a' p' q' g1 g2 => ?_) q
    rw [e1] at g1
    obtain ⟨rfl, rfl, rfl⟩ : a = a' ∧ p = p' ∧ qq = q' := by simpa using g1
    obtain ⟨a2, p2', q2', z1, z2, z3, z4, z5, z6, z7, z8, _⟩ := r'.sl i _ hr
    rw [e1] at z1
    obtain ⟨rfl, rfl, rfl⟩ : a = a2 ∧ p = p2' ∧ qq = q2' := by simpa using z1
    exact ⟨g :: bs, cl, j, by rw [upd_ne z6]; exact f1, by rw [upd_same]; rfl, by rw [upd_ne (Ne.symm z8)]; exact f3, rfl, rfl, rfl⟩)
/-- deck[0].pop(0) -/
theorem sj_dk0pop (i : Nat) {b0 : Int} {bs : List Int} {p6 p7 : Pos} (q : nx (ρ.set i (.dk (dkX bs cl j)))) (hr : ρ[i]? = some (.dk (dkX (b0 :: bs) cl j)) := by rfl) (hN : X.N[i]? = some n := by rfl) (hv : Vis X.env.scope n := by first | exact Or.inl rfl | exact Or.inr (Or.inl rfl) | exact Or.inr (Or.inr rfl)) (hd : (n == ("__debug__" : Str)) = false := by decide) (hcd : (n == ("__classdict__" : Str)) = false := by decide)
    (hs : swapsWith (.Call (.Attribute (ixC n p1 p2 p3 k1 0) "pop" p6) [.Constant (.int 0) k2 p4] [] p7) none pos.line X.env = pure false := by rfl)
    (hbase : attributeBase (ixC n p1 p2 p3 k1 0) "pop" X.env (eval (ixC n p1 p2 p3 k1 0) X.env) = eval (ixC n p1 p2 p3 k1 0) X.env := by rfl)
    (hfew : ((backTo p7 (starEach (.Constant (.int 0) k2 p4 :: []) X.env)).all (fun x => !x.1) && (backToKw p7 (keywordEach [] X.env)).all (fun x => x.1.isSome)
      && decide ((.Constant (.int 0) k2 p4 :: ([] : List Expr)).length + ([] : List Keyword).length + (if ([] : List Keyword).isEmpty then 0 else 1) < 30)) = true := by rfl)
    (hline : (p6.endLine == p7.line) = true := by rfl) (hst : starEach (.Constant (.int 0) k2 p4 :: []) X.env = (false, eval (.Constant (.int 0) k2 p4) X.env) :: starEach [] X.env := by rfl) (hplain : (backTo p7 (starEach [] X.env)).any (·.1) = false := by rfl) :
    SJ X ρ (.Expr (.Call (.Attribute (ixC n p1 p2 p3 k1 0) "pop" p6) [.Constant (.int 0) k2 p4] [] p7) pos) nx rt bk ct := fun F σ H0 H D r q1 q2 q3 q4 =>
  WS.of (ps_expr (pe_bm PySem.F.plainAttrs_list PySem.F.slot_list_pop PySem.F.type_list_pop mt_popAt pe_we (pa_cons pe_int pa_nil hst) hbase hfew hline hst hplain) hs) (we_dk0 i r hr hN hv hd hcd fun a p qq e1 f1 f2 f3 => by
    refine ⟨.inl ⟨rfl, _, SqL.of f2⟩, p, (b0 :: bs).map V.int, 0, 0, .int b0, rfl, rfl, f2, by omega, by omega, by unfold seqIndex?; simp, rfl, ?_⟩
    refine q1 _ σ _ _ (Same.refl _) (r.dkSet hr (by rw [e1]; simp) fun a' p' q' g1 g2 => ?_) q
    rw [e1] at g1
    obtain ⟨rfl, rfl, rfl⟩ : a = a' ∧ p = p' ∧ qq = q' := by simpa using g1
    obtain ⟨a2, p2', q2', z1, z2, z3, z4, z5, z6, z7, z8, _⟩ := r.sl i _ hr
    rw [e1] at z1
    obtain ⟨rfl, rfl, rfl⟩ : a = a2 ∧ p = p2' ∧ qq = q2' := by simpa using z1
    exact ⟨bs, cl, j, by rw [upd_ne z6]; exact f1, by rw [upd_same]; rfl, by rw [upd_ne (Ne.symm z8)]; exact f3, rfl, rfl, rfl⟩)
/-- deck[2] = e -/
theorem sj_dk2 (i : Nat) {m : Nat} (he : EE X ρ e ρ (.int (m : Nat))) (q : nx (ρ.set i (.dk (dkX bg cl m)))) (hr : ρ[i]? = some (.dk (dkX bg cl j)) := by rfl) (hN : X.N[i]? = some n := by rfl) (hv : Vis X.env.scope n := by first | exact Or.inl rfl | exact Or.inr (Or.inl rfl) | exact Or.inr (Or.inr rfl)) (hd : (n == ("__debug__" : Str)) = false := by decide) (hcd : (n == ("__classdict__" : Str)) = false := by decide)
    (hs : swapsWithSole [ixC n p1 p2 p3 k1 2] e pos.line X.env = pure false := by rfl) (hw : swappedStores [ixC n p1 p2 p3 k1 2] e X.env = pure none := by rfl) (h1 : (assignEach [ixC n p1 p2 p3 k1 2] X.env).map (·.2) = [assign (ixC n p1 p2 p3 k1 2) X.env] := by rfl)
    (hsub : ∀ v, assign (ixC n p1 p2 p3 k1 2) X.env v = (do
      let ov ← holding [v] (eval (.Name n p1) X.env)
      let iv ← holding [v, ov] (eval (.Constant (.int 2) k1 p2) X.env)
      standAt p3
      holding [v, ov, iv] (setItem ov iv v)
      release [v, ov, iv] []) := by intro _; rfl) : SJ X ρ (.Assign [ixC n p1 p2 p3 k1 2] e pos) nx rt bk ct := fun F σ H0 H D r q1 q2 q3 q4 =>
  WS.of (ps_asg pe_we (pg_sub (pe_var hN hv hd hcd) pe_int set_list hsub) hs hw h1) (he F σ H0 H _ r fun v H1 H' s r' pv => by
    cases pv
    obtain ⟨a, p, qq, e1, e2, f1, f2, f3⟩ := dk_rel r' hr
    refine ⟨_, e2, _, _, 2, 2, rfl, rfl, f1, by unfold ixN; simp, ?_⟩
    refine q1 _ σ _ _ s (r'.dkSet hr (by rw [e1]; simp) fun a' p' q' g1 g2 => ?_) q
    rw [e1] at g1
    obtain ⟨rfl, rfl, rfl⟩ : a = a' ∧ p = p' ∧ qq = q' := by simpa using g1
    obtain ⟨a2, p2', q2', z1, z2, z3, z4, z5, z6, z7, z8, _⟩ := r'.sl i _ hr
    rw [e1] at z1
    obtain ⟨rfl, rfl, rfl⟩ : a = a2 ∧ p = p2' ∧ qq = q2' := by simpa using z1
    exact ⟨bg, cl, m, by rw [upd_same]; rfl, by rw [upd_ne (Ne.symm z6)]; exact f2, by rw [upd_ne (Ne.symm z7)]; exact f3, rfl, rfl, rfl⟩)
/-- return e, the deck's slot weaker -/
theorem sj_retK (i : Nat) {P P' : Dkp} (he : EE X ρ e ρ1 x) (hi : ρ1[i]? = some (.dk P)) (l : ∀ b c j, P b c j → P' b c j) (q : rt (ρ1.set i (.dk P')) x) : SJ X ρ (.Return (some e) pos) nx rt bk ct := fun F σ H0 H D r q1 q2 q3 q4 =>
  WS.of (ps_ret pe_we) (he F σ H0 H _ r fun v H0' H' s r' p => q2 v x _ σ _ _ s (r'.dkWeak hi fun b c j _ => l b c j) p q)
end
end
end DL
set_option Elab.async false
set_option linter.all false
set_option maxRecDepth 100000
set_option maxHeartbeats 4000000
/-! DL18: groups: a dict of lists, keyed by tuples of ints -/
namespace DL
open PySem PySem.Spec PyProof.Rows L2
theorem nodup_inj {α β : Type} {f : α → β} : ∀ {l : List α}, (l.map f).Nodup → ∀ {a b : α}, a ∈ l → b ∈ l → f a = f b → a = b
  | [], _, _, _, h, _, _ => nomatch h
  | x :: l, h, a, b, ha, hb, e => by
    rw [List.map_cons, List.nodup_cons] at h
    rcases List.mem_cons.mp ha with e1 | ha'
    · rcases List.mem_cons.mp hb with e2 | hb'
      · rw [e1, e2]
      · exact absurd (List.mem_map.mpr ⟨b, hb', by rw [← e, e1]⟩ : f x ∈ l.map f) h.1
    · rcases List.mem_cons.mp hb with e2 | hb'
      · exact absurd (List.mem_map.mpr ⟨a, ha', by rw [e, e2]⟩ : f x ∈ l.map f) h.1
      · exact nodup_inj h.2 ha' hb' e
/-- key, its tuple, its list, the list's members -/
abbrev Gp := List Int × Addr × Addr × List Int
abbrev gEnt (g : Gp) : Ent := (g.1, g.2.1, Value.ref g.2.2.1)
def GG (p : Addr) (gs : List Gp) : Hp := fun b => if b = p then some (DRaw p (gs.map gEnt)) else (gs.find? fun g => decide (g.2.2.1 = b)).map fun g => .lst (g.2.2.2.map V.int)
theorem GG_p {p : Addr} {gs : List Gp} : GG p gs p = some (DRaw p (gs.map gEnt)) := if_pos rfl
theorem GG_some {p b : Addr} {gs : List Gp} {o : HO} (h : GG p gs b = some o) (hb : b ≠ p) : ∃ g ∈ gs, g.2.2.1 = b ∧ o = .lst (g.2.2.2.map V.int) := by
  unfold GG at h
  rw [if_neg hb] at h
  obtain ⟨g, h1, h2⟩ := Option.map_eq_some_iff.mp h
  exact ⟨g, List.mem_of_find?_eq_some h1, by simpa using List.find?_some h1, h2.symm⟩
theorem GG_mem {p : Addr} {gs : List Gp} (nd : (p :: gs.map fun g => g.2.2.1).Nodup) {g : Gp} (hg : g ∈ gs) : GG p gs g.2.2.1 = some (.lst (g.2.2.2.map V.int)) := by
  obtain ⟨n1, n2⟩ := List.nodup_cons.mp nd
  have hb : g.2.2.1 ≠ p := fun z => n1 (by rw [← z]; exact List.mem_map.mpr ⟨g, hg, rfl⟩)
  unfold GG
  rw [if_neg hb]
  have e : gs.find? (fun g' => decide (g'.2.2.1 = g.2.2.1)) = some g := by
    clear nd n1 hb
    induction gs with
    | nil => cases hg
    | cons g' gs ih =>
      rw [List.map_cons, List.nodup_cons] at n2
      rcases List.mem_cons.mp hg with rfl | hg
      · simp
      · have hne : g'.2.2.1 ≠ g.2.2.1 := fun z => n2.1 (by rw [z]; exact List.mem_map.mpr ⟨g, hg, rfl⟩)
        rw [List.find?_cons_of_neg (by simpa using hne)]
        exact ih hg n2.2
  rw [e]
  rfl
def Fm.pinG (F : Fm) (G : Hp) : Fm := ⟨fun b => if (G b).isSome then none else F.H0 b, fun b => (G b).or (F.He b), F.dk⟩
def noOwn (ρ : List Sl) : Prop := ∀ (j : Nat) (s : Sl), ρ[j]? = some s → s.isOwn = false
theorem noOwn.set {ρ : List Sl} (h : noOwn ρ) {i : Nat} {s : Sl} (hs : s.isOwn = false) : noOwn (ρ.set i s) := fun j s' e => by
  rcases get_set e with ⟨_, rfl⟩ | ⟨_, e⟩
  · exact hs
  · exact h j s' e
section
variable {F : Fm} {ρ : List Sl} {σ : L2.St} {H0 H : Hp} {G : Hp}
theorem Rel.unpinG (r : Rel (F.pinG G) ρ σ H0 H) (no : noOwn ρ) (hG : ∀ b o, G b = some o → F.He b = none ∧ b ∉ F.dk) : Rel F ρ σ H0 H ∧ ∀ b o, G b = some o → H b = some o ∧ H0 b = none := by
  have gn : ∀ b o, F.He b = some o → G b = none := fun b o h => by
    cases q : G b with
    | none => rfl
    | some u => rw [(hG b u q).1] at h; cases h
  have he : ∀ b, G b = none → (F.pinG G).He b = F.He b := fun b q => by show (G b).or (F.He b) = _; rw [q]; rfl
  refine ⟨⟨r.ex, fun b o h n => r.fr b o (by rw [he b (gn b o h)]; exact h) n, fun b h => ?_, r.ad, fun b o h => ?_, r.len, fun i s hs => ?_, r.ne, r.nd⟩, fun b o h => ⟨r.fr b o (by show (G b).or (F.He b) = _; rw [h]; rfl) (hG b o h).2, ?_⟩⟩
  · cases q : F.He b with
    | none => exact absurd q h
    | some o => exact r.al b (by rw [he b (gn b o q)]; exact h)
  · have := r.ba b o (by rw [he b (gn b o h)]; exact h)
    rw [this]
    show (if (G b).isSome then none else F.H0 b) = _
    rw [gn b o h]
    rfl
  · have h := r.sl i s hs
    have h2 := no i s hs
    cases s with
    | any => exact h
    | d x => exact h
    | dk N => exact h
    | own xs => cases h2
    | ownD xs => cases h2
  · have := r.ba b o (by show (G b).or (F.He b) = _; rw [h]; rfl)
    rw [this]
    show (if (G b).isSome then none else F.H0 b) = _
    rw [h]
    rfl
theorem Rel.pinG (r : Rel F ρ σ H0 H) (no : noOwn ρ) (hG : ∀ b o, G b = some o → H b = some o ∧ H0 b = none) : Rel (F.pinG G) ρ σ H0 H := by
  refine ⟨r.ex, fun b o h n => ?_, fun b h => ?_, r.ad, fun b o h => ?_, r.len, fun i s hs => ?_, r.ne, r.nd⟩
  · have h : (G b).or (F.He b) = some o := h
    cases q : G b with
    | none => rw [q] at h; exact r.fr b o h n
    | some u => rw [q] at h; cases h; exact (hG b _ q).1
  · have h : (G b).or (F.He b) ≠ none := h
    cases q : G b with
    | none => rw [q] at h; exact r.al b h
    | some u => rw [(hG b _ q).1]; simp
  · have h : (G b).or (F.He b) = some o := h
    show H0 b = if (G b).isSome then none else F.H0 b
    cases q : G b with
    | none => rw [q] at h; exact r.ba b o h
    | some u => exact (hG b _ q).2
  · have h := r.sl i s hs
    have h2 := no i s hs
    cases s with
    | any => exact h
    | d x => exact h
    | dk N => exact h
    | own xs => cases h2
    | ownD xs => cases h2
/-- an object that no slot and no frame holds changes -/
theorem Rel.poke (r : Rel F ρ σ H0 H) (no : noOwn ρ) {a : Addr} {o : HO} (h0 : H0 a = none) (he : F.He a = none) (hd : a ∉ F.dk) : Rel F ρ σ H0 (upd H a o) := by
  refine ⟨fun b u q => ?_, fun b u q n => ?_, fun b q z => ?_, fun b q z => ?_, r.ba, r.len, fun i s hs => ?_, r.ne, r.nd⟩
  · rw [upd_ne (ne_of_none q h0)]; exact r.ex _ _ q
  · rw [upd_ne (ne_of_none q he)]; exact r.fr _ _ q n
  · by_cases e : b = a
    · subst e; rw [upd_same] at z; cases z
    · rw [upd_ne e] at z; exact r.al b q z
  · by_cases e : b = a
    · subst e; rw [upd_same] at z; cases z
    · rw [upd_ne e] at z; exact r.ad b q z
  · have h := r.sl i s hs
    have h2 := no i s hs
    cases s with
    | any => exact h
    | d x => exact h
    | own xs => cases h2
    | ownD xs => cases h2
    | dk N =>
      obtain ⟨a', p', q, q1, q2, q3, q4, q5, n1, n2, n3, b, c, j', h1, h2, h3, h4⟩ := h
      have m1 : a' ≠ a := fun z => hd (by rw [q1, ← z]; simp)
      have m2 : p' ≠ a := fun z => hd (by rw [q1, ← z]; simp)
      have m3 : q ≠ a := fun z => hd (by rw [q1, ← z]; simp)
      exact ⟨a', p', q, q1, q2, q3, q4, q5, n1, n2, n3, b, c, j', by rw [upd_ne m1]; exact h1, by rw [upd_ne m2]; exact h2, by rw [upd_ne m3]; exact h3, h4⟩
/-- objects that no slot and no frame holds are data from here on -/
theorem Rel.takeG (r : Rel F ρ σ H0 H) (no : noOwn ρ) (hG : ∀ b o, G b = some o → H b = some o ∧ H0 b = none ∧ F.He b = none ∧ b ∉ F.dk) : Rel F ρ σ (fun b => (G b).or (H0 b)) H ∧ Same H0 (fun b => (G b).or (H0 b)) := by
  have s0 : Same H0 (fun b => (G b).or (H0 b)) := fun b o h => by
    show (G b).or (H0 b) = some o
    cases q : G b with
    | none => exact h
    | some u => rw [(hG b u q).2.1] at h; cases h
  refine ⟨⟨fun b o h => ?_, r.fr, r.al, r.ad, fun b o h => ?_, r.len, fun i s hs => ?_, r.ne, r.nd⟩, s0⟩
  · have h : (G b).or (H0 b) = some o := h
    cases q : G b with
    | none => rw [q] at h; exact r.ex _ _ h
    | some u => rw [q] at h; cases h; exact (hG b _ q).1
  · show (G b).or (H0 b) = _
    cases q : G b with
    | none => exact r.ba b o h
    | some u => rw [(hG b u q).2.2.1] at h; cases h
  · have h := r.sl i s hs
    have h2 := no i s hs
    cases s with
    | any => exact h
    | d x => obtain ⟨v, q1, q2⟩ := h; exact ⟨v, q1, q2.mono s0⟩
    | own xs => cases h2
    | ownD xs => cases h2
    | dk N =>
      obtain ⟨a', p', q, q1, q2, q3, q4, q5, q6⟩ := h
      have gn : ∀ b, b ∈ F.dk → G b = none := fun b hb => by
        cases z : G b with
        | none => rfl
        | some u => exact absurd hb (hG b u z).2.2.2
      have f1 : (fun b => (G b).or (H0 b)) a' = none := by show (G a').or (H0 a') = none; rw [gn a' (by rw [q1]; simp)]; exact q3
      have f2 : (fun b => (G b).or (H0 b)) p' = none := by show (G p').or (H0 p') = none; rw [gn p' (by rw [q1]; simp)]; exact q4
      have f3 : (fun b => (G b).or (H0 b)) q = none := by show (G q).or (H0 q) = none; rw [gn q (by rw [q1]; simp)]; exact q5
      exact ⟨a', p', q, q1, q2, f1, f2, f3, q6⟩
end
/-- the dict of lists stands in slot i, at p -/
structure GS (F : Fm) (ρ : List Sl) (σ : L2.St) (H0 H : Hp) (i : Nat) (p : Addr) (gs : List Gp) : Prop where
  no : noOwn ρ
  sl : ρ[i]? = some .any
  av : σ[i]? = some (some (.ref p))
  nd : (p :: gs.map fun g => g.2.2.1).Nodup
  ks : ∀ g ∈ gs, TupAt H0 true g.2.1 (g.1.map V.int)
  he : ∀ b o, GG p gs b = some o → F.He b = none ∧ b ∉ F.dk
  rel : Rel (F.pinG (GG p gs)) ρ σ H0 H
def grpAdd (gs : List (List Int × List Int)) (k : List Int) (t : Int) : List (List Int × List Int) := if k ∈ gs.map (·.1) then gs.map (fun g => if g.1 = k then (g.1, g.2 ++ [t]) else g) else gs ++ [(k, [t])]
def gPairs (gs : List Gp) : List (List Int × List Int) := gs.map fun g => (g.1, g.2.2.2)
section
variable {X : Cx} {ρ ρ1 ρ2 ρ3 : List Sl} {e a b c tg iter elt : Expr} {es rest : List Expr} {x y z : D} {pos : Pos} {k : Nat} {D : Ends} {F : Fm} {σ : L2.St} {H0 H : Hp} {p : Addr} {gs : List Gp}
theorem GS.keys (g : GS F ρ σ H0 H i p gs) : KeysIn H (gs.map gEnt) := fun x hx => by
  obtain ⟨u, hu, rfl⟩ := List.mem_map.mp hx
  exact ⟨true, (g.ks u hu).mono g.rel.ex⟩
/-- name = {} -/
theorem ws_newG (i : Nat) {n : Str} {p' p1 : Pos} (r : Rel F ρ σ H0 H) (no : noOwn ρ) (hlt : i < ρ.length) (q : ∀ p σ' H', GS F (ρ.set i .any) σ' H0 H' i p [] → D.nx σ' H') (hi : X.N[i]? = some n := by rfl) (hN : X.N.Nodup := by assumption) (hx : Loc X.env.scope n := by first | exact Or.inl rfl | exact Or.inr rfl)
    (hs : swapsWith (.Dict [] [] p1) (some (.Name n p')) pos.line X.env = pure false := by rfl) (hf : X.fn n = true ∨ X.env.scope.names.lookup n = some .local := by first | exact .inl rfl | exact .inr rfl) : WS X (.Assign [.Name n p'] (.Dict [] [] p1) pos) D σ H :=
  WS.of (ps_set hN hi hx pe_newD hs hf) (fun p hp => by
    have r1 : Rel F ρ σ H0 (upd H p (DRaw p [])) := r.new1 hp
    have r2 : Rel F (ρ.set i .any) (σ.set i (some (.ref p))) H0 (upd H p (DRaw p [])) := r1.set (s := .any) ⟨_, rfl⟩ (fun z => nomatch z)
    have gp : ∀ b o, GG p [] b = some o → b = p ∧ o = DRaw p [] := fun b o h => by
      by_cases e : b = p
      · subst e; rw [GG_p] at h; exact ⟨rfl, (Option.some.inj h).symm⟩
      · obtain ⟨g, hg, _⟩ := GG_some h e; cases hg
    refine q p _ _ ⟨no.set rfl, by rw [List.getElem?_set_self hlt], by rw [List.getElem?_set_self (by rw [r.len]; exact hlt)], by simp, (fun g hg => nomatch hg), fun b o h => ?_, r2.pinG (no.set rfl) fun b o h => ?_⟩
    · obtain ⟨rfl, _⟩ := gp b o h
      exact ⟨r.he_none hp, r.dk_none hp⟩
    · obtain ⟨rfl, rfl⟩ := gp b o h
      exact ⟨upd_same, r.none0 hp⟩)
theorem gs_find {gs : List Gp} {k : List Int} (h : k ∈ gs.map (·.1)) : ∃ g ∈ gs, g.1 = k := by
  obtain ⟨g, a, b⟩ := List.mem_map.mp h
  exact ⟨g, a, b⟩
/-- result.setdefault(ranking, []).append(taster) -/
theorem ws_addG (i jr jt : Nat) {n nr nt : Str} {k : List Int} {t : Int} {p1 p2 p3 p4 p5 p6 p7 p8 : Pos} (hu : X.A.units + 64 < cLine) (g : GS F ρ σ H0 H i p gs) (hr : ρ[jr]? = some (.d (.tup true (k.map .int)))) (ht : ρ[jt]? = some (.d (.int t))) (hlen : gs.length ≤ 100000) (hml : ∀ g ∈ gs, g.2.2.2.length ≤ 100000) (kn : (gs.map (·.1)).Nodup)
    (q : ∀ gs' H', GS F ρ σ H0 H' i p gs' → gPairs gs' = grpAdd (gPairs gs) k t → D.nx σ H')
    (hN : X.N[i]? = some n := by rfl) (hNr : X.N[jr]? = some nr := by rfl) (hNt : X.N[jt]? = some nt := by rfl)
    (hv : Vis X.env.scope n := by first | exact Or.inl rfl | exact Or.inr (Or.inl rfl) | exact Or.inr (Or.inr rfl)) (hd : (n == ("__debug__" : Str)) = false := by decide) (hcd : (n == ("__classdict__" : Str)) = false := by decide)
    (hvr : Vis X.env.scope nr := by first | exact Or.inl rfl | exact Or.inr (Or.inl rfl) | exact Or.inr (Or.inr rfl)) (hdr : (nr == ("__debug__" : Str)) = false := by decide) (hcdr : (nr == ("__classdict__" : Str)) = false := by decide)
    (hvt : Vis X.env.scope nt := by first | exact Or.inl rfl | exact Or.inr (Or.inl rfl) | exact Or.inr (Or.inr rfl)) (hdt : (nt == ("__debug__" : Str)) = false := by decide) (hcdt : (nt == ("__classdict__" : Str)) = false := by decide)
    (m : M2 X (.Name n p1) "setdefault" p2 (.Name nr p3) (.List [] p4) p5 := by exact ⟨rfl, rfl, rfl, rfl⟩)
    (hs : swapsWith (.Call (.Attribute (.Call (.Attribute (.Name n p1) "setdefault" p2) [.Name nr p3, .List [] p4] [] p5) "append" p6) [.Name nt p7] [] p8) none pos.line X.env = pure false := by rfl)
    (hbase : attributeBase (.Call (.Attribute (.Name n p1) "setdefault" p2) [.Name nr p3, .List [] p4] [] p5) "append" X.env (eval (.Call (.Attribute (.Name n p1) "setdefault" p2) [.Name nr p3, .List [] p4] [] p5) X.env) = eval (.Call (.Attribute (.Name n p1) "setdefault" p2) [.Name nr p3, .List [] p4] [] p5) X.env := by rfl)
    (hfew : ((backTo p8 (starEach (.Name nt p7 :: []) X.env)).all (fun x => !x.1) && (backToKw p8 (keywordEach [] X.env)).all (fun x => x.1.isSome)
      && decide ((.Name nt p7 :: ([] : List Expr)).length + ([] : List Keyword).length + (if ([] : List Keyword).isEmpty then 0 else 1) < 30)) = true := by rfl)
    (hline : (p6.endLine == p8.line) = true := by rfl) (hst : starEach (.Name nt p7 :: []) X.env = (false, eval (.Name nt p7) X.env) :: starEach [] X.env := by rfl) (hplain : (backTo p8 (starEach [] X.env)).any (·.1) = false := by rfl) :
    WS X (.Expr (.Call (.Attribute (.Call (.Attribute (.Name n p1) "setdefault" p2) [.Name nr p3, .List [] p4] [] p5) "append" p6) [.Name nt p7] [] p8) pos) D σ H := by
  obtain ⟨rF, hG⟩ := g.rel.unpinG g.no g.he
  obtain ⟨vr, er, pr⟩ := g.rel.at_d hr
  obtain ⟨vt, et, pt⟩ := g.rel.at_d ht
  obtain ⟨bk, rfl, hbk⟩ : ∃ bk, vr = .ref bk ∧ TupAt H0 true bk (k.map V.int) := by
    cases pr with
    | tup h1 h2 => rw [h2.ints] at h1; exact ⟨_, rfl, h1⟩
  cases pt
  have hp := hG p _ GG_p
  have hpe := g.he p _ GG_p
  refine WS.of (ps_expr (pe_bm PySem.F.plainAttrs_list PySem.F.slot_list_append PySem.F.type_list_append mt_append (pe_setdD (by omega) (pe_var hN hv hd hcd) (pe_var hNr hvr hdr hcdr) (pe_lst pa_nil) m) (pa_cons (pe_var hNt hvt hdt hcdt) pa_nil hst) hbase hfew hline hst hplain) hs) ?_
  refine ⟨_, g.av, p, _, rfl, hp.1, _, er, Nat.zero_le _, fun l hl => ?_⟩
  have hlp : p ≠ l := ne_of_none hp.1 hl
  have nq : ∀ g' ∈ gs, g'.2.2.1 ≠ l := fun g' hg' => ne_of_none (hG _ _ (GG_mem g.nd hg')).1 hl
  have rl : Rel F ρ σ H0 (upd H l (.lst [])) := rF.new1 hl
  have kin : KeysIn (upd H l (.lst [])) (gs.map gEnt) := fun x hx => let ⟨tb, t⟩ := g.keys x hx; ⟨tb, t.mono (same_upd hl)⟩
  refine ⟨gs.map gEnt, k, bk, true, rfl, by rw [upd_ne hlp]; exact hp.1, kin, (hbk.mono g.rel.ex).mono (same_upd hl), by rw [List.length_map]; exact Nat.lt_of_le_of_lt hlen (show 100000 < sizeLine by decide), fun c u hm => ?_, fun hn u ru => ?_⟩
  · -- there already
    obtain ⟨g0, hg0, e0⟩ := List.mem_map.mp hm
    obtain ⟨k0, c0, q0, m0⟩ := g0
    obtain ⟨rfl, rfl, rfl⟩ : k = k0 ∧ c = c0 ∧ u = Value.ref q0 := by
      have e0 : (k0, c0, Value.ref q0) = (k, c, u) := e0
      simp only [Prod.mk.injEq] at e0
      exact ⟨e0.1.symm, e0.2.1.symm, e0.2.2.symm⟩
    have hq0 := hG _ _ (GG_mem g.nd hg0)
    have hqe := g.he _ _ (GG_mem g.nd hg0)
    have hql : q0 ≠ l := nq _ hg0
    have hqp : q0 ≠ p := fun z => (List.nodup_cons.mp g.nd).1 (by rw [← z]; exact List.mem_map.mpr ⟨_, hg0, rfl⟩)
    have hq1 : upd H l (.lst []) q0 = some (.lst (m0.map V.int)) := by rw [upd_ne hql]; exact hq0.1
    refine ⟨.ref q0, rfl, .inl ⟨rfl, _, SqL.of hq1⟩, _, et, ⟨q0, m0.map V.int, .int t, rfl, rfl, hq1, by rw [List.length_map]; exact Nat.lt_of_le_of_lt (hml _ hg0) (show 100000 < sizeLine by decide), ?_⟩⟩
    let gs' : List Gp := gs.map fun g => if g.1 = k then (g.1, g.2.1, g.2.2.1, g.2.2.2 ++ [t]) else g
    have e1 : gs'.map (fun g => g.2.2.1) = gs.map fun g => g.2.2.1 := by
      rw [List.map_map]
      refine List.map_congr_left fun g _ => ?_
      show (if g.1 = k then _ else g : Gp).2.2.1 = _
      split <;> rfl
    have e2 : gs'.map gEnt = gs.map gEnt := by
      rw [List.map_map]
      refine List.map_congr_left fun g _ => ?_
      show gEnt (if g.1 = k then _ else g : Gp) = _
      split <;> rfl
    have uniq : ∀ g1 ∈ gs, g1.1 = k → g1 = (k, c, q0, m0) := fun g1 h1 ek => nodup_inj kn h1 hg0 ek
    refine q gs' _ ⟨g.no, g.sl, g.av, by rw [e1]; exact g.nd, fun g1 hg1 => ?_, fun b o hb => ?_, (rl.poke g.no hq0.2 hqe.1 hqe.2).pinG g.no fun b o hb => ?_⟩ ?_
    · obtain ⟨g2, hg2, rfl⟩ := List.mem_map.mp hg1
      have := g.ks g2 hg2
      split <;> exact this
    · by_cases hbp : b = p
      · subst hbp; exact hpe
      · obtain ⟨g1, hg1, rfl, _⟩ := GG_some hb hbp
        have : g1.2.2.1 ∈ gs'.map (fun g => g.2.2.1) := List.mem_map.mpr ⟨g1, hg1, rfl⟩
        rw [e1] at this
        obtain ⟨g2, hg2, e3⟩ := List.mem_map.mp this
        rw [← e3]
        exact g.he _ _ (GG_mem g.nd hg2)
    · by_cases hbp : b = p
      · subst hbp
        rw [GG_p, e2] at hb
        rw [upd_ne (Ne.symm hqp), upd_ne hlp, ← hb]
        exact hp
      · obtain ⟨g1, hg1, rfl, rfl⟩ := GG_some hb hbp
        obtain ⟨g2, hg2, rfl⟩ := List.mem_map.mp hg1
        by_cases ek : g2.1 = k
        · have := uniq g2 hg2 ek
          subst this
          rw [if_pos rfl]
          exact ⟨by rw [upd_same, List.map_append]; rfl, hq0.2⟩
        · rw [if_neg ek]
          have hne : g2.2.2.1 ≠ q0 := fun z => by
            have := nodup_inj (List.nodup_cons.mp g.nd).2 hg2 hg0 z
            rw [this] at ek
            exact ek rfl
          have h2 := hG _ _ (GG_mem g.nd hg2)
          exact ⟨by rw [upd_ne hne, upd_ne (nq _ hg2)]; exact h2.1, h2.2⟩
    · have hk : k ∈ (gPairs gs).map (·.1) := by
        unfold gPairs
        rw [List.map_map]
        exact List.mem_map.mpr ⟨_, hg0, rfl⟩
      unfold grpAdd
      rw [if_pos hk]
      unfold gPairs
      rw [List.map_map, List.map_map]
      refine List.map_congr_left fun g _ => ?_
      by_cases ek : g.1 = k
      · simp [ek]
      · simp [ek]
  · -- new
    obtain rfl : u = Value.ref l := ru
    let gs' : List Gp := gs ++ [(k, bk, l, [t])]
    have hl1 : upd (upd H l (.lst [])) p (DRaw p (gs.map gEnt ++ [(k, bk, Value.ref l)])) l = some (.lst []) := by rw [upd_ne (Ne.symm hlp), upd_same]
    refine ⟨.inl ⟨rfl, _, SqL.of hl1⟩, _, et, ⟨l, [], .int t, rfl, rfl, hl1, by decide, ?_⟩⟩
    have hl0 : H0 l = none := rF.none0 hl
    have hle : F.He l = none := rF.he_none hl
    have hld : l ∉ F.dk := rF.dk_none hl
    have ndn : (p :: gs'.map fun g => g.2.2.1).Nodup := by
      have h0 := g.nd
      rw [List.nodup_cons] at h0 ⊢
      rw [List.map_append, List.nodup_append]
      refine ⟨?_, h0.2, by simp, ?_⟩
      · rw [List.mem_append]
        rintro (z | z)
        · exact h0.1 z
        · simp at z; exact hlp z
      · intro a ha b hb e
        simp at hb
        obtain ⟨g2, hg2, e3⟩ := List.mem_map.mp ha
        exact nq g2 hg2 (by rw [e3, e, hb])
    have r2 : Rel F ρ σ H0 (upd (upd (upd H l (.lst [])) p (DRaw p (gs.map gEnt ++ [(k, bk, Value.ref l)]))) l (.lst ([] ++ [.int t]))) := (rl.poke g.no hp.2 hpe.1 hpe.2).poke g.no hl0 hle hld
    refine q gs' _ ⟨g.no, g.sl, g.av, ndn, fun g1 hg1 => ?_, fun b o hb => ?_, r2.pinG g.no fun b o hb => ?_⟩ ?_
    · rcases List.mem_append.mp hg1 with z | z
      · exact g.ks g1 z
      · rw [List.mem_singleton.mp z]; exact hbk
    · by_cases hbp : b = p
      · subst hbp; exact hpe
      · obtain ⟨g1, hg1, rfl, _⟩ := GG_some hb hbp
        rcases List.mem_append.mp hg1 with z | z
        · exact g.he _ _ (GG_mem g.nd z)
        · rw [List.mem_singleton.mp z]; exact ⟨hle, hld⟩
    · by_cases hbp : b = p
      · subst hbp
        rw [GG_p, List.map_append] at hb
        rw [upd_ne hlp, upd_same]
        exact ⟨hb, hp.2⟩
      · obtain ⟨g1, hg1, rfl, rfl⟩ := GG_some hb hbp
        rcases List.mem_append.mp hg1 with z | z
        · have h2 := hG _ _ (GG_mem g.nd z)
          exact ⟨by rw [upd_ne (nq _ z), upd_ne hbp, upd_ne (nq _ z)]; exact h2.1, h2.2⟩
        · rw [List.mem_singleton.mp z]
          exact ⟨upd_same, hl0⟩
    · have hk : k ∉ (gPairs gs).map (·.1) := by
        unfold gPairs
        rw [List.map_map]
        rw [List.map_map] at hn
        exact hn
      unfold grpAdd
      rw [if_neg hk]
      unfold gPairs
      rw [List.map_append]
      rfl
end
end DL
set_option Elab.async false
set_option linter.all false
set_option maxRecDepth 100000
set_option maxHeartbeats 4000000
/-! DL19: groups, the loop and the end -/
namespace DL
open PySem PySem.Spec PyProof.Rows L2
section
variable {X : Cx} {ρ ρ1 ρ2 ρ3 : List Sl} {e a b c tg iter elt : Expr} {es rest : List Expr} {x y z : D} {pos : Pos} {k : Nat} {D : Ends} {F : Fm} {σ σ2 : L2.St} {H0 H H02 H2 : Hp} {p : Addr} {gs : List Gp} {i : Nat}
theorem GS.move (g : GS F ρ σ H0 H i p gs) (r : Rel (F.pinG (GG p gs)) ρ2 σ2 H02 H2) (s : Same H0 H02) (no : noOwn ρ2) (sl : ρ2[i]? = some .any) (av : σ2[i]? = some (some (.ref p))) : GS F ρ2 σ2 H02 H2 i p gs :=
  ⟨no, sl, av, g.nd, fun u hu => (g.ks u hu).mono s, g.he, r⟩
/-- the groups of the first n rows -/
def grpOf (ks : List (List Int)) : Nat → List (List Int × List Int)
  | 0 => []
  | n + 1 => match ks[n]? with
    | some k => grpAdd (grpOf ks n) k n
    | none => grpOf ks n
theorem grpAdd_len (gs : List (List Int × List Int)) (k : List Int) (t : Int) : (grpAdd gs k t).length ≤ gs.length + 1 := by
  unfold grpAdd
  split <;> simp
theorem grpAdd_mem {gs : List (List Int × List Int)} {k : List Int} {t : Int} {n : Nat} (h : ∀ g ∈ gs, g.2.length ≤ n) : ∀ g ∈ grpAdd gs k t, g.2.length ≤ n + 1 := fun g hg => by
  unfold grpAdd at hg
  split at hg
  · obtain ⟨g2, h2, rfl⟩ := List.mem_map.mp hg
    have := h g2 h2
    split
    · show (g2.2 ++ [t]).length ≤ n + 1; simp; omega
    · omega
  · rcases List.mem_append.mp hg with z | z
    · have := h g z; omega
    · rw [List.mem_singleton.mp z]; show ([t] : List Int).length ≤ n + 1; simp
theorem grpAdd_keys {gs : List (List Int × List Int)} {k : List Int} {t : Int} (h : (gs.map (·.1)).Nodup) : ((grpAdd gs k t).map (·.1)).Nodup := by
  unfold grpAdd
  split
  · rename_i hk
    have e : (gs.map fun g => if g.1 = k then (g.1, g.2 ++ [t]) else g).map (·.1) = gs.map (·.1) := by
      rw [List.map_map]
      refine List.map_congr_left fun g _ => ?_
      by_cases ek : g.1 = k <;> simp [ek]
    rw [e]
    exact h
  · rename_i hk
    rw [List.map_append, List.nodup_append]
    refine ⟨h, by simp, fun a ha b hb e => ?_⟩
    simp at hb
    exact hk (by rw [← hb, ← e]; exact ha)
theorem grpOf_facts (ks : List (List Int)) : ∀ n, (grpOf ks n).length ≤ n ∧ (∀ g ∈ grpOf ks n, g.2.length ≤ n) ∧ ((grpOf ks n).map (·.1)).Nodup
  | 0 => ⟨Nat.le_refl _, fun g hg => (nomatch hg), List.nodup_nil⟩
  | n + 1 => by
    obtain ⟨h1, h2, h3⟩ := grpOf_facts ks n
    unfold grpOf
    split
    · rename_i k hk
      exact ⟨by have := grpAdd_len (grpOf ks n) k n; omega, grpAdd_mem h2, grpAdd_keys h3⟩
    · exact ⟨by omega, fun g hg => by have := h2 g hg; omega, h3⟩
/-- for taster, ranking in enumerate(..): result.setdefault(ranking, []).append(taster) -/
theorem ws_forG (jr jt : Nat) {ks : List (List Int)} {nr nt : Str} {body : List Stmt} {q1 q2 q3 : Pos} {kk : Nat} (hi : EI X ρ (.Tuple [.Name nt q1, .Name nr q2] kk q3) iter ρ (enumD (ks.map fun k => .tup true (k.map .int)))) (hlen : ks.length ≤ 1000) (g : GS F ρ σ H0 H i p []) (hnr : i ≠ jr) (hnt : i ≠ jt) (hrt : jr ≠ jt) (hjr : jr < ρ.length) (hjt : jt < ρ.length)
    (hb : ∀ ρ' σ' H0' H' gs k t D', GS F ρ' σ' H0' H' i p gs → ρ'[jr]? = some (.d (.tup true (k.map .int))) → ρ'[jt]? = some (.d (.int t)) → gs.length ≤ 100000 → (∀ g ∈ gs, g.2.2.2.length ≤ 100000) → (gs.map (·.1)).Nodup →
      (∀ gs' H'', GS F ρ' σ' H0' H'' i p gs' → gPairs gs' = grpAdd (gPairs gs) k t → D'.nx σ' H'') → WSs X body D' σ' H')
    (q : ∀ ρ' σ' H0' H' gs, Same H0 H0' → ρ'.length = ρ.length → GS F ρ' σ' H0' H' i p gs → gPairs gs = grpOf ks ks.length → D.nx σ' H')
    (hNr : X.N[jr]? = some nr := by rfl) (hNt : X.N[jt]? = some nt := by rfl) (hN : X.N.Nodup := by assumption) (hxr : Loc X.env.scope nr := by first | exact Or.inl rfl | exact Or.inr rfl) (hxt : Loc X.env.scope nt := by first | exact Or.inl rfl | exact Or.inr rfl)
    (hg : ∀ ρ (k : List Int) (t : Int), GJ X ρ (.Tuple [.Name nt q1, .Name nr q2] kk q3) (.tuple [.int t, .tup true (k.map .int)]) [jr, jt] ((ρ.set jt (.d (.int t))).set jr (.d (.tup true (k.map .int)))))
    (hp : PassesOwn (model X.prog X.w) X.A X.env X.xe := by exact PassesOwn.never) (hc : X.calm = true := by rfl) (hf : ∀ x, foldedSetIterable iter X.env x = pure x := by intro _; rfl) : WS X (.For (.Tuple [.Name nt q1, .Name nr q2] kk q3) iter body [] pos) D σ H := by
  refine WS.of (ps_for hp hc pi_wi pg_wg pss_wss hf) (hi _ σ H0 H _ g.rel fun J H01 H1 s1 r1 it => ?_)
  have ylen : (enumD (ks.map fun k => DL.D.tup true (k.map .int))).length = ks.length := by rw [enumD_len, List.length_map]
  refine ⟨fun n m σ' H' => m = ks.length - n ∧ n ≤ ks.length ∧ ∃ H0' ρ' gs, Same H01 H0' ∧ ρ'.length = ρ.length ∧ GS F ρ' σ' H0' H' i p gs ∧ gPairs gs = grpOf ks n, ⟨_, rfl, Nat.zero_le _, H01, ρ, [], Same.refl _, rfl, g.move r1 s1 g.no g.sl g.av, rfl⟩, ?_⟩
  rintro n m σc Hc ⟨rfl, hle, H0c, ρc, gc, sc, hlc, gg, hgp⟩
  have it' := it.mono sc
  by_cases hlt : n < ks.length
  · have hk : ks[n]? = some ks[n] := List.getElem?_eq_getElem hlt
    have hy : (enumD (ks.map fun k => DL.D.tup true (k.map .int)))[n]? = some (.tuple [.int (n : Nat), .tup true (ks[n].map .int)]) := by
      unfold enumD
      rw [List.getElem?_mapIdx, List.getElem?_map, hk]
      rfl
    refine .inr ⟨it'.go n Hc (by rw [ylen]; exact hlt) gg.rel.ex, fun σ' H' => ∃ H0' ρ' gs, Same H01 H0' ∧ ρ'.length = ρ.length ∧ GS F ρ' σ' H0' H' i p gs ∧ gPairs gs = grpOf ks (n + 1), fun σ' H' q => ⟨ks.length - (n + 1), by omega, rfl, hlt, q⟩, fun v H' yv => ?_⟩
    obtain ⟨H0d, sd, rd, pd⟩ := it'.turn gg.rel yv hy
    refine hg ρc ks[n] n _ σc H0d H' v _ rd pd fun σ' rg wg => ?_
    have hni : i ∉ [jr, jt] := by simp [hnr, hnt]
    have av' : σ'[i]? = some (some (.ref p)) := by rw [← wipe_get hni, wg, wipe_get hni]; exact gg.av
    have g2 := gg.move rg sd ((gg.no.set rfl).set rfl) (by rw [List.getElem?_set_ne (Ne.symm hnr), List.getElem?_set_ne (Ne.symm hnt)]; exact gg.sl) av'
    obtain ⟨f1, f2, f3⟩ := grpOf_facts ks n
    rw [← hgp] at f1 f2 f3
    have elen : (gPairs gc).length = gc.length := by unfold gPairs; rw [List.length_map]
    refine hb _ σ' H0d H' gc ks[n] n _ g2 (by rw [List.getElem?_set_self (by simp; omega)]) (by rw [List.getElem?_set_ne hrt, List.getElem?_set_self (by omega)]) (by omega) (fun g' hg' => ?_) ?_ fun gs' H'' g3 e3 => ⟨H0d, _, gs', sc.trans sd, by simp; exact hlc, g3, ?_⟩
    · have := f2 (g'.1, g'.2.2.2) (List.mem_map.mpr ⟨g', hg', rfl⟩)
      have : g'.2.2.2.length ≤ n := this
      omega
    · unfold gPairs at f3
      rw [List.map_map] at f3
      exact f3
    · rw [e3, hgp]
      show _ = (match ks[n]? with
        | some k => grpAdd (grpOf ks n) k n
        | none => grpOf ks n)
      rw [hk]
  · have e : n = ks.length := by omega
    subst e
    exact .inl ⟨by have := it'.stop Hc gg.rel.ex; rw [ylen] at this; exact this, q ρc σc H0c Hc gc (s1.trans sc) hlc gg hgp⟩
theorem vals_of_refs' (gs : List Gp) : ValsOf (gs.map gEnt) (gs.map fun g => V.ref g.2.2.1) := by
  induction gs with
  | nil => exact .nil
  | cons g gs ih => exact .cons rfl ih
theorem isIt_valsR {H0 : Hp} {p : Addr} {o : Obj} {xs : List Ent} {vs : List V} {ys : List DL.D} (h : H0 p = some (.frz o (DRaw p xs))) (hl : xs.length = ys.length) (ra : RpA H0 vs ys) : IsIt (ItdR p o xs vs) H0 ys where
  go := fun i H l e => ⟨e _ _ h, by rw [hl]; exact l⟩
  yld := fun i H v H' y e q hy => by
    obtain ⟨e1, e2⟩ := q
    obtain ⟨u, e3, e4⟩ := ra.get hy
    rw [e2] at e3; cases e3
    exact .inl ⟨e1, e4⟩
  stop := fun H e => ⟨e _ _ h, by rw [hl]; exact Nat.le_refl _⟩
/-- .. in result.values() -/
theorem wi_vals {n : Str} {p1 apos cpos : Pos} (g : GS F ρ σ H0 H i p gs) (R : It → Hp → Prop) (k : ∀ J H0' H', Same H0 H0' → Rel F ρ σ H0' H' → IsIt J H0' ((gPairs gs).map fun g => .list (g.2.map .int)) → R J H') (hN : X.N[i]? = some n := by rfl) (hv : Vis X.env.scope n := by first | exact Or.inl rfl | exact Or.inr (Or.inl rfl) | exact Or.inr (Or.inr rfl)) (hd : (n == ("__debug__" : Str)) = false := by decide) (hcd : (n == ("__classdict__" : Str)) = false := by decide)
    (hbase : attributeBase (.Name n p1) "values" X.env (eval (.Name n p1) X.env) = eval (.Name n p1) X.env := by rfl) (hline : (apos.endLine == cpos.line) = true := by rfl) : WI X tg (.Call (.Attribute (.Name n p1) "values" apos) [] [] cpos) σ H R := by
  obtain ⟨rF, hG⟩ := g.rel.unpinG g.no g.he
  refine WI.of (pi_valuesR (pe_var hN hv hd hcd) hbase hline) ⟨_, g.av, p, gs.map gEnt, _, rfl, (hG p _ GG_p).1, vals_of_refs' gs, fun o => ?_⟩
  have r2 : Rel F ρ σ H0 (upd H p (.frz o (DRaw p (gs.map gEnt)))) := rF.poke g.no (hG p _ GG_p).2 (g.he p _ GG_p).1 (g.he p _ GG_p).2
  let G' : Hp := fun b => if b = p then some (.frz o (DRaw p (gs.map gEnt))) else GG p gs b
  have hG' : ∀ b o', G' b = some o' → upd H p (.frz o (DRaw p (gs.map gEnt))) b = some o' ∧ H0 b = none ∧ F.He b = none ∧ b ∉ F.dk := fun b o' h => by
    by_cases e : b = p
    · subst e
      have h : (if b = b then some (HO.frz o (DRaw b (gs.map gEnt))) else GG b gs b) = some o' := h
      rw [if_pos rfl] at h
      exact ⟨by rw [upd_same]; exact h, (hG b _ GG_p).2, g.he b _ GG_p⟩
    · have h : (if b = p then some (HO.frz o (DRaw p (gs.map gEnt))) else GG p gs b) = some o' := h
      rw [if_neg e] at h
      exact ⟨by rw [upd_ne e]; exact (hG b _ h).1, (hG b _ h).2, g.he b _ h⟩
  obtain ⟨r3, s3⟩ := r2.takeG g.no hG'
  have ep : (fun b => (G' b).or (H0 b)) p = some (.frz o (DRaw p (gs.map gEnt))) := by
    show (G' p).or (H0 p) = _
    rw [show G' p = some (.frz o (DRaw p (gs.map gEnt))) from if_pos rfl]
    rfl
  refine k _ _ _ s3 r3 (isIt_valsR ep (by unfold gPairs; simp) ?_)
  have : ∀ l : List Gp, (∀ u ∈ l, u ∈ gs) → RpA (fun b => (G' b).or (H0 b)) (l.map fun g => V.ref g.2.2.1) ((gPairs l).map fun g => .list (g.2.map .int)) := fun l => by
    induction l with
    | nil => intro _; exact .nil
    | cons u l ih =>
      intro hu
      have hne : u.2.2.1 ≠ p := fun z => (List.nodup_cons.mp g.nd).1 (by rw [← z]; exact List.mem_map.mpr ⟨u, hu u List.mem_cons_self, rfl⟩)
      have e : (fun b => (G' b).or (H0 b)) u.2.2.1 = some (.lst (u.2.2.2.map V.int)) := by
        show (G' u.2.2.1).or (H0 u.2.2.1) = _
        rw [show G' u.2.2.1 = GG p gs u.2.2.1 from if_neg hne, GG_mem g.nd (hu u List.mem_cons_self)]
        rfl
      exact .cons (.lst e (RpA.of_ints _)) (ih fun v hv => hu v (List.mem_cons_of_mem _ hv))
  exact this gs fun u hu => hu
end
end DL
set_option Elab.async false
set_option linter.all false
set_option maxRecDepth 100000
set_option maxHeartbeats 1000000
/-! DL20: helpers -/
namespace DL
open PySem PySem.Spec PyProof.Rows L2
theorem cutD_drop {xs : List D} {k : Nat} (h : k ≤ xs.length) : cutD xs (some (k : Int)) none = xs.drop k := by
  unfold cutD
  have e1 : HT.sIx xs.length 0 (some (k : Int)) = k := by
    simp only [HT.sIx]
    rw [if_neg (by omega)]
    omega
  have e2 : HT.sIx xs.length xs.length none = xs.length := rfl
  rw [e1, e2]
  exact List.take_of_length_le (by simp)
theorem cutD_take {xs : List D} {k : Nat} (h : k ≤ xs.length) : cutD xs none (some (k : Int)) = xs.take k := by
  unfold cutD
  have e1 : HT.sIx xs.length xs.length (some (k : Int)) = k := by
    simp only [HT.sIx]
    rw [if_neg (by omega)]
    omega
  have e2 : HT.sIx xs.length 0 none = 0 := rfl
  rw [e1, e2, List.drop_zero, Nat.sub_zero]
section
variable {X : Cx} {ρ ρ1 ρ2 ρ3 : List Sl} {e a b c tg iter elt : Expr} {es rest : List Expr} {x y z : D} {pos : Pos} {k : Nat} {ys : List D}
/-- [e for target in iter] -/
theorem ee_lcm {α : Type} {scope : Scope} {own : List (Str × Nat)} (xs : List α) (enc : α → D) (f : α → D) (hi : EI X ρ tg iter ρ1 ys) (hy : ys = xs.map enc) (ok : blkC X.N X.env.scope scope own = true) (hw : wipeS ρ1 (own.map (·.2)) = ρ1) (hlen : xs.length ≤ 100000)
    (ht : ∀ a ∈ xs, ∃ ρ2, ∀ s H C cl fp, GJ (bx X scope s H C cl fp) ρ1 tg (enc a) (own.map (·.2)) ρ2 ∧ wipeS ρ2 (own.map (·.2)) = ρ1 ∧ EE (bx X scope s H C cl fp) ρ2 elt ρ2 (f a))
    (hN : X.N.Nodup := by assumption) (hc : X.calm = true := by rfl) (hs : ∀ x, foldedSetIterable iter X.env x = pure x := by intro _; rfl) : EE X ρ (.ListComp elt [⟨tg, iter, [], 0⟩] scope pos) ρ1 (.list (xs.map f)) := by
  subst hy
  have h := EE.of_o (eo_lc (pos := pos) (ifs := []) xs enc (fun _ => true) f hi ok hw hlen (fun a ha => by
    obtain ⟨ρ2, h⟩ := ht a ha
    exact ⟨ρ2, fun s H C cl fp => ⟨(h s H C cl fp).1, (h s H C cl fp).2.1, ets_nil, fun _ => (h s H C cl fp).2.2⟩⟩) hN hc hs)
  rw [List.filter_eq_self.mpr fun _ _ => rfl] at h
  exact h
/-- [e for target in iter if c] -/
theorem ee_lcf {α : Type} {scope : Scope} {own : List (Str × Nat)} (xs : List α) (enc : α → D) (p : α → Bool) (f : α → D) (hi : EI X ρ tg iter ρ1 ys) (hy : ys = xs.map enc) (ok : blkC X.N X.env.scope scope own = true) (hw : wipeS ρ1 (own.map (·.2)) = ρ1) (hlen : xs.length ≤ 100000)
    (ht : ∀ a ∈ xs, ∃ ρ2, ∀ s H C cl fp, GJ (bx X scope s H C cl fp) ρ1 tg (enc a) (own.map (·.2)) ρ2 ∧ wipeS ρ2 (own.map (·.2)) = ρ1 ∧ ET (bx X scope s H C cl fp) ρ2 c ρ2 (p a) ∧ (p a = true → EE (bx X scope s H C cl fp) ρ2 elt ρ2 (f a)))
    (hN : X.N.Nodup := by assumption) (hc : X.calm = true := by rfl) (hs : ∀ x, foldedSetIterable iter X.env x = pure x := by intro _; rfl) : EE X ρ (.ListComp elt [⟨tg, iter, [c], 0⟩] scope pos) ρ1 (.list ((xs.filter p).map f)) := by
  subst hy
  exact EE.of_o (eo_lc xs enc p f hi ok hw hlen (fun a ha => by
    obtain ⟨ρ2, h⟩ := ht a ha
    exact ⟨ρ2, fun s H C cl fp => ⟨(h s H C cl fp).1, (h s H C cl fp).2.1, ets_one (h s H C cl fp).2.2.1, (h s H C cl fp).2.2.2⟩⟩) hN hc hs)
/-- a and b, truth values -/
theorem ee_and2 {t u : Bool} (ha : EE X ρ a ρ1 (.bool t)) (hb : t = true → EE X ρ1 b ρ1 (.bool u)) : EE X ρ (.BoolOp .And [a, b] pos) ρ1 (.bool (t && u)) :=
  (ee_and ha fun h => ee_one (hb h)).to (by cases t <;> rfl)
theorem et_and2 {t u : Bool} (ha : ET X ρ a ρ1 t) (hb : t = true → ET X ρ1 b ρ1 u) : ET X ρ (.BoolOp .And [a, b] pos) ρ1 (t && u) := et_w (ew_and ha fun h => ew_and1 (hb h))
theorem et_or2 {t u : Bool} (ha : ET X ρ a ρ1 t) (hb : t = false → ET X ρ1 b ρ1 u) : ET X ρ (.BoolOp .Or [a, b] pos) ρ1 (t || u) := et_w (ew_or ha fun h => ew_or1 (hb h))
end
/-! data that may be compared -/
inductive OkD : Nat → D → Prop
  | non {n : Nat} : OkD n .none
  | bl {n : Nat} {b : Bool} : OkD n (.bool b)
  | int {n : Nat} {i : Int} : OkD n (.int i)
  | lst {n : Nat} {xs : List D} : (∀ x ∈ xs, OkD n x) → OkD (n + 1) (.list xs)
  | tup {n : Nat} {b : Bool} {xs : List D} : (∀ x ∈ xs, OkD n x) → OkD (n + 1) (.tup b xs)
theorem okA {n : Nat} {xs : List D} (h : ∀ x ∈ xs, (toPy x).canLay0 = true ∧ (toPy x).depth ≤ n) : PyData.canLayAll0 (toPyA xs) = true ∧ PyData.depthAll (toPyA xs) ≤ n := by
  induction xs with
  | nil => exact ⟨by simp [toPyA, PyData.canLayAll0], by simp [toPyA, PyData.depthAll]⟩
  | cons x xs ih =>
    have h1 := h x List.mem_cons_self
    have h2 := ih fun y hy => h y (List.mem_cons_of_mem _ hy)
    refine ⟨by simp [toPyA, PyData.canLayAll0, h1.1, h2.1], ?_⟩
    simp only [toPyA, PyData.depthAll]
    exact Nat.max_le.mpr ⟨h1.2, h2.2⟩
theorem OkD.facts {n : Nat} {d : D} (h : OkD n d) : (toPy d).canLay0 = true ∧ (toPy d).depth ≤ n := by
  induction h with
  | non => exact ⟨rfl, by simp [toPy, PyData.depth]⟩
  | bl => exact ⟨rfl, by simp [toPy, PyData.depth]⟩
  | int => exact ⟨rfl, by simp [toPy, PyData.depth]⟩
  | lst _ ih =>
    have := okA ih
    exact ⟨by simp [toPy, PyData.canLay0, this.1], by simp only [toPy, PyData.depth]; omega⟩
  | tup _ ih =>
    have := okA ih
    exact ⟨by simp [toPy, PyData.canLay0, this.1], by simp only [toPy, PyData.depth]; omega⟩
theorem OkD.sh {n : Nat} {d : D} (h : OkD n d) (hn : n ≤ 64 := by decide) : SeqAt.shaped (toPy d) = true := by
  have := h.facts
  show ((toPy d).canLay0 && decide ((toPy d).depth ≤ 64)) = true
  rw [this.1, decide_eq_true (Nat.le_trans this.2 hn)]
  rfl
theorem OkD.clean {n : Nat} {d : D} (h : OkD n d) (hn : n ≤ 64 := by decide) : clean d = true := clean_sh (h.sh hn)
theorem OkD.depth {n : Nat} {d : D} (h : OkD n d) : (toPy d).depth ≤ n := h.facts.2
theorem OkD.mono {n m : Nat} {d : D} (h : OkD n d) (l : n ≤ m) : OkD m d := by
  induction h generalizing m with
  | non => exact .non
  | bl => exact .bl
  | int => exact .int
  | lst _ ih =>
    obtain ⟨m, rfl⟩ : ∃ k, m = k + 1 := ⟨m - 1, by omega⟩
    exact .lst fun x hx => ih x hx (by omega)
  | tup _ ih =>
    obtain ⟨m, rfl⟩ : ∃ k, m = k + 1 := ⟨m - 1, by omega⟩
    exact .tup fun x hx => ih x hx (by omega)
theorem ok_ints {b : Bool} (ns : List Int) : OkD 1 (.tup b (ns.map .int)) := .tup fun x hx => by
  obtain ⟨i, _, rfl⟩ := List.mem_map.mp hx
  exact .int
theorem ok_pair {i j : Int} : OkD 1 (.tuple [.int i, .int j]) := ok_ints [i, j]
theorem ok_map {α : Type} {n : Nat} {xs : List α} {f : α → D} (h : ∀ a ∈ xs, OkD n (f a)) : ∀ x ∈ xs.map f, OkD n x := fun x hx => by
  obtain ⟨a, ha, rfl⟩ := List.mem_map.mp hx
  exact h a ha

section
variable {X : Cx} {ρ ρ1 : List Sl} {tg iter : Expr}
theorem sb_seq {X : Cx} {ρ : List Sl} {st : Stmt} {rest : List Stmt} {nx bk ct : List Sl → Prop} {rt : List Sl → D → Prop} {I : List Sl → Prop} (h : SJ X ρ st I rt bk ct) (h2 : ∀ ρ', I ρ' → SB X ρ' rest nx rt bk ct) : SB X ρ (st :: rest) nx rt bk ct :=
  sb_cons fun F σ H0 H D r k1 k2 k3 k4 => h F σ H0 H D r (fun ρ' σ' H0' H' s r' q => k1 _ _ _ _ s r' (h2 ρ' q)) k2 k3 k4
theorem EO.to {e : Expr} {xs ys : List D} (h : EO X ρ e ρ1 xs) (q : xs = ys) : EO X ρ e ρ1 ys := q ▸ h
theorem ee_ifS {a b c : Expr} {x : D} {pos : Pos} {t : Bool} (hc : ET X ρ c ρ t) (ha : t = true → EE X ρ a ρ x) (hb : t = false → EE X ρ b ρ x) : EE X ρ (.IfExp c a b pos) ρ x := ee_if hc ha hb
theorem od_inD {X : Cx} {ks : List (List Int)} {k : List Int} (hu : X.A.units + 64 < cLine) : OpD X (compareOp .In) (keyD k) (.dict ks) (.bool (decide (k ∈ ks))) := ⟨_, op_inD (by omega), fun v w H0 H Q s r1 r2 q => by
  obtain ⟨bb, rfl, hk⟩ := rp_key r1
  cases r2 with
  | dct h1 h2 h3 =>
    subst h2
    exact ⟨_, _, k, bb, false, rfl, rfl, .inl (s _ _ h1), keysIn_of h3 s, s _ _ hk, q _ (.bl _)⟩⟩
/-- a cut of a tuple, not the whole -/
theorem ee_slTn {a : Expr} {pos p2 : Pos} {tb : Bool} {xs : List D} {lo hi : Option Expr} {i j : Option Int} (ha : EE X ρ a ρ1 (.tup tb xs)) (h1 : EOp X ρ1 lo i) (h2 : EOp X ρ1 hi j) (hn : ¬ (HT.sIx xs.length 0 i = 0 ∧ HT.sIx xs.length xs.length j = xs.length)) : EE X ρ (.Subscript a (.Slice lo hi none p2) pos) ρ1 (.tuple (cutD xs i j)) := fun F σ H0 H Q r k =>
  WE.of (pe_slice sl_tupA pe_we po_opt po_opt) (ha F σ H0 H _ r fun v H1 H' s r' pv => opt_run h1 r' fun H2 H'' s2 r2 => opt_run h2 r2 fun H3 H3' s3 r3 => by
    cases pv with
    | tup hs hx =>
      have hs3 := ((hs.mono s2).mono s3).mono r3.ex
      refine ⟨_, _, rfl, hs3.sq, fun hw => ?_, fun hw p hp => ?_⟩
      · rw [hx.len] at hw
        exact absurd hw hn
      · obtain ⟨r4, s4⟩ := r3.new (o := .tup _) hp
        exact k _ _ _ (((s.trans s2).trans s3).trans s4) r4 (.tup (b := false) upd_same ((hx.mono ((s2.trans s3).trans s4)).cut i j)))
/-- e alone -/
theorem sj_expr {e : Expr} {x : D} {pos : Pos} {nx bk ct : List Sl → Prop} {rt : List Sl → D → Prop} (he : EE X ρ e ρ1 x) (q : nx ρ1) (hs : swapsWith e none pos.line X.env = pure false := by rfl) : SJ X ρ (.Expr e pos) nx rt bk ct := fun F σ H0 H D r k1 k2 k3 k4 =>
  WS.of (ps_expr pe_we hs) (he F σ H0 H _ r fun v H0' H' s r' p => k1 _ _ _ _ s r' q)
theorem EI.toL {ys zs : List D} (h : EI X ρ tg iter ρ1 ys) (e : ys = zs) : EI X ρ tg iter ρ1 zs := e ▸ h
end
end DL
set_option Elab.async false
set_option linter.all false
set_option maxRecDepth 100000
/-! Txt: the text by places (printed by gen.py) -/
namespace TR
open PySem PySem.Spec PyProof.Rows L2 DL
def topS (i : Nat) : Stmt := PySem.Challenge.pw_tasterow_k83_whole_spans_as_tables.main.body.getD i (.Pass ⟨0, 0, 0, 0⟩)
abbrev s_is_integer_in : Stmt := topS 12
theorem sc_is_integer_in : FnScope ["value", "low", "high"] ["value", "low", "high"] (defScope s_is_integer_in) := ⟨rfl, rfl, rfl, by decide +kernel, rfl, by decide +kernel, by decide +kernel⟩
abbrev s_is_ascending : Stmt := topS 13
theorem sc_is_ascending : FnScope ["items", "one", "other"] ["items"] (defScope s_is_ascending) := ⟨rfl, rfl, rfl, by decide +kernel, rfl, by decide +kernel, by decide +kernel⟩
abbrev s_is_ranking : Stmt := topS 15
theorem sc_is_ranking : FnScope ["dishes", "value", "dish"] ["dishes", "value"] (defScope s_is_ranking) := ⟨rfl, rfl, rfl, by decide +kernel, rfl, by decide +kernel, by decide +kernel⟩
abbrev s_all_pairs : Stmt := topS 16
theorem sc_all_pairs : FnScope ["dishes", "a", "b"] ["dishes"] (defScope s_all_pairs) := ⟨rfl, rfl, rfl, by decide +kernel, rfl, by decide +kernel, by decide +kernel⟩
abbrev s_prefers : Stmt := topS 17
theorem sc_prefers : FnScope ["ranking", "one", "other"] ["ranking", "one", "other"] (defScope s_prefers) := ⟨rfl, rfl, rfl, by decide +kernel, rfl, by decide +kernel, by decide +kernel⟩
abbrev s_positions_of : Stmt := topS 18
theorem sc_positions_of : FnScope ["ranking", "result", "at", "dish"] ["ranking"] (defScope s_positions_of) := ⟨rfl, rfl, rfl, by decide +kernel, rfl, by decide +kernel, by decide +kernel⟩
abbrev s_differences : Stmt := topS 19
theorem sc_differences : FnScope ["one", "other", "first", "second", "a", "b"] ["one", "other"] (defScope s_differences) := ⟨rfl, rfl, rfl, by decide +kernel, rfl, by decide +kernel, by decide +kernel⟩
abbrev s_distance : Stmt := topS 20
theorem sc_distance : FnScope ["one", "other"] ["one", "other"] (defScope s_distance) := ⟨rfl, rfl, rfl, by decide +kernel, rfl, by decide +kernel, by decide +kernel⟩
abbrev s_is_between : Stmt := topS 21
theorem sc_is_between : FnScope ["one", "other", "third"] ["one", "other", "third"] (defScope s_is_between) := ⟨rfl, rfl, rfl, by decide +kernel, rfl, by decide +kernel, by decide +kernel⟩
abbrev s_ranking_of_place : Stmt := topS 23
theorem sc_ranking_of_place : FnScope ["line", "t", "worths", "dish", "height", "slope", "worth"] ["line", "t"] (defScope s_ranking_of_place) := ⟨rfl, rfl, rfl, by decide +kernel, rfl, by decide +kernel, by decide +kernel⟩
abbrev s_check_span : Stmt := topS 24
theorem sc_check_span : FnScope ["low", "high"] ["low", "high"] (defScope s_check_span) := ⟨rfl, rfl, rfl, by decide +kernel, rfl, by decide +kernel, by decide +kernel⟩
abbrev s_change_of : Stmt := topS 25
theorem sc_change_of : FnScope ["line", "pair", "one", "other", "gap", "slope"] ["line", "pair"] (defScope s_change_of) := ⟨rfl, rfl, rfl, by decide +kernel, rfl, by decide +kernel, by decide +kernel⟩
abbrev s_line_changes : Stmt := topS 26
theorem sc_line_changes : FnScope ["line", "low", "high", "changes", "pair", "t"] ["line", "low", "high"] (defScope s_line_changes) := ⟨rfl, rfl, rfl, by decide +kernel, rfl, by decide +kernel, by decide +kernel⟩
abbrev s_line_distance : Stmt := topS 27
theorem sc_line_distance : FnScope ["line", "low", "high"] ["line", "low", "high"] (defScope s_line_distance) := ⟨rfl, rfl, rfl, by decide +kernel, rfl, by decide +kernel, by decide +kernel⟩
abbrev s_line_segments : Stmt := topS 28
theorem sc_line_segments : FnScope ["line", "low", "high", "changes", "firsts", "lasts", "first", "last", "t", "pair"] ["line", "low", "high"] (defScope s_line_segments) := ⟨rfl, rfl, rfl, by decide +kernel, rfl, by decide +kernel, by decide +kernel⟩
abbrev s_rankings_of : Stmt := topS 30
theorem sc_rankings_of : FnScope ["table", "ranking", "weight"] ["table"] (defScope s_rankings_of) := ⟨rfl, rfl, rfl, by decide +kernel, rfl, by decide +kernel, by decide +kernel⟩
abbrev s_groups : Stmt := topS 31
theorem sc_groups : FnScope ["table", "result", "taster", "ranking", "group"] ["table"] (defScope s_groups) := ⟨rfl, rfl, rfl, by decide +kernel, rfl, by decide +kernel, by decide +kernel⟩
abbrev s_is_menu_of : Stmt := topS 32
theorem sc_is_menu_of : FnScope ["dishes", "value", "dish"] ["dishes", "value"] (defScope s_is_menu_of) := ⟨rfl, rfl, rfl, by decide +kernel, rfl, by decide +kernel, by decide +kernel⟩
abbrev s_check_menu : Stmt := topS 33
theorem sc_check_menu : FnScope ["dishes", "menu"] ["dishes", "menu"] (defScope s_check_menu) := ⟨rfl, rfl, rfl, by decide +kernel, rfl, by decide +kernel, by decide +kernel⟩
abbrev s_is_order_of : Stmt := topS 35
theorem sc_is_order_of : FnScope ["count", "value", "item"] ["count", "value"] (defScope s_is_order_of) := ⟨rfl, rfl, rfl, by decide +kernel, rfl, by decide +kernel, by decide +kernel⟩
abbrev s_changes_once : Stmt := topS 36
theorem sc_changes_once : FnScope ["rankings", "order", "changed", "one", "other", "pair"] ["rankings", "order"] (defScope s_changes_once) := ⟨rfl, rfl, rfl, by decide +kernel, rfl, by decide +kernel, by decide +kernel⟩
abbrev s_is_seating : Stmt := topS 37
theorem sc_is_seating : FnScope ["table", "value"] ["table", "value"] (defScope s_is_seating) := ⟨rfl, rfl, rfl, by decide +kernel, rfl, by decide +kernel, by decide +kernel⟩
abbrev s_splits_with_pairs : Stmt := topS 38
theorem sc_splits_with_pairs : FnScope ["rankings", "taster", "apart", "result", "pair", "split", "ranking", "other", "pairs"] ["rankings", "taster"] (defScope s_splits_with_pairs) := ⟨rfl, rfl, rfl, by decide +kernel, rfl, by decide +kernel, by decide +kernel⟩
abbrev s_splits : Stmt := topS 39
theorem sc_splits : FnScope ["table", "taster"] ["table", "taster"] (defScope s_splits) := ⟨rfl, rfl, rfl, by decide +kernel, rfl, by decide +kernel, by decide +kernel⟩
abbrev s_largest : Stmt := topS 40
theorem sc_largest : FnScope ["sets", "result", "members"] ["sets"] (defScope s_largest) := ⟨rfl, rfl, rfl, by decide +kernel, rfl, by decide +kernel, by decide +kernel⟩
abbrev s_offset_of : Stmt := topS 41
theorem sc_offset_of : FnScope ["taster", "sets", "right", "depth", "members"] ["taster", "sets", "right"] (defScope s_offset_of) := ⟨rfl, rfl, rfl, by decide +kernel, rfl, by decide +kernel, by decide +kernel⟩
abbrev s_candidate_order : Stmt := topS 42
theorem sc_candidate_order : FnScope ["table", "sets", "right", "places", "offset", "group"] ["table"] (defScope s_candidate_order) := ⟨rfl, rfl, rfl, by decide +kernel, rfl, by decide +kernel, by decide +kernel⟩
abbrev s_flatten : Stmt := topS 43
theorem sc_flatten : FnScope ["sequence", "group", "taster"] ["sequence"] (defScope s_flatten) := ⟨rfl, rfl, rfl, by decide +kernel, rfl, by decide +kernel, by decide +kernel⟩
abbrev s_find_seating : Stmt := topS 44
theorem sc_find_seating : FnScope ["table", "order", "seating"] ["table"] (defScope s_find_seating) := ⟨rfl, rfl, rfl, by decide +kernel, rfl, by decide +kernel, by decide +kernel⟩
abbrev s_first_seating : Stmt := topS 55
theorem sc_first_seating : FnScope ["table", "seating"] ["table"] (defScope s_first_seating) := ⟨rfl, rfl, rfl, by decide +kernel, rfl, by decide +kernel, by decide +kernel⟩
abbrev s_best_dish : Stmt := topS 57
theorem sc_best_dish : FnScope ["ranking", "menu", "dish"] ["ranking", "menu"] (defScope s_best_dish) := ⟨rfl, rfl, rfl, by decide +kernel, rfl, by decide +kernel, by decide +kernel⟩
abbrev s_choices : Stmt := topS 58
theorem sc_choices : FnScope ["table", "menu", "ranking", "weight"] ["table", "menu"] (defScope s_choices) := ⟨rfl, rfl, rfl, by decide +kernel, rfl, by decide +kernel, by decide +kernel⟩
abbrev s_cost : Stmt := topS 59
theorem sc_cost : FnScope ["table", "menu", "chosen", "dish", "ranking", "weight"] ["table", "menu"] (defScope s_cost) := ⟨rfl, rfl, rfl, by decide +kernel, rfl, by decide +kernel, by decide +kernel⟩
abbrev s_line_support : Stmt := topS 61
theorem sc_line_support : FnScope ["line", "low", "high", "one", "other", "dish", "segments", "first", "last", "ranking"] ["line", "low", "high", "one", "other"] (defScope s_line_support) := ⟨rfl, rfl, rfl, by decide +kernel, rfl, by decide +kernel, by decide +kernel⟩
abbrev s_line_medians : Stmt := topS 62
theorem sc_line_medians : FnScope ["line", "low", "high", "segments", "result", "total", "first", "last", "ranking"] ["line", "low", "high"] (defScope s_line_medians) := ⟨rfl, rfl, rfl, by decide +kernel, rfl, by decide +kernel, by decide +kernel⟩
abbrev s_line_choices : Stmt := topS 63
theorem sc_line_choices : FnScope ["line", "low", "high", "menu", "result", "first", "last", "ranking", "dish"] ["line", "low", "high", "menu"] (defScope s_line_choices) := ⟨rfl, rfl, rfl, by decide +kernel, rfl, by decide +kernel, by decide +kernel⟩
abbrev s_line_cost : Stmt := topS 64
theorem sc_line_cost : FnScope ["line", "low", "high", "menu", "segments", "first", "last", "ranking"] ["line", "low", "high", "menu"] (defScope s_line_cost) := ⟨rfl, rfl, rfl, by decide +kernel, rfl, by decide +kernel, by decide +kernel⟩
abbrev s_merge_ranges : Stmt := topS 65
theorem sc_merge_ranges : FnScope ["ranges", "result", "first", "last"] ["ranges"] (defScope s_merge_ranges) := ⟨rfl, rfl, rfl, by decide +kernel, rfl, by decide +kernel, by decide +kernel⟩
abbrev s_line_insert_ranges : Stmt := topS 66
theorem sc_line_insert_ranges : FnScope ["line", "low", "high", "ranking", "segments", "head", "tail", "result", "previous", "first", "last", "own"] ["line", "low", "high", "ranking"] (defScope s_line_insert_ranges) := ⟨rfl, rfl, rfl, by decide +kernel, rfl, by decide +kernel, by decide +kernel⟩
abbrev s_line_table : Stmt := topS 67
theorem sc_line_table : FnScope ["line", "places", "t"] ["line", "places"] (defScope s_line_table) := ⟨rfl, rfl, rfl, by decide +kernel, rfl, by decide +kernel, by decide +kernel⟩
abbrev s_extend : Stmt := topS 69
theorem sc_extend : FnScope ["table", "ranking"] ["table", "ranking"] (defScope s_extend) := ⟨rfl, rfl, rfl, by decide +kernel, rfl, by decide +kernel, by decide +kernel⟩
abbrev s_positions : Stmt := topS 70
theorem sc_positions : FnScope ["table", "seating", "ranking", "wider", "new", "k"] ["table", "seating", "ranking"] (defScope s_positions) := ⟨rfl, rfl, rfl, by decide +kernel, rfl, by decide +kernel, by decide +kernel⟩
abbrev s_insert_positions : Stmt := topS 71
theorem sc_insert_positions : FnScope ["table", "ranking", "seating"] ["table", "ranking"] (defScope s_insert_positions) := ⟨rfl, rfl, rfl, by decide +kernel, rfl, by decide +kernel, by decide +kernel⟩
abbrev s_group_order : Stmt := topS 73
theorem sc_group_order : FnScope ["table", "seating", "order"] ["table"] (defScope s_group_order) := ⟨rfl, rfl, rfl, by decide +kernel, rfl, by decide +kernel, by decide +kernel⟩
abbrev s_check_dishes : Stmt := topS 75
theorem sc_check_dishes : FnScope ["dishes", "one", "other"] ["dishes", "one", "other"] (defScope s_check_dishes) := ⟨rfl, rfl, rfl, by decide +kernel, rfl, by decide +kernel, by decide +kernel⟩
abbrev s_support : Stmt := topS 76
theorem sc_support : FnScope ["table", "one", "other", "ranking", "weight"] ["table", "one", "other"] (defScope s_support) := ⟨rfl, rfl, rfl, by decide +kernel, rfl, by decide +kernel, by decide +kernel⟩
abbrev s_medians_of : Stmt := topS 77
theorem sc_medians_of : FnScope ["rows", "whole", "result", "seen", "ranking", "weight"] ["rows"] (defScope s_medians_of) := ⟨rfl, rfl, rfl, by decide +kernel, rfl, by decide +kernel, by decide +kernel⟩
abbrev s_medians : Stmt := topS 78
theorem sc_medians : FnScope ["table", "rows", "group", "taster"] ["table"] (defScope s_medians) := ⟨rfl, rfl, rfl, by decide +kernel, rfl, by decide +kernel, by decide +kernel⟩
abbrev s__law_deck : Stmt := topS 80
theorem sc__law_deck : FnScope ["_law_script", "_law_cells", "_law_cell"] ["_law_script"] (defScope s__law_deck) := ⟨rfl, rfl, rfl, by decide +kernel, rfl, by decide +kernel, by decide +kernel⟩
abbrev s__law_next : Stmt := topS 81
theorem sc__law_next : FnScope ["_law_deck_here", "_law_many", "_law_rest", "_law_cell", "_law_mixed"] ["_law_deck_here", "_law_many"] (defScope s__law_next) := ⟨rfl, rfl, rfl, by decide +kernel, rfl, by decide +kernel, by decide +kernel⟩
abbrev s__law_one : Stmt := topS 82
theorem sc__law_one : FnScope ["_law_deck_here", "_law_some"] ["_law_deck_here", "_law_some"] (defScope s__law_one) := ⟨rfl, rfl, rfl, by decide +kernel, rfl, by decide +kernel, by decide +kernel⟩
abbrev s__law_same : Stmt := topS 83
theorem sc__law_same : FnScope ["_law_found", "_law_due", "_law_k"] ["_law_found", "_law_due"] (defScope s__law_same) := ⟨rfl, rfl, rfl, by decide +kernel, rfl, by decide +kernel, by decide +kernel⟩
abbrev s__law_list : Stmt := topS 84
theorem sc__law_list : FnScope ["_law_deck_here", "_law_dishes", "_law_left", "_law_found"] ["_law_deck_here", "_law_dishes"] (defScope s__law_list) := ⟨rfl, rfl, rfl, by decide +kernel, rfl, by decide +kernel, by decide +kernel⟩
abbrev s__law_exchanged : Stmt := topS 85
theorem sc__law_exchanged : FnScope ["_law_row", "_law_k"] ["_law_row", "_law_k"] (defScope s__law_exchanged) := ⟨rfl, rfl, rfl, by decide +kernel, rfl, by decide +kernel, by decide +kernel⟩
abbrev s__law_line : Stmt := topS 86
theorem sc__law_line : FnScope ["_law_deck_here", "_law_dishes", "_law_high", "_law_steep", "_law_found", "_law_dish", "_law_height", "_law_slope"] ["_law_deck_here", "_law_dishes"] (defScope s__law_line) := ⟨rfl, rfl, rfl, by decide +kernel, rfl, by decide +kernel, by decide +kernel⟩
abbrev s__law_meeting : Stmt := topS 87
theorem sc__law_meeting : FnScope ["_law_deck_here", "_law_line_here", "_law_one_here", "_law_other", "_law_place"] ["_law_deck_here", "_law_line_here"] (defScope s__law_meeting) := ⟨rfl, rfl, rfl, by decide +kernel, rfl, by decide +kernel, by decide +kernel⟩
abbrev s__law_changes : Stmt := topS 88
theorem sc__law_changes : FnScope ["_law_rows", "_law_low", "_law_found", "_law_k", "_law_pair"] ["_law_rows", "_law_low"] (defScope s__law_changes) := ⟨rfl, rfl, rfl, by decide +kernel, rfl, by decide +kernel, by decide +kernel⟩
abbrev s__law_runs_of : Stmt := topS 89
theorem sc__law_runs_of : FnScope ["_law_rows", "_law_low", "_law_found", "_law_k", "_law_row"] ["_law_rows", "_law_low"] (defScope s__law_runs_of) := ⟨rfl, rfl, rfl, by decide +kernel, rfl, by decide +kernel, by decide +kernel⟩
abbrev s__law_menus_right : Stmt := topS 90
theorem sc__law_menus_right : FnScope ["_law_deck_here", "_law_line_here", "_law_low", "_law_high", "_law_table", "_law_menu", "_law_told", "_law_due", "_law_dish", "_law_first", "_law_last"] ["_law_deck_here", "_law_line_here", "_law_low", "_law_high", "_law_table"] (defScope s__law_menus_right) := ⟨rfl, rfl, rfl, by decide +kernel, rfl, by decide +kernel, by decide +kernel⟩
abbrev s__law_inserts_right : Stmt := topS 91
theorem sc__law_inserts_right : FnScope ["_law_deck_here", "_law_line_here", "_law_low", "_law_table", "_law_rows", "_law_row", "_law_found", "_law_first", "_law_last", "_law_t"] ["_law_deck_here", "_law_line_here", "_law_low", "_law_table"] (defScope s__law_inserts_right) := ⟨rfl, rfl, rfl, by decide +kernel, rfl, by decide +kernel, by decide +kernel⟩
abbrev s_law : Stmt := topS 92
theorem sc_law : FnScope ["_law_script", "_law_deck_here", "_law_turn", "_law_line_here", "_law_many", "_law_low", "_law_high", "_law_table", "_law_rows", "_law_one_here", "_law_other"] ["_law_script"] (defScope s_law) := ⟨rfl, rfl, rfl, by decide +kernel, rfl, by decide +kernel, by decide +kernel⟩
/-- what the top leaves -/
structure Tx (K : PySem.W.Frag) (mg : Str → Option Value) : Prop where
  a_is_integer_in : At K mg "is_integer_in" s_is_integer_in ["value", "low", "high"]
  a_is_ascending : At K mg "is_ascending" s_is_ascending ["items"]
  a_is_ranking : At K mg "is_ranking" s_is_ranking ["dishes", "value"]
  a_all_pairs : At K mg "all_pairs" s_all_pairs ["dishes"]
  a_prefers : At K mg "prefers" s_prefers ["ranking", "one", "other"]
  a_positions_of : At K mg "positions_of" s_positions_of ["ranking"]
  a_differences : At K mg "differences" s_differences ["one", "other"]
  a_distance : At K mg "distance" s_distance ["one", "other"]
  a_is_between : At K mg "is_between" s_is_between ["one", "other", "third"]
  a_ranking_of_place : At K mg "ranking_of_place" s_ranking_of_place ["line", "t"]
  a_check_span : At K mg "check_span" s_check_span ["low", "high"]
  a_change_of : At K mg "change_of" s_change_of ["line", "pair"]
  a_line_changes : At K mg "line_changes" s_line_changes ["line", "low", "high"]
  a_line_distance : At K mg "line_distance" s_line_distance ["line", "low", "high"]
  a_line_segments : At K mg "line_segments" s_line_segments ["line", "low", "high"]
  a_rankings_of : At K mg "rankings_of" s_rankings_of ["table"]
  a_groups : At K mg "groups" s_groups ["table"]
  a_is_menu_of : At K mg "is_menu_of" s_is_menu_of ["dishes", "value"]
  a_check_menu : At K mg "check_menu" s_check_menu ["dishes", "menu"]
  a_is_order_of : At K mg "is_order_of" s_is_order_of ["count", "value"]
  a_changes_once : At K mg "changes_once" s_changes_once ["rankings", "order"]
  a_is_seating : At K mg "is_seating" s_is_seating ["table", "value"]
  a_splits_with_pairs : At K mg "splits_with_pairs" s_splits_with_pairs ["rankings", "taster"]
  a_splits : At K mg "splits" s_splits ["table", "taster"]
  a_largest : At K mg "largest" s_largest ["sets"]
  a_offset_of : At K mg "offset_of" s_offset_of ["taster", "sets", "right"]
  a_candidate_order : At K mg "candidate_order" s_candidate_order ["table"]
  a_flatten : At K mg "flatten" s_flatten ["sequence"]
  a_find_seating : At K mg "find_seating" s_find_seating ["table"]
  a_first_seating : At K mg "first_seating" s_first_seating ["table"]
  a_best_dish : At K mg "best_dish" s_best_dish ["ranking", "menu"]
  a_choices : At K mg "choices" s_choices ["table", "menu"]
  a_cost : At K mg "cost" s_cost ["table", "menu"]
  a_line_support : At K mg "line_support" s_line_support ["line", "low", "high", "one", "other"]
  a_line_medians : At K mg "line_medians" s_line_medians ["line", "low", "high"]
  a_line_choices : At K mg "line_choices" s_line_choices ["line", "low", "high", "menu"]
  a_line_cost : At K mg "line_cost" s_line_cost ["line", "low", "high", "menu"]
  a_merge_ranges : At K mg "merge_ranges" s_merge_ranges ["ranges"]
  a_line_insert_ranges : At K mg "line_insert_ranges" s_line_insert_ranges ["line", "low", "high", "ranking"]
  a_line_table : At K mg "line_table" s_line_table ["line", "places"]
  a_extend : At K mg "extend" s_extend ["table", "ranking"]
  a_positions : At K mg "positions" s_positions ["table", "seating", "ranking"]
  a_insert_positions : At K mg "insert_positions" s_insert_positions ["table", "ranking"]
  a_group_order : At K mg "group_order" s_group_order ["table"]
  a_check_dishes : At K mg "check_dishes" s_check_dishes ["dishes", "one", "other"]
  a_support : At K mg "support" s_support ["table", "one", "other"]
  a_medians_of : At K mg "medians_of" s_medians_of ["rows"]
  a_medians : At K mg "medians" s_medians ["table"]
  a__law_deck : At K mg "_law_deck" s__law_deck ["_law_script"]
  a__law_next : At K mg "_law_next" s__law_next ["_law_deck_here", "_law_many"]
  a__law_one : At K mg "_law_one" s__law_one ["_law_deck_here", "_law_some"]
  a__law_same : At K mg "_law_same" s__law_same ["_law_found", "_law_due"]
  a__law_list : At K mg "_law_list" s__law_list ["_law_deck_here", "_law_dishes"]
  a__law_exchanged : At K mg "_law_exchanged" s__law_exchanged ["_law_row", "_law_k"]
  a__law_line : At K mg "_law_line" s__law_line ["_law_deck_here", "_law_dishes"]
  a__law_meeting : At K mg "_law_meeting" s__law_meeting ["_law_deck_here", "_law_line_here"]
  a__law_changes : At K mg "_law_changes" s__law_changes ["_law_rows", "_law_low"]
  a__law_runs_of : At K mg "_law_runs_of" s__law_runs_of ["_law_rows", "_law_low"]
  a__law_menus_right : At K mg "_law_menus_right" s__law_menus_right ["_law_deck_here", "_law_line_here", "_law_low", "_law_high", "_law_table"]
  a__law_inserts_right : At K mg "_law_inserts_right" s__law_inserts_right ["_law_deck_here", "_law_line_here", "_law_low", "_law_table"]
  a_law : At K mg "law" s_law ["_law_script"]
  b_len : mg "len" = none
  b_isinstance : mg "isinstance" = none
  b_all : mg "all" = none
  b_zip : mg "zip" = none
  b_range : mg "range" = none
  b_enumerate : mg "enumerate" = none
  b_sorted : mg "sorted" = none
  b_tuple : mg "tuple" = none
  b_set : mg "set" = none
  b_list : mg "list" = none
  b_min : mg "min" = none
  b_max : mg "max" = none
  b_abs : mg "abs" = none
  b_sum : mg "sum" = none
  b_int : mg "int" = none
  b_bool : mg "bool" = none
  b_dict : mg "dict" = none
  b_str : mg "str" = none
  c_MW : ∃ t, mg "MAX_WEIGHT" = some (.int 1000000000000 t)
  c_MT : ∃ t, mg "MAX_TASTERS" = some (.int 16 t)
end TR
set_option Elab.async false
set_option linter.all false
set_option maxRecDepth 100000
set_option maxHeartbeats 1000000
/-! P1: rankings -/
namespace TR
open PySem PySem.Spec PyProof.Rows L2 DL
def intD (i : Int) : D := .int i
def rD (q : Bool × List Nat) : D := .tup q.1 ((iN q.2).map .int)
abbrev pairD (p : Nat × Nat) : D := keyD [(p.1 : Int), (p.2 : Int)]
def ascI (ns : List Int) : Bool := (ns.zip ns.tail).all fun q => decide (q.1 < q.2)
theorem idx_pos (r : List Nat) (x : Nat) : idx (iN r) (x : Int) = pos r x := by
  unfold idx pos iN
  rw [List.findIdx_map]
  congr 1
  funext y
  show ((y : Int) == (x : Int)) = (y == x)
  by_cases h : y = x
  · simp [h]
  · have h2 : ¬ (y : Int) = x := by omega
    rw [beq_eq_false_iff_ne.mpr h, beq_eq_false_iff_ne.mpr h2]
theorem mem_iN {r : List Nat} {x : Nat} : (x : Int) ∈ iN r ↔ x ∈ r := by
  unfold iN
  constructor
  · intro h
    obtain ⟨y, hy, e⟩ := List.mem_map.mp h
    have : y = x := by omega
    exact this ▸ hy
  · intro h
    exact List.mem_map.mpr ⟨x, h, rfl⟩
theorem iN_len (r : List Nat) : (iN r).length = r.length := by simp [iN]
section
variable {P : Program} {w : World} {K : PySem.W.Frag} {mg : Str → Option Value} {base : Heap} (T : Tx K mg)
include T
theorem d_is_integer_in (v lo hi : Int) : DFn P w K mg base 1 "is_integer_in" [.int v, .int lo, .int hi] (.bool (decide (lo ≤ v) && decide (v ≤ hi))) := by
  refine fnD T.a_is_integer_in sc_is_integer_in _ _ rfl (by decide) fun f cdv A outer s H E hr => ?_
  have nd := sc_is_integer_in.nd
  refine sb_one (sj_ret (x := .bool (decide (lo ≤ v) && decide (v ≤ hi))) ((ee_and (t := true) (ee_isi T.b_isinstance T.b_int boot_int (ee_var 0 rfl) k_ii) fun _ => ee_and (t := true) (ee_not (t := false) (ee_isi T.b_isinstance T.b_bool boot_bool (ee_var 0 rfl) k_ib)) fun _ => ee_one (ee_chain od_le od_le (ee_var 1 rfl) (ee_var 0 rfl) fun _ => ee_var 2 rfl))) rfl)
theorem d_is_ascending (ns : List Int) (hl : ns.length ≤ 1000) : DFn P w K mg base 1 "is_ascending" [.tuple (ns.map .int)] (.bool (ascI ns)) := by
  refine fnD T.a_is_ascending sc_is_ascending _ _ rfl (by decide) fun f cdv A outer s H E hr => ?_
  have nd := sc_is_ascending.nd
  refine sb_one (sj_ret (ee_all (bs := (ns.zip ns.tail).map fun q => decide (q.1 < q.2)) T.b_all (ea_cons (EE.to (ee_lcm (own := [("one", 1), ("other", 2)]) (ns.zip ns.tail) (fun q => .tuple [.int q.1, .int q.2]) (fun q => .bool (decide (q.1 < q.2))) (ei_zipT T.b_zip (ee_var 0 rfl) (ee_slT (i := some 1) (j := none) (ee_var 0 rfl) ee_int trivial)) ?_ (by kernel_rfl) rfl ?_ fun q hq => ?_) ?_) ea_nil)) ?_)
  · by_cases h : 1 ≤ ns.length
    · have e := cutD_drop (xs := ns.map D.int) (k := 1) (by simpa using h)
      rw [show ((1 : Nat) : Int) = 1 from rfl] at e
      rw [e]
      unfold zipD
      rw [List.drop_one, ← List.map_tail, List.zip_map, List.map_map]
      rfl
    · have : ns = [] := List.length_eq_zero_iff.mp (by omega)
      subst this
      rfl
  · rw [List.length_zip]
    omega
  · exact ⟨((startS ["items", "one", "other"] [.tuple (ns.map .int)]).set 1 (.d (.int q.1))).set 2 (.d (.int q.2)), fun s H C cl fp => ⟨gj_tup (gjs_cons (gj_name 1) (gjs_cons (gj_name 2) gjs_nil)), rfl, ee_cmpD od_lt (nomark _) (ee_var 1 rfl) (ee_var 2 rfl)⟩⟩
  · rw [List.map_map]; rfl
  · rw [List.all_map]; rfl
theorem d_all_pairs (d : Nat) (hd : d ≤ 64) : DFn P w K mg base 1 "all_pairs" [.int d] (.list ((pairs d).map pairD)) := by
  refine fnD T.a_all_pairs sc_all_pairs _ _ rfl (by decide) fun f cdv A outer s H E hr => ?_
  have nd := sc_all_pairs.nd
  refine sb_one (sj_ret (EE.to (EE.of_o (eo_lc2 (own := [("a", 1), ("b", 2)]) (vs1 := [2]) (List.range d) (fun a => .int (a : Nat)) (fun a => List.range (d - (a + 1))) (fun a i => .int ((a + 1 + i : Nat) : Int)) (fun a i => pairD (a, a + 1 + i)) (EI.toL (ei_range1 T.b_range (ee_var 0 rfl)) ?_) (by kernel_rfl) rfl (by decide) ?_ fun a ha => ?_)) ?_) rfl)
  · unfold rangeD
    rw [Int.toNat_natCast]
    exact List.map_congr_left fun i _ => by rw [Int.zero_add]
  · rw [List.length_flatMap]
    have : ∀ l : List Nat, (l.map fun a => ((List.range (d - (a + 1))).map fun i => pairD (a, a + 1 + i)).length).sum ≤ 64 * l.length := fun l => by
      induction l with
      | nil => exact Nat.le_refl _
      | cons a l ih =>
        simp only [List.map_cons, List.sum_cons, List.length_cons, List.length_map, List.length_range] at ih ⊢
        omega
    have h2 := this (List.range d)
    rw [List.length_range] at h2
    omega
  · have had := List.mem_range.mp ha
    refine ⟨(startS ["dishes", "a", "b"] [.int d]).set 1 (.d (.int (a : Nat))), fun i => ((startS ["dishes", "a", "b"] [.int d]).set 1 (.d (.int (a : Nat)))).set 2 (.d (.int ((a + 1 + i : Nat) : Int))), fun s H C cl fp => ⟨gj_name 1, rfl, rfl, EI.toL (ei_range2 T.b_range (ee_opD od_add (ee_var 1 rfl) ee_int) (ee_var 0 rfl) (by omega)) ?_, fun i hi => ⟨gj_name 2, rfl, ee_tup (xs := [.int (a : Nat), .int ((a + 1 + i : Nat) : Int)]) (ea_cons (ee_var 1 rfl) (ea_cons (ee_var 2 rfl) ea_nil))⟩⟩⟩
    unfold rangeD
    have e : ((d : Int) - ((a : Nat) + 1)).toNat = d - (a + 1) := by omega
    rw [e]
    exact List.map_congr_left fun i _ => by rw [show ((a + 1 + i : Nat) : Int) = (a : Nat) + 1 + (i : Nat) from by omega]
  · unfold pairs
    rw [List.map_flatMap]
    congr 1
    refine congrArg (fun g => (List.range d).flatMap g) (funext fun a => ?_)
    rw [List.map_map]
    rfl
theorem d_prefers (r : List Nat) (a b : Nat) (ha : a ∈ r) (hb : b ∈ r) : DFn P w K mg base 1 "prefers" [rD (true, r), .int a, .int b] (.bool (before r (a, b))) := by
  refine fnD T.a_prefers sc_prefers _ _ rfl (by decide) fun f cdv A outer s H E hr => ?_
  have nd := sc_prefers.nd
  refine sb_one (sj_ret (ee_cmpD od_lt (nomark _) (ee_index (ns := iN r) (ee_var 0 rfl) (ee_var 1 rfl) (mem_iN.mpr ha)) (ee_index (ns := iN r) (ee_var 0 rfl) (ee_var 2 rfl) (mem_iN.mpr hb))) ?_)
  rw [idx_pos, idx_pos]
  unfold before
  congr 1
  simp
end
end TR
set_option Elab.async false
set_option linter.all false
set_option maxRecDepth 100000
set_option maxHeartbeats 1000000
/-! P2: rankings, lines -/
namespace TR
open PySem PySem.Spec PyProof.Rows L2 DL
def lineD (L : Line) : D := .tuple (L.map fun p => .tuple [.int p.1, .int p.2])
def optD : Option Int → D
  | some i => .int i
  | none => .none
theorem atI_nat {α : Type} {xs : List α} {n : Nat} {x : α} (h : xs[n]? = some x) : atI xs (n : Int) = some x := by
  have hl := (List.getElem?_eq_some_iff.mp h).1
  unfold atI ixN
  rw [if_pos (by omega), if_pos (by omega)]
  show xs[(n : Int).toNat]? = some x
  rw [Int.toNat_natCast]
  exact h
theorem ixN_nat {n k : Nat} (h : k < n) : ixN n (k : Int) = some k := by
  unfold ixN
  rw [if_pos (by omega), if_pos (by omega)]
  rfl
theorem rD_len (q : Bool × List Nat) : ((iN q.2).map D.int).length = q.2.length := by simp [iN]
theorem iN_get {r : List Nat} {i x : Nat} (h : r[i]? = some x) : (iN r)[i]? = some (x : Int) := by
  unfold iN
  rw [List.getElem?_map, h]
  rfl
theorem iND_get {r : List Nat} {i x : Nat} (h : r[i]? = some x) : ((iN r).map D.int)[i]? = some (.int x) := by
  rw [List.getElem?_map, iN_get h]
  rfl
section
variable {P : Program} {w : World} {K : PySem.W.Frag} {mg : Str → Option Value} {base : Heap} (T : Tx K mg)
include T
theorem d_int_in {v lo hi : Int} (h1 : lo ≤ v) (h2 : v ≤ hi) : DFn P w K mg base 1 "is_integer_in" [.int v, .int lo, .int hi] (.bool true) :=
  (d_is_integer_in T v lo hi).to rfl (by rw [decide_eq_true h1, decide_eq_true h2]; rfl)
theorem d_positions_of (d : Nat) (q : Bool × List Nat) (hq : IsRk d q.2) (hd : d ≤ 8) : DFn P w K mg base 1 "positions_of" [rD q] (.list ((iN (posL q.2)).map .int)) := by
  refine fnD T.a_positions_of sc_positions_of _ _ rfl (by decide) fun f cdv A outer s H E hr => ?_
  have nd := sc_positions_of.nd
  have hl := hq.len
  refine sb_cons (sj_own 1 (xs := (iN (posP q.2 0)).map .int) (EO.to (eo_rep (n := q.2.length) (by omega) (EE.of_o (eo_lst (ea_cons ee_int ea_nil))) (EE.to (ee_lenT T.b_len (ea_cons (ee_var 0 rfl) ea_nil)) (by rw [rD_len]))) ?_) ?_)
  · rw [posP_zero]; simp [iN]
  · refine sb_cons (sj_for (ei_enumT T.b_enumerate (ee_var 0 rfl)) (fun i ρ => ∃ x y, ρ = [.d (rD q), .own ((iN (posP q.2 i)).map .int), x, y]) ⟨_, _, rfl⟩ (fun i y ρ hy hI => ?_) fun ρ hI => ?_)
    · obtain ⟨x, z, rfl⟩ := hI
      obtain ⟨v, hv, rfl⟩ := enumD_get hy
      have hi : i < q.2.length := by
        have := (List.getElem?_eq_some_iff.mp hv).1
        rw [rD_len] at this
        exact this
      have hx := List.getElem?_eq_getElem hi
      have e := iND_get hx
      rw [e] at hv
      cases hv
      have hlt := hq.mem.mp (List.getElem_mem hi)
      refine ⟨[2, 3], [.d (rD q), .own ((iN (posP q.2 i)).map .int), .d (.int i), .d (.int (q.2[i] : Nat))], gj_tup (gjs_cons (gj_name 2) (gjs_cons (gj_name 3) gjs_nil)), sb_one (sj_setAt 1 (ee_var 2 rfl) (ee_var 3 rfl) (ixN_nat ?_) ⟨.d (.int i), .d (.int (q.2[i] : Nat)), ?_⟩)⟩
      · rw [List.length_map, iN_len]; unfold posP; rw [List.length_map, List.length_range]; omega
      rw [← posP_step hq hx]
      simp [iN, List.map_set]
    · obtain ⟨x, z, rfl⟩ := hI
      refine sb_one (sj_ret (ee_froz 1 rfl) ?_)
      rw [enumD_len, rD_len, posP_end hq]
theorem d_is_ranking (d : Nat) (q : Bool × List Nat) (hq : IsRk d q.2) (hd : d ≤ 8) : DFn P w K mg base 2 "is_ranking" [.int d, rD q] (.bool true) := by
  refine fnD T.a_is_ranking sc_is_ranking _ _ rfl (by decide) fun f cdv A outer s H E hr => ?_
  have nd := sc_is_ranking.nd
  have hl := hq.len
  refine sb_cons (sj_if (et_or2 (et_not (et_val (t := true) (ee_isi T.b_isinstance T.b_tuple boot_tuple (ee_var 1 rfl) k_tt))) fun _ => et_cmpD (od_nei) (nomark _) (EE.to (ee_lenT T.b_len (ea_cons (ee_var 1 rfl) ea_nil)) (by rw [rD_len, hl])) (ee_var 0 rfl)) (fun h => ?_) fun _ => ?_)
  · simp at h
  · refine sb_nil (sb_one (sj_ret (ee_and2 (t := true) (u := true) (EE.to (ee_all (bs := q.2.map fun _ => true) T.b_all (ea_cons (EE.to (ee_lcm (own := [("dish", 2)]) q.2 (fun x => .int (x : Nat)) (fun _ => .bool true) (ei_tup (ee_var 1 rfl)) ?_ (by kernel_rfl) rfl ?_ fun x hx => ?_) ?_) ea_nil)) ?_) fun _ => EE.to (ee_cmpD od_eqi (nomark _) (ee_lenSet (ns := iN q.2) T.b_len T.b_set (ee_var 1 rfl) ?_ ?_) (ee_var 0 rfl)) ?_) rfl))
    · simp [iN]
    · omega
    · have hlt := hq.mem.mp hx
      exact ⟨(startS ["dishes", "value", "dish"] [.int d, rD q]).set 2 (.d (.int (x : Nat))), fun s H C cl fp => ⟨gj_name 2, rfl, ee_call (d_int_in T (by omega) (by omega)) hr (ea_cons (ee_var 2 rfl) (ea_cons ee_int (ea_cons (ee_opD od_sub (ee_var 0 rfl) ee_int) ea_nil)))⟩⟩
    · rw [List.map_map]; rfl
    · simp
    · unfold iN
      exact List.Pairwise.map _ (fun a b h => by omega) hq.nodup
    · rw [iN_len]; omega
    · simp [iN_len, hl]
theorem d_differences (d : Nat) (q u : Bool × List Nat) (hq : IsRk d q.2) (hu : IsRk d u.2) (hd : d ≤ 8) : DFn P w K mg base 2 "differences" [rD q, rD u] (.tuple ((diffs d q.2 u.2).map pairD)) := by
  refine fnD T.a_differences sc_differences _ _ rfl (by decide) fun f cdv A outer s H E hr => ?_
  have nd := sc_differences.nd
  have hl := hq.len
  refine sb_cons (sj_unpack (vs := [2, 3]) (ee_tup (ea_cons (ee_call (d_positions_of T d q hq hd) hr (ea_cons (ee_var 0 rfl) ea_nil)) (ea_cons (ee_call (d_positions_of T d u hu hd) hr (ea_cons (ee_var 1 rfl) ea_nil)) ea_nil))) (gj_tup (gjs_cons (gj_name 2) (gjs_cons (gj_name 3) gjs_nil))) (sb_one (sj_ret (ee_tupL T.b_tuple (ea_cons (EE.to (ee_lcf (own := [("a", 4), ("b", 5)]) (pairs d) pairD (fun p => before q.2 p != before u.2 p) pairD (ei_list (ee_call (d_all_pairs T d (by omega)) hr (ea_cons (EE.to (ee_lenT T.b_len (ea_cons (ee_var 0 rfl) ea_nil)) (by rw [rD_len, hl])) ea_nil))) rfl (by kernel_rfl) rfl ?_ fun p hp => ?_) rfl) ea_nil)) rfl)))
  · have := pairs_len d hd; omega
  · obtain ⟨h1, h2⟩ := mem_pairs.mp hp
    refine ⟨[.d (rD q), .d (rD u), .d (.list ((iN (posL q.2)).map .int)), .d (.list ((iN (posL u.2)).map .int)), .d (.int (p.1 : Nat)), .d (.int (p.2 : Nat))], fun s H C cl fp => ⟨gj_tup (gjs_cons (gj_name 4) (gjs_cons (gj_name 5) gjs_nil)), rfl, ET.to (et_cmpD od_neb (nomark _) (ee_cmpD od_lt (nomark _) (ee_ixL (ee_var 2 rfl) (ee_var 4 rfl) (atI_nat (iND_get (posL_get hq (by omega))))) (ee_ixL (ee_var 2 rfl) (ee_var 5 rfl) (atI_nat (iND_get (posL_get hq h2))))) (ee_cmpD od_lt (nomark _) (ee_ixL (ee_var 3 rfl) (ee_var 4 rfl) (atI_nat (iND_get (posL_get hu (by omega))))) (ee_ixL (ee_var 3 rfl) (ee_var 5 rfl) (atI_nat (iND_get (posL_get hu h2)))))) ?_, fun _ => ee_tup (xs := [.int (p.1 : Nat), .int (p.2 : Nat)]) (ea_cons (ee_var 4 rfl) (ea_cons (ee_var 5 rfl) ea_nil))⟩⟩
    unfold before
    have e1 : decide (((pos q.2 p.1 : Nat) : Int) < (pos q.2 p.2 : Nat)) = decide (pos q.2 p.1 < pos q.2 p.2) := by simp
    have e2 : decide (((pos u.2 p.1 : Nat) : Int) < (pos u.2 p.2 : Nat)) = decide (pos u.2 p.1 < pos u.2 p.2) := by simp
    rw [e1, e2]
    cases decide (pos q.2 p.1 < pos q.2 p.2) <;> cases decide (pos u.2 p.1 < pos u.2 p.2) <;> rfl
theorem d_distance (d : Nat) (q u : Bool × List Nat) (hq : IsRk d q.2) (hu : IsRk d u.2) (hd : d ≤ 8) : DFn P w K mg base 3 "distance" [rD q, rD u] (.int (dist d q.2 u.2)) := by
  refine fnD T.a_distance sc_distance _ _ rfl (by decide) fun f cdv A outer s H E hr => ?_
  have nd := sc_distance.nd
  exact sb_one (sj_ret (EE.to (ee_lenT T.b_len (ea_cons (ee_call (d_differences T d q u hq hu hd) hr (ea_cons (ee_var 0 rfl) (ea_cons (ee_var 1 rfl) ea_nil))) ea_nil)) (by simp [dist])) rfl)
theorem d_is_between (d : Nat) (q u v : Bool × List Nat) (hq : IsRk d q.2) (hu : IsRk d u.2) (hv : IsRk d v.2) (hd : d ≤ 8) : DFn P w K mg base 4 "is_between" [rD q, rD u, rD v] (.bool (betw d q.2 u.2 v.2)) := by
  refine fnD T.a_is_between sc_is_between _ _ rfl (by decide) fun f cdv A outer s H E hr => ?_
  have nd := sc_is_between.nd
  refine sb_one (sj_ret (ee_cmpD od_eqi (nomark _) (ee_opD od_add (ee_call (d_distance T d q v hq hv hd) hr (ea_cons (ee_var 0 rfl) (ea_cons (ee_var 2 rfl) ea_nil))) (ee_call (d_distance T d v u hv hu hd) hr (ea_cons (ee_var 2 rfl) (ea_cons (ee_var 1 rfl) ea_nil)))) (ee_call (d_distance T d q u hq hu hd) hr (ea_cons (ee_var 0 rfl) (ea_cons (ee_var 1 rfl) ea_nil)))) ?_)
  unfold betw
  congr 1
  rw [decide_eq_decide]
  omega
end
end TR
set_option Elab.async false
set_option linter.all false
set_option maxRecDepth 100000
set_option maxHeartbeats 1000000
/-! P3: lines -/
namespace TR
open PySem PySem.Spec PyProof.Rows L2 DL
def wD (b : Int × Nat) : D := .tuple [.int b.1, .int b.2]
def cD (x : Chg) : D := .tuple [.int x.1, pairD x.2]
def segD (s : Seg) : D := .tuple [.int s.1, .int s.2.1, rD (true, s.2.2)]
theorem wD_py (b : Int × Nat) : toPy (wD b) = .tuple [.int b.1, .int b.2] := by simp [wD, toPy, toPyA]
theorem cD_py (b : Chg) : toPy (cD b) = .tuple [.int b.1, .tuple [.int b.2.1, .int b.2.2]] := by simp [cD, keyD, toPy, toPyA]
theorem leW_eq : (PySem.W.dataLe false fun b => toPy (wD b)) = leW := by
  have e : (fun b : Int × Nat => toPy (wD b)) = fun b => .tuple [.int b.1, .int (b.2 : Int)] := funext wD_py
  rw [e, PySem.W.dataLe_ii (fun b : Int × Nat => b.1) (fun b => (b.2 : Int))]
  rfl
theorem leC_eq : (PySem.W.dataLe false fun b => toPy (cD b)) = leC := by
  have e : (fun b : Chg => toPy (cD b)) = fun b => .tuple [.int b.1, .tuple [.int (b.2.1 : Int), .int (b.2.2 : Int)]] := funext cD_py
  rw [e, PySem.W.dataLe_eq]
  funext a b
  show (!PySem.W.dataLt _ _) = leC a b
  rw [PySem.W.dataLt_pair (by rfl) (by rfl), PySem.W.dataLt_ii]
  unfold leC
  obtain ⟨a1, a2, a3⟩ := a
  obtain ⟨b1, b2, b3⟩ := b
  have e1 : PySem.W.dataLt (.int b1) (.int a1) = decide (b1 < a1) := by
    have := PySem.W.dataLe_int (fun x : Int => x)
    rw [PySem.W.dataLe_eq] at this
    have h2 := congrFun (congrFun this a1) b1
    have h2 : (!PySem.W.dataLt (.int b1) (.int a1)) = decide (a1 ≤ b1) := h2
    have h3 : PySem.W.dataLt (.int b1) (.int a1) = !decide (a1 ≤ b1) := by rw [← h2, Bool.not_not]
    rw [h3]
    by_cases h : b1 < a1
    · rw [decide_eq_true h, decide_eq_false (by omega)]; rfl
    · rw [decide_eq_false h, decide_eq_true (by omega)]; rfl
  have e2 : PyData.eqv (.int b1) (.int a1) = decide (b1 = a1) := by
    have := DL.eqv_ints [b1] [a1]
    simp only [List.map_cons, List.map_nil, toPyA, toPy, PyData.eqvAll, Bool.and_true] at this
    rw [this]
    simp
  have e3 : PyData.eqv (.tuple [.int (b2 : Int), .int (b3 : Int)]) (.tuple [.int (a2 : Int), .int (a3 : Int)]) = decide (b2 = a2 ∧ b3 = a3) := by
    have := DL.eqv_tups (tb := false) (tc := false) [(b2 : Int), (b3 : Int)] [(a2 : Int), (a3 : Int)]
    simp only [List.map_cons, List.map_nil, toPyA, toPy] at this
    rw [this]
    rw [decide_eq_decide]
    simp only [List.cons.injEq, and_true]
    omega
  simp only [e1, e2, e3]
  by_cases h1 : b1 = a1
  · rw [decide_eq_true h1, if_pos rfl]
    by_cases h2 : b2 = a2 ∧ b3 = a3
    · rw [decide_eq_true h2, if_pos rfl]
      rw [decide_eq_true (show a1 < b1 ∨ a1 = b1 ∧ (a2 < b2 ∨ a2 = b2 ∧ a3 ≤ b3) from by omega)]
      rfl
    · rw [decide_eq_false h2, if_neg Bool.false_ne_true]
      by_cases h3 : (b2 : Int) < a2 ∨ (b2 : Int) = a2 ∧ (b3 : Int) < a3
      · rw [decide_eq_true h3, decide_eq_false (show ¬ (a1 < b1 ∨ a1 = b1 ∧ (a2 < b2 ∨ a2 = b2 ∧ a3 ≤ b3)) from by omega)]; rfl
      · rw [decide_eq_false h3, decide_eq_true (show (a1 < b1 ∨ a1 = b1 ∧ (a2 < b2 ∨ a2 = b2 ∧ a3 ≤ b3)) from by omega)]; rfl
  · rw [decide_eq_false h1, if_neg Bool.false_ne_true]
    by_cases h3 : b1 < a1
    · rw [decide_eq_true h3, decide_eq_false (show ¬ (a1 < b1 ∨ a1 = b1 ∧ (a2 < b2 ∨ a2 = b2 ∧ a3 ≤ b3)) from by omega)]; rfl
    · rw [decide_eq_false h3, decide_eq_true (show (a1 < b1 ∨ a1 = b1 ∧ (a2 < b2 ∨ a2 = b2 ∧ a3 ≤ b3)) from by omega)]; rfl
theorem alW (bs : List (Int × Nat)) : PySem.W.AllAlike (bs.map fun b => toPy (wD b)) := PySem.W.AllAlike.of fun b b' => by rw [wD_py, wD_py]; rfl
theorem soW (bs : List (Int × Nat)) : PySem.W.Sortable (bs.map fun b => toPy (wD b)) := PySem.W.Sortable.tuples fun b => by rw [wD_py]; exact ⟨_, _, rfl⟩
theorem alC (bs : List Chg) : PySem.W.AllAlike (bs.map fun b => toPy (cD b)) := PySem.W.AllAlike.of fun b b' => by rw [cD_py, cD_py]; rfl
theorem soC (bs : List Chg) : PySem.W.Sortable (bs.map fun b => toPy (cD b)) := PySem.W.Sortable.tuples fun b => by rw [cD_py]; exact ⟨_, _, rfl⟩
theorem okW (b : Int × Nat) : OkD 1 (wD b) := ok_pair
theorem okPair (p : Nat × Nat) : OkD 1 (pairD p) := ok_ints [(p.1 : Int), (p.2 : Int)]
theorem okC' (x : Chg) : OkD 2 (cD x) := .tup fun y hy => by
  rcases List.mem_cons.mp hy with rfl | hy
  · exact .int
  · rw [List.mem_singleton.mp hy]; exact okPair _
theorem line_get {L : Line} {i : Nat} (h : i < L.length) : (L.map fun p => DL.D.tuple [.int p.1, .int p.2])[i]? = some (.tuple [.int (L.getD i (0, 0)).1, .int (L.getD i (0, 0)).2]) := by
  rw [List.getElem?_map, List.getElem?_eq_getElem h, List.getD_eq_getElem?_getD, List.getElem?_eq_getElem h]
  rfl
theorem big41 {i : Int} (h : i.natAbs ≤ 10 ^ 12) : i.natAbs < 2 ^ 41 := Nat.lt_of_le_of_lt h (by decide)
section
variable {P : Program} {w : World} {K : PySem.W.Frag} {mg : Str → Option Value} {base : Heap} (T : Tx K mg)
include T
theorem d_ranking_of_place (L : Line) (hL : LineOk L) (t : Int) (h0 : 0 ≤ t) (h1 : t ≤ 10 ^ 12) : DFn P w K mg base 1 "ranking_of_place" [lineD L, .int t] (rD (true, rank L t)) := by
  refine fnD T.a_ranking_of_place sc_ranking_of_place _ _ rfl (by decide) fun f cdv A outer s H E hr => ?_
  have nd := sc_ranking_of_place.nd
  have h8 := hL.hi
  refine sb_cons (sj_setLc (own := [("dish", 3), ("height", 4), ("slope", 5)]) 2 (L.mapIdx fun i p => (i, p)) (fun q => .tuple [.int (q.1 : Nat), .tuple [.int q.2.1, .int q.2.2]]) (fun _ => true) (fun q => wD (worth q.2 t, q.1)) (EI.toL (ei_enumT T.b_enumerate (ee_var 0 rfl)) ?_) (by kernel_rfl) rfl ?_ (fun q hq => ?_) ?_)
  · unfold enumD
    apply List.ext_getElem
    · simp
    · intro i h1 h2; simp
  · simp; omega
  · have hm : q.2 ∈ L := by
      obtain ⟨i, hi, e⟩ := List.mem_mapIdx.mp hq
      rw [← e]; exact List.getElem_mem hi
    have hb := hL.bd _ hm
    refine ⟨[.d (lineD L), .d (.int t), .any, .d (.int (q.1 : Nat)), .d (.int q.2.1), .d (.int q.2.2), .any], fun s H C cl fp => ⟨gj_tup (gjs_cons (gj_name 3) (gjs_cons (gj_tup (gjs_cons (gj_name 4) (gjs_cons (gj_name 5) gjs_nil))) gjs_nil)), rfl, ets_nil, fun _ => ee_tup (xs := [.int (worth q.2 t), .int (q.1 : Nat)]) (ea_cons (ee_opD od_sub (ee_opD od_sub ee_int (ee_var 4 rfl)) (ee_opD (od_mulW ?_) (ee_var 5 rfl) (ee_var 1 rfl))) (ea_cons (ee_var 3 rfl) ea_nil))⟩⟩
    exact wide_mul (big41 hb.2) (big41 (show t.natAbs ≤ 10 ^ 12 from by omega)) (by decide) (by decide) (by decide)
  · rw [List.filter_eq_self.mpr fun _ _ => rfl]
    refine sb_one (sj_ret (EE.to (ee_tupP T.b_tuple (ea_cons (ee_lcm (own := [("worth", 6), ("dish", 3)]) ((worths L t).mergeSort leW) wD (fun b => .int (b.2 : Nat)) (ei_list (EE.of_o (eo_sorted wD (worths L t) leW T.b_sorted hr (EE.to (ee_var 2 rfl) ?_) leW_eq (alW _) (soW _) ?_ (fun b _ => ?_) fun b _ => (okW b).clean))) rfl (by kernel_rfl) rfl ?_ fun b hb => ?_) ea_nil)) ?_) rfl)
    · unfold worths
      congr 1
      apply List.ext_getElem
      · simp
      · intro i h1 h2; simp
    · simp [worths]; omega
    · have := (okW b).depth; omega
    · simp [worths]; omega
    · exact ⟨[.d (lineD L), .d (.int t), .d (.list ((L.mapIdx fun i p => (i, p)).map fun q => wD (worth q.2 t, q.1))), .d (.int (b.2 : Nat)), .any, .any, .d (.int b.1)], fun s H C cl fp => ⟨gj_tup (gjs_cons (gj_name 6) (gjs_cons (gj_name 3) gjs_nil)), rfl, ee_var 3 rfl⟩⟩
    · unfold rD rank iN
      rw [List.map_map, List.map_map]
      rfl
theorem d_check_span (low high : Int) (h0 : 0 ≤ low) (h1 : low ≤ high) (h2 : high ≤ 10 ^ 12) : DFn P w K mg base 2 "check_span" [.int low, .int high] .none := by
  refine fnD T.a_check_span sc_check_span _ _ rfl (by decide) fun f cdv A outer s H E hr => ?_
  have nd := sc_check_span.nd
  obtain ⟨tk, hmw⟩ := T.c_MW
  refine sb_one (sj_if (et_or2 (et_not (et_val (t := true) (ee_call (d_int_in T h0 (by omega)) hr (ea_cons (ee_var 0 rfl) (ea_cons ee_int (ea_cons (ee_glob hmw) ea_nil)))))) fun _ => et_not (et_val (t := true) (ee_call (d_int_in T h1 (by omega)) hr (ea_cons (ee_var 1 rfl) (ea_cons (ee_var 0 rfl) (ea_cons (ee_glob hmw) ea_nil)))))) (fun h => nomatch h) fun _ => sb_nil rfl)
theorem d_change_of (L : Line) (hL : LineOk L) (p : Nat × Nat) (hp : p ∈ pairs L.length) : DFn P w K mg base 1 "change_of" [lineD L, pairD p] (optD (chg L p)) := by
  refine fnD T.a_change_of sc_change_of _ _ rfl (by decide) fun f cdv A outer s H E hr => ?_
  have nd := sc_change_of.nd
  obtain ⟨h1, h2⟩ := mem_pairs.mp hp
  have g1 := line_get (L := L) (i := p.1) (by omega)
  have g2 := line_get (L := L) (i := p.2) h2
  have b1 := hL.bd (L.getD p.1 (0, 0)) (by rw [List.getD_eq_getElem?_getD, List.getElem?_eq_getElem (show p.1 < L.length by omega)]; exact List.getElem_mem _)
  have b2 := hL.bd (L.getD p.2 (0, 0)) (by rw [List.getD_eq_getElem?_getD, List.getElem?_eq_getElem h2]; exact List.getElem_mem _)
  refine sb_cons (sj_unpack (vs := [2, 3]) (ee_var 1 rfl) (gj_tup (gjs_cons (gj_name 2) (gjs_cons (gj_name 3) gjs_nil))) (sb_cons (sj_par 4 5 (x := .int (gapOf L p)) (y := .int (slopeOf L p))
    (ee_opD od_sub (ee_ixT (i := 0) (ee_ixT (ee_var 0 rfl) (ee_var 2 rfl) (atI_nat g1)) ee_int rfl) (ee_ixT (i := 0) (ee_ixT (ee_var 0 rfl) (ee_var 3 rfl) (atI_nat g2)) ee_int rfl))
    (ee_opD od_sub (ee_ixT (i := 1) (ee_ixT (ee_var 0 rfl) (ee_var 2 rfl) (atI_nat g1)) ee_int rfl) (ee_ixT (i := 1) (ee_ixT (ee_var 0 rfl) (ee_var 3 rfl) (atI_nat g2)) ee_int rfl)) ?_)))
  have hs : (slopeOf L p).natAbs ≤ 2 * 10 ^ 12 := by unfold slopeOf; omega
  refine sb_cons (sj_if (t := decide (0 ≤ gapOf L p)) (et_cmpD od_ge (nomark _) (ee_var 4 rfl) ee_int) (fun h => ?_) fun h => sb_nil ?_)
  · have h := of_decide_eq_true h
    refine sb_one (sj_ret (ee_ifS (t := decide (slopeOf L p < 0)) (x := optD (chg L p)) (et_cmpD od_lt (nomark _) (ee_var 5 rfl) ee_int) (fun h2 => ?_) fun h2 => ?_) rfl)
    · have h2 := of_decide_eq_true h2
      refine EE.to (ee_opD od_add (ee_opD (od_div (wide_div (b := 42) (by omega) ?_ (by decide) (by decide))) (ee_var 4 rfl) (ee_opD od_sub ee_int (ee_var 5 rfl))) ee_int) ?_
      · exact Nat.lt_of_le_of_lt (show (0 - slopeOf L p).natAbs ≤ 2 * 10 ^ 12 by omega) (by decide)
      · unfold chg; rw [if_pos h, if_pos h2]; rfl
    · have h2 := of_decide_eq_false h2
      refine EE.to ee_non ?_
      unfold chg; rw [if_pos h, if_neg h2]; rfl
  · have h := of_decide_eq_false h
    refine sb_one (sj_ret (ee_ifS (t := decide (0 < slopeOf L p)) (x := optD (chg L p)) (et_cmpD od_gt (nomark _) (ee_var 5 rfl) ee_int) (fun h2 => ?_) fun h2 => ?_) rfl)
    · have h2 := of_decide_eq_true h2
      refine EE.to (ee_opD (od_div (wide_div (b := 42) h2 ?_ (by decide) (by decide))) (ee_opD od_sub (ee_opD od_sub (ee_var 5 rfl) ee_int) (ee_var 4 rfl)) (ee_var 5 rfl)) ?_
      · exact Nat.lt_of_le_of_lt hs (by decide)
      · unfold chg; rw [if_neg h, if_pos h2]; rfl
    · have h2 := of_decide_eq_false h2
      refine EE.to ee_non ?_
      unfold chg; rw [if_neg h, if_neg h2]; rfl
end
end TR
set_option Elab.async false
set_option linter.all false
set_option maxRecDepth 100000
set_option maxHeartbeats 1000000
/-! P4: changes, segments -/
namespace TR
open PySem PySem.Spec PyProof.Rows L2 DL
section
variable {P : Program} {w : World} {K : PySem.W.Frag} {mg : Str → Option Value} {base : Heap} (T : Tx K mg)
include T
theorem d_line_changes (L : Line) (hL : LineOk L) (low high : Int) (hS : SpanOk low high) : DFn P w K mg base 3 "line_changes" [lineD L, .int low, .int high] (.tuple ((lchanges L low high).map cD)) := by
  refine fnD T.a_line_changes sc_line_changes _ _ rfl (by decide) fun f cdv A outer s H E hr => ?_
  have nd := sc_line_changes.nd
  have h8 := hL.hi
  have hp := pairs_len L.length h8
  refine sb_cons (sj_expr (ee_call (d_check_span T low high hS.lo hS.le hS.hi) hr (ea_cons (ee_var 1 rfl) (ea_cons (ee_var 2 rfl) ea_nil))) (sb_cons (sj_setLc (own := [("pair", 4)]) 3 (pairs L.length) pairD (fun _ => true) (fun p => .tuple [optD (chg L p), pairD p]) (ei_list (ee_call (d_all_pairs T L.length (by omega)) hr (ea_cons (EE.to (ee_lenT T.b_len (ea_cons (ee_var 0 rfl) ea_nil)) (by simp)) ea_nil))) (by kernel_rfl) rfl (by omega) (fun p hp => ?_) ?_)))
  · exact ⟨[.d (lineD L), .d (.int low), .d (.int high), .any, .d (pairD p), .any], fun s H C cl fp => ⟨gj_name 4, rfl, ets_nil, fun _ => ee_tup (xs := [optD (chg L p), pairD p]) (ea_cons (ee_call (d_change_of T L hL p hp) hr (ea_cons (ee_var 0 rfl) (ea_cons (ee_var 4 rfl) ea_nil))) (ea_cons (ee_var 4 rfl) ea_nil))⟩⟩
  · rw [List.filter_eq_self.mpr fun _ _ => rfl]
    refine sb_one (sj_ret (ee_tupL T.b_tuple (ea_cons (EE.of_o (eo_sorted cD (rawC L low high) leC T.b_sorted hr (EE.to (ee_lcf (own := [("t", 5), ("pair", 4)]) ((pairs L.length).map fun p => (chg L p, p)) (fun q => .tuple [optD q.1, pairD q.2]) (okC low high) (fun q => .tuple [.int (q.1.getD 0), pairD q.2]) (ei_list (ee_var 3 rfl)) ?_ (by kernel_rfl) rfl ?_ fun q hq => ?_) ?_) leC_eq (alC _) (soC _) ?_ (fun b _ => ?_) fun b _ => (okC' b).clean)) ea_nil)) rfl)
    · rw [List.map_map]; rfl
    · simp; omega
    · refine ⟨[.d (lineD L), .d (.int low), .d (.int high), .d (.list ((pairs L.length).map fun p => .tuple [optD (chg L p), pairD p])), .d (pairD q.2), .d (optD q.1)], fun s H C cl fp => ⟨gj_tup (gjs_cons (gj_name 5) (gjs_cons (gj_name 4) gjs_nil)), rfl, ?_, fun h => ee_tup (xs := [.int (q.1.getD 0), pairD q.2]) (ea_cons (EE.to (ee_var 5 rfl) ?_) (ea_cons (ee_var 4 rfl) ea_nil))⟩⟩
      · obtain ⟨q1, q2⟩ := q
        cases q1 with
        | none => exact ET.to (et_and2 (t := false) (u := false) (et_cmpD od_isNotN (nomark _) (ee_var 5 rfl) ee_non) fun h => nomatch h) rfl
        | some t => exact ET.to (et_and2 (t := true) (et_cmpD od_isNotN (nomark _) (ee_var 5 rfl) ee_non) fun _ => et_chain od_lt od_le (ee_var 1 rfl) (ee_var 5 rfl) fun _ => ee_var 2 rfl) rfl
      · obtain ⟨q1, q2⟩ := q
        cases q1 with
        | none => cases h
        | some t => rfl
    · unfold rawC
      rw [List.map_map]
      rfl
    · have := rawC_len h8 low high; omega
    · have := (okC' b).depth; omega
theorem d_line_distance (L : Line) (hL : LineOk L) (low high : Int) (hS : SpanOk low high) : DFn P w K mg base 4 "line_distance" [lineD L, .int low, .int high] (.int (lchanges L low high).length) := by
  refine fnD T.a_line_distance sc_line_distance _ _ rfl (by decide) fun f cdv A outer s H E hr => ?_
  have nd := sc_line_distance.nd
  exact sb_one (sj_ret (EE.to (ee_lenT T.b_len (ea_cons (ee_call (d_line_changes T L hL low high hS) hr (ea_cons (ee_var 0 rfl) (ea_cons (ee_var 1 rfl) (ea_cons (ee_var 2 rfl) ea_nil)))) ea_nil)) (by simp)) rfl)
theorem d_line_segments (L : Line) (hL : LineOk L) (low high : Int) (hS : SpanOk low high) : DFn P w K mg base 4 "line_segments" [lineD L, .int low, .int high] (.tuple ((segs L low high).map segD)) := by
  refine fnD T.a_line_segments sc_line_segments _ _ rfl (by decide) fun f cdv A outer s H E hr => ?_
  have nd := sc_line_segments.nd
  have h8 := hL.hi
  have hc := lchanges_len h8 low high
  have htl := times_len (L := L) low high
  have hs1 := hS.few
  have hs2 := hS.le
  refine sb_cons (sj_set 3 (ee_call (d_line_changes T L hL low high hS) hr (ea_cons (ee_var 0 rfl) (ea_cons (ee_var 1 rfl) (ea_cons (ee_var 2 rfl) ea_nil)))) ?_)
  refine sb_cons (sj_set 4 (x := .list ((low :: times L low high).map .int)) (EE.of_o (eo_cat (xs := [.int low]) (ys := (times L low high).map .int) ?_ (EE.of_o (eo_lst (ea_cons (ee_var 1 rfl) ea_nil))) (EE.of_o (eo_sortedSet (ns := (lchanges L low high).map (·.1)) T.b_sorted T.b_set (EE.to (ee_lcm (own := [("t", 8), ("pair", 9)]) (lchanges L low high) cD (fun x => .int x.1) (ei_tup (ee_var 3 rfl)) rfl (by kernel_rfl) rfl (by omega) fun x hx => ?_) ?_) ?_ (times_rise L low high) fun k => times_mem)))) ?_)
  · simp; omega
  · exact ⟨[.d (lineD L), .d (.int low), .d (.int high), .d (.tuple ((lchanges L low high).map cD)), .any, .any, .any, .any, .d (.int x.1), .d (pairD x.2)], fun s H C cl fp => ⟨gj_tup (gjs_cons (gj_name 8) (gjs_cons (gj_name 9) gjs_nil)), rfl, ee_var 8 rfl⟩⟩
  · rw [List.map_map]; rfl
  · simp; omega
  refine sb_cons (sj_set 5 (x := .list (((times L low high).map (· - 1) ++ [high]).map .int)) (EE.to (EE.of_o (eo_cat (xs := ((times L low high).map (· - 1)).map .int) (ys := [.int high]) ?_ (EE.to (ee_lcm (own := [("first", 6)]) (times L low high) .int (fun t => .int (t - 1)) (ei_list (EE.of_o (eo_slL (i := some 1) (j := none) (ee_var 4 rfl) ee_int trivial))) ?_ (by kernel_rfl) rfl (by omega) fun t ht => ?_) ?_) (EE.of_o (eo_lst (ea_cons (ee_var 2 rfl) ea_nil))))) ?_) ?_)
  · simp; omega
  · have e := cutD_drop (xs := (low :: times L low high).map D.int) (k := 1) (by simp)
    rw [show ((1 : Nat) : Int) = 1 from rfl] at e
    rw [e]
    rfl
  · exact ⟨[.d (lineD L), .d (.int low), .d (.int high), .d (.tuple ((lchanges L low high).map cD)), .d (.list ((low :: times L low high).map .int)), .any, .d (.int t), .any, .any, .any], fun s H C cl fp => ⟨gj_name 6, rfl, ee_opD od_sub (ee_var 6 rfl) ee_int⟩⟩
  · rw [List.map_map]; rfl
  · rw [List.map_append]; rfl
  refine sb_one (sj_ret (EE.to (ee_tupL T.b_tuple (ea_cons (ee_lcm (own := [("first", 6), ("last", 7)]) ((low :: times L low high).zip ((times L low high).map (· - 1) ++ [high])) (fun q => .tuple [.int q.1, .int q.2]) (fun q => segD (q.1, q.2, rank L q.1)) (ei_zipL T.b_zip (ee_var 4 rfl) (ee_var 5 rfl)) ?_ (by kernel_rfl) rfl ?_ fun q hq => ?_) ea_nil)) ?_) rfl)
  · unfold zipD
    rw [List.zip_map, List.map_map]
    rfl
  · simp; omega
  · have hq' := segs_mem hS.le (show ((q.1, q.2, rank L q.1) : Seg) ∈ segs L low high from List.mem_map.mpr ⟨q, hq, rfl⟩)
    have h1 : low ≤ q.1 := hq'.1
    have h2 : q.1 ≤ high := hq'.2.1
    have h3 := hS.lo
    have h4 := hS.hi
    exact ⟨[.d (lineD L), .d (.int low), .d (.int high), .d (.tuple ((lchanges L low high).map cD)), .d (.list ((low :: times L low high).map .int)), .d (.list (((times L low high).map (· - 1) ++ [high]).map .int)), .d (.int q.1), .d (.int q.2), .any, .any], fun s H C cl fp => ⟨gj_tup (gjs_cons (gj_name 6) (gjs_cons (gj_name 7) gjs_nil)), rfl, ee_tup (xs := [.int q.1, .int q.2, rD (true, rank L q.1)]) (ea_cons (ee_var 6 rfl) (ea_cons (ee_var 7 rfl) (ea_cons (ee_call (d_ranking_of_place T L hL q.1 (by omega) (by omega)) hr (ea_cons (ee_var 0 rfl) (ea_cons (ee_var 6 rfl) ea_nil))) ea_nil)))⟩⟩
  · unfold segs
    rw [List.map_map]
    rfl
end
end TR
set_option Elab.async false
set_option linter.all false
set_option maxRecDepth 100000
set_option maxHeartbeats 1000000
/-! P5: tables -/
namespace TR
open PySem PySem.Spec PyProof.Rows L2 DL
abbrev Row := Bool × List Nat
def rowD (q : Row) : D := .tuple [rD q, .int 1]
def tabD (d : Nat) (R : List Row) : D := .tuple [.int d, .tuple (R.map rowD)]
def ntD (r : List Nat) : D := .tuple ((iN r).map .int)
abbrev rws (R : List Row) : List (List Nat) := R.map (·.2)
structure RowsOk (d : Nat) (R : List Row) : Prop where
  lo : 1 ≤ R.length
  hi : R.length ≤ 17
  d1 : 1 ≤ d
  d8 : d ≤ 8
  rk : ∀ q ∈ R, IsRk d q.2
theorem MenuOk.len {d : Nat} {m : List Nat} (h : MenuOk d m) : m.length ≤ d := by
  have h1 : m.Nodup := h.up.imp fun h => Nat.ne_of_lt h
  have h2 := h1.length_le_of_subset (l₂ := List.range d) fun x hx => List.mem_range.mpr (h.lt x hx)
  rwa [List.length_range] at h2
theorem asc_iN {m : List Nat} (h : m.Pairwise (· < ·)) : ascI (iN m) = true := by
  unfold ascI
  induction m with
  | nil => rfl
  | cons x m ih =>
    obtain ⟨h1, h2⟩ := List.pairwise_cons.mp h
    cases m with
    | nil => rfl
    | cons y m =>
      have h3 := h1 y List.mem_cons_self
      have := ih h2
      simp only [iN, List.map_cons, List.tail_cons, List.zip_cons_cons, List.all_cons] at this ⊢
      rw [this, decide_eq_true (show (x : Int) < y by omega)]
      rfl
abbrev pKey (p : Nat × Nat) : List Int := [(p.1 : Int), (p.2 : Int)]
theorem pKey_inj {p q : Nat × Nat} (h : pKey p = pKey q) : p = q := by
  simp only [List.cons.injEq, and_true] at h
  exact Prod.ext (by omega) (by omega)
theorem mem_pKey {l : List (Nat × Nat)} {x : D} {p : Nat × Nat} : pKey p ∈ (l.map fun p => (pKey p, x)).map (·.1) ↔ p ∈ l := by
  rw [List.map_map]
  constructor
  · intro h
    obtain ⟨q, hq, e⟩ := List.mem_map.mp h
    exact pKey_inj e ▸ hq
  · intro h
    exact List.mem_map.mpr ⟨p, h, rfl⟩
theorem units64 {k : Nat} {A : Around} (hr : Room k A) : A.units + 64 < cLine := by have := hr.units; omega
section
variable {P : Program} {w : World} {K : PySem.W.Frag} {mg : Str → Option Value} {base : Heap} (T : Tx K mg)
include T
theorem d_rankings_of (x : D) (R : List Row) (hl : R.length ≤ 1000) : DFn P w K mg base 1 "rankings_of" [.tuple [x, .tuple (R.map rowD)]] (.tuple (R.map rD)) := by
  refine fnD T.a_rankings_of sc_rankings_of _ _ rfl (by decide) fun f cdv A outer s H E hr => ?_
  have nd := sc_rankings_of.nd
  exact sb_one (sj_ret (ee_tupL T.b_tuple (ea_cons (ee_lcm (own := [("ranking", 1), ("weight", 2)]) R rowD rD (ei_tup (ee_ixT (i := 1) (ee_var 0 rfl) ee_int rfl)) rfl (by kernel_rfl) rfl (by omega) fun q hq => ⟨[.d (.tuple [x, .tuple (R.map rowD)]), .d (rD q), .d (.int 1)], fun s H C cl fp => ⟨gj_tup (gjs_cons (gj_name 1) (gjs_cons (gj_name 2) gjs_nil)), rfl, ee_var 1 rfl⟩⟩) ea_nil)) rfl)
theorem d_is_menu_of (d : Nat) (hd : d ≤ 8) (m : List Nat) (hm : MenuOk d m) : DFn P w K mg base 2 "is_menu_of" [.int d, ntD m] (.bool true) := by
  refine fnD T.a_is_menu_of sc_is_menu_of _ _ rfl (by decide) fun f cdv A outer s H E hr => ?_
  have nd := sc_is_menu_of.nd
  have hl := hm.len
  refine sb_cons (sj_if (t := false) (ET.to (et_or2 (t := false) (u := false) (et_not (et_val (t := true) (ee_isi (x := ntD m) T.b_isinstance T.b_tuple boot_tuple (ee_var 1 rfl) k_tt))) fun _ => ET.to (et_cmpD (od_eq (units64 hr) (ok_ints (b := false) (iN m)).sh (ok_ints (b := false) []).sh) (nomark _) (ee_var 1 rfl) (ee_tup ea_nil)) ?_) rfl) (fun h => nomatch h) fun _ => sb_nil (sb_one (sj_ret (ee_and2 (t := true) (u := true) (EE.to (ee_all (bs := m.map fun _ => true) T.b_all (ea_cons (EE.to (ee_lcm (own := [("dish", 2)]) m (fun x => .int (x : Nat)) (fun _ => .bool true) (ei_tup (ee_var 1 rfl)) ?_ (by kernel_rfl) rfl (by omega) fun x hx => ?_) ?_) ea_nil)) ?_) fun _ => ee_call ((d_is_ascending T (iN m) ?_).to rfl (by rw [asc_iN hm.up])) hr (ea_cons (ee_var 1 rfl) ea_nil)) rfl)))
  · rw [eqv_tups, decide_eq_false]
    intro e
    exact hm.ne (by simpa [iN] using e)
  · simp [iN]
  · have hlt := hm.lt x hx
    exact ⟨[.d (.int d), .d (ntD m), .d (.int (x : Nat))], fun s H C cl fp => ⟨gj_name 2, rfl, ee_call (d_int_in T (by omega) (by omega)) hr (ea_cons (ee_var 2 rfl) (ea_cons ee_int (ea_cons (ee_opD od_sub (ee_var 0 rfl) ee_int) ea_nil)))⟩⟩
  · rw [List.map_map]; rfl
  · simp
  · rw [iN_len]; omega
theorem d_check_menu (d : Nat) (hd : d ≤ 8) (m : List Nat) (hm : MenuOk d m) : DFn P w K mg base 3 "check_menu" [.int d, ntD m] .none := by
  refine fnD T.a_check_menu sc_check_menu _ _ rfl (by decide) fun f cdv A outer s H E hr => ?_
  have nd := sc_check_menu.nd
  exact sb_one (sj_if (et_not (et_val (t := true) (ee_call (d_is_menu_of T d hd m hm) hr (ea_cons (ee_var 0 rfl) (ea_cons (ee_var 1 rfl) ea_nil))))) (fun h => nomatch h) fun _ => sb_nil rfl)
theorem d_is_order_of (n : Nat) (o : List Nat) (ho : o.Perm (List.range n)) (hn : n ≤ 64) : DFn P w K mg base 2 "is_order_of" [.int n, ntD o] (.bool true) := by
  refine fnD T.a_is_order_of sc_is_order_of _ _ rfl (by decide) fun f cdv A outer s H E hr => ?_
  have nd := sc_is_order_of.nd
  have hq : IsRk n o := ho
  have hl := hq.len
  refine sb_cons (sj_if (et_or2 (et_not (et_val (t := true) (ee_isi T.b_isinstance T.b_tuple boot_tuple (ee_var 1 rfl) k_tt))) fun _ => et_cmpD (od_nei) (nomark _) (EE.to (ee_lenT T.b_len (ea_cons (ee_var 1 rfl) ea_nil)) (by rw [rD_len (false, o), hl])) (ee_var 0 rfl)) (fun h => ?_) fun _ => ?_)
  · simp at h
  · refine sb_nil (sb_one (sj_ret (ee_and2 (t := true) (u := true) (EE.to (ee_all (bs := o.map fun _ => true) T.b_all (ea_cons (EE.to (ee_lcm (own := [("item", 2)]) o (fun x => .int (x : Nat)) (fun _ => .bool true) (ei_tup (ee_var 1 rfl)) ?_ (by kernel_rfl) rfl ?_ fun x hx => ?_) ?_) ea_nil)) ?_) fun _ => EE.to (ee_cmpD od_eqi (nomark _) (ee_lenSet (ns := iN o) T.b_len T.b_set (ee_var 1 rfl) ?_ ?_) (ee_var 0 rfl)) ?_) rfl))
    · simp [iN]
    · omega
    · have hlt := hq.mem.mp hx
      exact ⟨(startS ["count", "value", "item"] [.int n, ntD o]).set 2 (.d (.int (x : Nat))), fun s H C cl fp => ⟨gj_name 2, rfl, ee_call (d_int_in T (by omega) (by omega)) hr (ea_cons (ee_var 2 rfl) (ea_cons ee_int (ea_cons (ee_opD od_sub (ee_var 0 rfl) ee_int) ea_nil)))⟩⟩
    · rw [List.map_map]; rfl
    · simp
    · unfold iN
      exact List.Pairwise.map _ (fun a b h => by omega) hq.nodup
    · rw [iN_len]; omega
    · simp [iN_len, hl]
theorem d_largest (S : List (List Nat)) (hl : S.length ≤ 1000) : DFn P w K mg base 1 "largest" [.tuple (S.map ntD)] (ntD (largestF S)) := by
  refine fnD T.a_largest sc_largest _ _ rfl (by decide) fun f cdv A outer s H E hr => ?_
  have nd := sc_largest.nd
  refine sb_cons (sj_set 1 (x := ntD []) (ee_tup ea_nil) (sb_cons (sj_for (ei_tup (ee_var 0 rfl)) (fun i ρ => ∃ z, ρ = [.d (.tuple (S.map ntD)), .d (ntD (largestF (S.take i))), z]) ⟨_, rfl⟩ (fun i y ρ hy hI => ?_) fun ρ hI => ?_)))
  · obtain ⟨z, rfl⟩ := hI
    rw [List.getElem?_map] at hy
    obtain ⟨m, hm, rfl⟩ := Option.map_eq_some_iff.mp hy
    have et : S.take (i + 1) = S.take i ++ [m] := by rw [List.take_add_one, hm]; rfl
    have ef : largestF (S.take (i + 1)) = if (largestF (S.take i)).length < m.length then m else largestF (S.take i) := by
      rw [et]
      unfold largestF
      rw [List.foldl_append]
      rfl
    refine ⟨[2], [.d (.tuple (S.map ntD)), .d (ntD (largestF (S.take i))), .d (ntD m)], gj_name 2, sb_one (sj_if (t := decide ((largestF (S.take i)).length < m.length)) (ET.to (et_cmpD od_gt (nomark _) (ee_lenT T.b_len (ea_cons (ee_var 2 rfl) ea_nil)) (ee_lenT T.b_len (ea_cons (ee_var 1 rfl) ea_nil))) ?_) (fun h => sb_one (sj_set 1 (ee_var 2 rfl) ⟨.d (ntD m), ?_⟩)) fun h => sb_nil ⟨.d (ntD m), ?_⟩)⟩
    · rw [decide_eq_decide]; simp only [List.length_map, iN_len]; omega
    · rw [ef, if_pos (of_decide_eq_true h)]; rfl
    · rw [ef, if_neg (of_decide_eq_false h)]
  · obtain ⟨z, rfl⟩ := hI
    rw [List.length_map, List.take_length]
    exact sb_one (sj_ret (ee_var 1 rfl) rfl)
theorem d_offset_of (t : Nat) (S : List (List Nat)) (right : List Nat) (hl : S.length ≤ 1000) : DFn P w K mg base 1 "offset_of" [.int t, .tuple (S.map ntD), ntD right] (.int (offs t S right)) := by
  refine fnD T.a_offset_of sc_offset_of _ _ rfl (by decide) fun f cdv A outer s H E hr => ?_
  have nd := sc_offset_of.nd
  refine sb_cons (sj_set 3 (x := .int ((S.filter fun m => decide (t ∈ m)).length : Nat)) (EE.to (ee_lenL T.b_len (ea_cons (ee_lcf (own := [("members", 4)]) S ntD (fun m => decide (t ∈ m)) ntD (ei_tup (ee_var 1 rfl)) rfl (by kernel_rfl) rfl (by omega) fun m hm => ⟨[.d (.int t), .d (.tuple (S.map ntD)), .d (ntD right), .any, .d (ntD m)], fun s H C cl fp => ⟨gj_name 4, rfl, ET.to (et_cmpD (od_in (ns := iN m)) rfl (ee_var 0 rfl) (ee_var 4 rfl)) ?_, fun _ => ee_var 4 rfl⟩⟩) ea_nil)) ?_) (sb_one (sj_ret (ee_ifS (x := .int (offs t S right)) (t := decide (t ∈ right)) (ET.to (et_cmpD (od_in (ns := iN right)) rfl (ee_var 0 rfl) (ee_var 2 rfl)) ?_) (fun h => EE.to (ee_var 3 rfl) ?_) fun h => EE.to (ee_opD od_sub ee_int (ee_var 3 rfl)) ?_) rfl)))
  · rw [decide_eq_decide]; exact mem_iN
  · simp
  · rw [decide_eq_decide]; exact mem_iN
  · unfold offs; rw [if_pos (of_decide_eq_true h)]
  · unfold offs; rw [if_neg (of_decide_eq_false h)]
theorem d_flatten (G : List (List Nat)) (hl : G.length ≤ 64) (hg : ∀ g ∈ G, g.length ≤ 64) : DFn P w K mg base 1 "flatten" [.list (G.map ntD)] (ntD G.flatten) := by
  refine fnD T.a_flatten sc_flatten _ _ rfl (by decide) fun f cdv A outer s H E hr => ?_
  have nd := sc_flatten.nd
  refine sb_one (sj_ret (EE.to (ee_tupL T.b_tuple (ea_cons (EE.of_o (eo_lc2 (own := [("group", 1), ("taster", 2)]) (vs1 := [2]) G ntD (fun g => g) (fun g t => .int (t : Nat)) (fun g t => .int (t : Nat)) (ei_list (ee_var 0 rfl)) (by kernel_rfl) rfl (by decide) ?_ fun g hgm => ⟨[.d (.list (G.map ntD)), .d (ntD g), .any], fun t => [.d (.list (G.map ntD)), .d (ntD g), .d (.int (t : Nat))], fun s H C cl fp => ⟨gj_name 1, rfl, rfl, EI.toL (ei_tup (ee_var 1 rfl)) ?_, fun t ht => ⟨gj_name 2, rfl, ee_var 2 rfl⟩⟩⟩)) ea_nil)) ?_) rfl)
  · rw [List.length_flatMap]
    have : ∀ l : List (List Nat), (∀ g ∈ l, g.length ≤ 64) → (l.map fun g => (g.map fun t : Nat => D.int (t : Int)).length).sum ≤ 64 * l.length := fun l => by
      induction l with
      | nil => intro _; exact Nat.le_refl _
      | cons g l ih =>
        intro hgl
        have h1 := hgl g List.mem_cons_self
        have h2 := ih fun g' hg' => hgl g' (List.mem_cons_of_mem _ hg')
        simp only [List.map_cons, List.sum_cons, List.length_cons, List.length_map] at h2 ⊢
        omega
    have := this G hg
    omega
  · simp [iN]
  · unfold ntD iN
    rw [List.map_flatten, List.map_flatten, List.flatMap_def, List.map_map]
    congr 2
    refine congrArg (fun f => G.map f) (funext fun g => ?_)
    simp
end
end TR
set_option Elab.async false
set_option linter.all false
set_option maxRecDepth 100000
set_option maxHeartbeats 1000000
/-! P6: tables, more -/
namespace TR
open PySem PySem.Spec PyProof.Rows L2 DL
theorem rws_getD {R : List Row} {t : Nat} (h : t < R.length) : (rws R).getD t [] = (R.getD t (true, [])).2 := by
  rw [List.getD_eq_getElem?_getD, List.getD_eq_getElem?_getD, List.getElem?_map, List.getElem?_eq_getElem h]
  rfl
theorem zipt_get {o : List Nat} {i a b : Nat} (h : (o.zip o.tail)[i]? = some (a, b)) : a ∈ o ∧ b ∈ o := by
  have := List.of_mem_zip (List.mem_of_getElem? h)
  exact ⟨this.1, List.mem_of_mem_tail this.2⟩
section
variable {P : Program} {w : World} {K : PySem.W.Frag} {mg : Str → Option Value} {base : Heap} (T : Tx K mg)
include T
theorem d_changes_once (d : Nat) (R : List Row) (hR : RowsOk d R) (o : List Nat) (ho : ∀ t ∈ o, t < R.length) (hol : o.length ≤ 64) : DFn P w K mg base 3 "changes_once" [.tuple (R.map rD), ntD o] (.bool (once d (rws R) o)) := by
  refine fnD T.a_changes_once sc_changes_once _ _ rfl (by decide) fun f cdv A outer s H E hr => ?_
  have nd := sc_changes_once.nd
  let kv : Nat × Nat → List Int × D := fun p => (pKey p, .bool true)
  let df : Nat × Nat → List (Nat × Nat) := fun q => diffs d ((rws R).getD q.1 []) ((rws R).getD q.2 [])
  have hdf : ∀ q, (df q).length ≤ 28 := fun q => diffs_len hR.d8 _ _
  have hfl : ∀ l : List (Nat × Nat), (l.flatMap df).length ≤ 28 * l.length := fun l => by
    induction l with
    | nil => exact Nat.le_refl _
    | cons q l ih =>
      rw [List.flatMap_cons, List.length_append, List.length_cons]
      have := hdf q
      omega
  have hzl : (o.zip o.tail).length ≤ 64 := by rw [List.length_zip]; omega
  refine sb_cons (sj_newD 2 (sb_cons (sj_for (ei_zipT T.b_zip (ee_var 1 rfl) (ee_slT (i := some 1) (j := none) (ee_var 1 rfl) ee_int trivial)) (fun i ρ => (((o.zip o.tail).take i).flatMap df).Nodup ∧ ∃ x y z, ρ = [.d (.tuple (R.map rD)), .d (ntD o), .ownD ((((o.zip o.tail).take i).flatMap df).map kv), x, y, z]) ⟨List.nodup_nil, _, _, _, rfl⟩ (fun i y ρ hy hI => ?_) fun ρ hI => ?_)))
  · obtain ⟨hnd, x, y', z, rfl⟩ := hI
    obtain ⟨a, b, hq, rfl⟩ : ∃ a b, (o.zip o.tail)[i]? = some (a, b) ∧ y = .tuple [.int (a : Nat), .int (b : Nat)] := by
      have e : zipD ((iN o).map D.int) (cutD ((iN o).map D.int) (some 1) none) = (o.zip o.tail).map fun q => .tuple [.int (q.1 : Nat), .int (q.2 : Nat)] := by
        by_cases h : 1 ≤ o.length
        · have e := cutD_drop (xs := (iN o).map D.int) (k := 1) (by simpa [iN] using h)
          rw [show ((1 : Nat) : Int) = 1 from rfl] at e
          rw [e]
          unfold zipD iN
          rw [List.drop_one, List.map_map, ← List.map_tail, List.zip_map, List.map_map]
          rfl
        · have : o = [] := List.length_eq_zero_iff.mp (by omega)
          subst this
          rfl
      rw [e, List.getElem?_map] at hy
      obtain ⟨q, h1, h2⟩ := Option.map_eq_some_iff.mp hy
      exact ⟨q.1, q.2, h1, h2.symm⟩
    obtain ⟨ha, hb⟩ := zipt_get hq
    have ha := ho a ha
    have hb := ho b hb
    have et : (o.zip o.tail).take (i + 1) = (o.zip o.tail).take i ++ [(a, b)] := by rw [List.take_add_one, hq]; rfl
    have hra := hR.rk _ (getD_mem (x := (true, [])) ha)
    have hrb := hR.rk _ (getD_mem (x := (true, [])) hb)
    have edf : df (a, b) = diffs d (R.getD a (true, [])).2 (R.getD b (true, [])).2 := by
      show diffs d ((rws R).getD a []) ((rws R).getD b []) = _
      rw [rws_getD ha, rws_getD hb]
    have ga : (R.map rD)[a]? = some (rD (R.getD a (true, []))) := by rw [List.getElem?_map, getD_get (x := (true, [])) ha]; rfl
    have gb : (R.map rD)[b]? = some (rD (R.getD b (true, []))) := by rw [List.getElem?_map, getD_get (x := (true, [])) hb]; rfl
    refine ⟨[3, 4], [.d (.tuple (R.map rD)), .d (ntD o), .ownD ((((o.zip o.tail).take i).flatMap df).map kv), .d (.int (a : Nat)), .d (.int (b : Nat)), z], gj_tup (gjs_cons (gj_name 3) (gjs_cons (gj_name 4) gjs_nil)), sb_one (sj_for (ei_tup (ee_call (d_differences T d _ _ hra hrb hR.d8) hr (ea_cons (ee_ixT (ee_var 0 rfl) (ee_var 3 rfl) (atI_nat ga)) (ea_cons (ee_ixT (ee_var 0 rfl) (ee_var 4 rfl) (atI_nat gb)) ea_nil)))) (fun j ρ => (((o.zip o.tail).take i).flatMap df ++ (df (a, b)).take j).Nodup ∧ ∃ z, ρ = [.d (.tuple (R.map rD)), .d (ntD o), .ownD ((((o.zip o.tail).take i).flatMap df ++ (df (a, b)).take j).map kv), .d (.int (a : Nat)), .d (.int (b : Nat)), z]) ⟨by simpa using hnd, z, by simp⟩ (fun j y ρ hy hJ => ?_) fun ρ hJ => ?_)⟩
    · obtain ⟨hnd2, z2, rfl⟩ := hJ
      rw [← edf, List.getElem?_map] at hy
      obtain ⟨p, hp, rfl⟩ := Option.map_eq_some_iff.mp hy
      have ep : (df (a, b)).take (j + 1) = (df (a, b)).take j ++ [p] := by rw [List.take_add_one, hp]; rfl
      refine ⟨[5], [.d (.tuple (R.map rD)), .d (ntD o), .ownD ((((o.zip o.tail).take i).flatMap df ++ (df (a, b)).take j).map kv), .d (.int (a : Nat)), .d (.int (b : Nat)), .d (pairD p)], gj_name 5, sb_cons (sj_if (t := decide (pKey p ∈ ((((o.zip o.tail).take i).flatMap df ++ (df (a, b)).take j).map kv).map (·.1))) (et_inO 2 (units64 hr) (ee_var 5 rfl)) (fun h => sb_one (sj_ret ee_bl ?_)) fun h => sb_nil (sb_one (sj_putD 2 (units64 hr) ee_bl (ee_var 5 rfl) (of_decide_eq_false h) ?_ ⟨?_, .d (pairD p), ?_⟩ ⟨_, rfl⟩)))⟩
      · have h := mem_pKey.mp (of_decide_eq_true h)
        have hno : ¬ (onceL d (rws R) o).Nodup := fun hn => by
          have e1 : onceL d (rws R) o = (o.zip o.tail).flatMap df := rfl
          rw [e1, ← List.take_append_drop (i + 1) (o.zip o.tail), et, List.flatMap_append, List.flatMap_append] at hn
          have h2 := (List.nodup_append.mp hn).1
          simp only [List.flatMap_cons, List.flatMap_nil, List.append_nil] at h2
          rw [← List.take_append_drop (j + 1) (df (a, b)), ep, ← List.append_assoc, ← List.append_assoc] at h2
          have h3 := (List.nodup_append.mp h2).1
          exact (List.nodup_append.mp h3).2.2 p h p (by simp) rfl
        unfold once
        rw [decide_eq_false hno]
      · rw [List.length_map, List.length_append]
        have h1 := hfl ((o.zip o.tail).take i)
        have h2 := List.length_take_le i (o.zip o.tail)
        have h3 := List.length_take_le j (df (a, b))
        have h4 := hdf (a, b)
        rw [List.length_take] at h1
        rw [List.length_take]
        omega
      · rw [ep, ← List.append_assoc, List.nodup_append]
        refine ⟨hnd2, by simp, fun u hu v hv e => ?_⟩
        rw [List.mem_singleton.mp hv] at e
        have h := of_decide_eq_false h
        exact h (mem_pKey.mpr (e ▸ hu))
      · rw [ep, ← List.append_assoc, List.map_append (l₂ := [p])]
        rfl
    · obtain ⟨hnd2, z2, rfl⟩ := hJ
      rw [List.length_map, ← edf, List.take_length] at hnd2
      refine ⟨?_, .d (.int (a : Nat)), .d (.int (b : Nat)), z2, ?_⟩
      · rw [et, List.flatMap_append]; simpa using hnd2
      · rw [et, List.flatMap_append, List.length_map, ← edf, List.take_length]
        simp
  · obtain ⟨hnd, x, y, z, rfl⟩ := hI
    refine sb_one (sj_ret ee_bl ?_)
    have e : (zipD ((iN o).map D.int) (cutD ((iN o).map D.int) (some 1) none)).length = (o.zip o.tail).length := by
      by_cases h : 1 ≤ o.length
      · have e := cutD_drop (xs := (iN o).map D.int) (k := 1) (by simpa [iN] using h)
        rw [show ((1 : Nat) : Int) = 1 from rfl] at e
        rw [e]
        simp [zipD, iN]
      · have : o = [] := List.length_eq_zero_iff.mp (by omega)
        subst this
        rfl
    rw [e, List.take_length] at hnd
    unfold once
    rw [decide_eq_true (show (onceL d (rws R) o).Nodup from hnd)]
theorem d_is_seating (d : Nat) (R : List Row) (hR : RowsOk d R) (o : List Nat) (ho : o.Perm (List.range R.length)) : DFn P w K mg base 4 "is_seating" [tabD d R, ntD o] (.bool (once d (rws R) o)) := by
  refine fnD T.a_is_seating sc_is_seating _ _ rfl (by decide) fun f cdv A outer s H E hr => ?_
  have nd := sc_is_seating.nd
  have h17 := hR.hi
  have hol : o.length = R.length := by rw [ho.length_eq, List.length_range]
  exact sb_one (sj_ret (ee_and2 (t := true) (u := once d (rws R) o) (ee_call (d_is_order_of T R.length o ho (by omega)) hr (ea_cons (EE.to (ee_lenT T.b_len (ea_cons (ee_ixT (i := 1) (ee_var 0 rfl) ee_int rfl) ea_nil)) (by simp)) (ea_cons (ee_var 1 rfl) ea_nil))) fun _ => ee_call (d_changes_once T d R hR o (fun t ht => List.mem_range.mp (ho.mem_iff.mp ht)) (by omega)) hr (ea_cons (ee_call (d_rankings_of T (.int d) R (by omega)) hr (ea_cons (ee_var 0 rfl) ea_nil)) (ea_cons (ee_var 1 rfl) ea_nil))) rfl)
theorem d_best_dish (d : Nat) (hd : d ≤ 8) (q : Row) (hq : IsRk d q.2) (m : List Nat) (hm : MenuOk d m) : DFn P w K mg base 1 "best_dish" [rD q, ntD m] (.int (best q.2 m)) := by
  refine fnD T.a_best_dish sc_best_dish _ _ rfl (by decide) fun f cdv A outer s H E hr => ?_
  have nd := sc_best_dish.nd
  have hl := hq.len
  obtain ⟨h1, h2, h3⟩ := best_mem hq hm.ne hm.lt
  refine sb_one (sj_ret (ee_ixL (i := 0) (ee_lcf (own := [("dish", 2)]) q.2 (fun x => .int (x : Nat)) (fun x => decide (x ∈ m)) (fun x => .int (x : Nat)) (ei_tup (ee_var 0 rfl)) ?_ (by kernel_rfl) rfl (by omega) fun x hx => ⟨[.d (rD q), .d (ntD m), .d (.int (x : Nat))], fun s H C cl fp => ⟨gj_name 2, rfl, ET.to (et_cmpD (od_in (ns := iN m)) rfl (ee_var 2 rfl) (ee_var 1 rfl)) ?_, fun _ => ee_var 2 rfl⟩⟩) ee_int (atI_nat (n := 0) ?_)) rfl)
  · simp [iN]
  · rw [decide_eq_decide]; exact mem_iN
  · rw [List.getElem?_map, h3]; rfl
theorem d_choices (d : Nat) (R : List Row) (hR : RowsOk d R) (m : List Nat) (hm : MenuOk d m) : DFn P w K mg base 4 "choices" [tabD d R, ntD m] (ntD (R.map fun q => best q.2 m)) := by
  refine fnD T.a_choices sc_choices _ _ rfl (by decide) fun f cdv A outer s H E hr => ?_
  have nd := sc_choices.nd
  have h17 := hR.hi
  refine sb_cons (sj_expr (ee_call (d_check_menu T d hR.d8 m hm) hr (ea_cons (ee_ixT (i := 0) (ee_var 0 rfl) ee_int rfl) (ea_cons (ee_var 1 rfl) ea_nil))) (sb_one (sj_ret (EE.to (ee_tupL T.b_tuple (ea_cons (ee_lcm (own := [("ranking", 2), ("weight", 3)]) R rowD (fun q => .int (best q.2 m : Nat)) (ei_tup (ee_ixT (i := 1) (ee_var 0 rfl) ee_int rfl)) rfl (by kernel_rfl) rfl (by omega) fun q hq => ⟨[.d (tabD d R), .d (ntD m), .d (rD q), .d (.int 1)], fun s H C cl fp => ⟨gj_tup (gjs_cons (gj_name 2) (gjs_cons (gj_name 3) gjs_nil)), rfl, ee_call (d_best_dish T d hR.d8 q (hR.rk q hq) m hm) hr (ea_cons (ee_var 2 rfl) (ea_cons (ee_var 1 rfl) ea_nil))⟩⟩) ea_nil)) ?_) rfl)))
  unfold ntD iN
  rw [List.map_map, List.map_map]
  rfl
theorem d_cost (d : Nat) (R : List Row) (hR : RowsOk d R) (ht : ∀ q ∈ R, q.1 = true) (m : List Nat) (hm : MenuOk d m) : DFn P w K mg base 5 "cost" [tabD d R, ntD m] (.int (costF (rws R) m)) := by
  refine fnD T.a_cost sc_cost _ _ rfl (by decide) fun f cdv A outer s H E hr => ?_
  have nd := sc_cost.nd
  have h17 := hR.hi
  refine sb_cons (sj_set 2 (ee_call (d_choices T d R hR m hm) hr (ea_cons (ee_var 0 rfl) (ea_cons (ee_var 1 rfl) ea_nil))) (sb_one (sj_ret (EE.to (ee_sum (ns := R.map fun q => ((pos q.2 (best q.2 m) : Nat) : Int)) T.b_sum (ea_cons (EE.to (ee_lcm (own := [("ranking", 4), ("weight", 5), ("dish", 3)]) R (fun q => .tuple [rowD q, .int (best q.2 m : Nat)]) (fun q => .int ((pos q.2 (best q.2 m) : Nat) : Int)) (ei_zipT T.b_zip (ee_ixT (i := 1) (ee_var 0 rfl) ee_int rfl) (ee_var 2 rfl)) ?_ (by kernel_rfl) rfl (by omega) fun q hq => ?_) ?_) ea_nil)) ?_) rfl)))
  · unfold zipD iN
    rw [List.map_map, List.map_map, List.zip_map', List.map_map]
    rfl
  · obtain ⟨qb, qr⟩ := q
    have htq : qb = true := ht _ hq
    subst htq
    have hb := best_mem (hR.rk _ hq) hm.ne hm.lt
    refine ⟨[.d (tabD d R), .d (ntD m), .d (ntD (R.map fun q => best q.2 m)), .d (.int (best qr m : Nat)), .d (rD (true, qr)), .d (.int 1)], fun s H C cl fp => ⟨gj_tup (gjs_cons (gj_tup (gjs_cons (gj_name 4) (gjs_cons (gj_name 5) gjs_nil))) (gjs_cons (gj_name 3) gjs_nil)), rfl, EE.to (ee_opD (od_mul (.inl ⟨by decide, by decide⟩)) (ee_var 5 rfl) (ee_index (ns := iN qr) (ee_var 4 rfl) (ee_var 3 rfl) (mem_iN.mpr hb.1))) ?_⟩⟩
    rw [idx_pos, Int.one_mul]
  · rw [List.map_map]; rfl
  · unfold costF
    congr 1
    rw [List.map_map]
    generalize R = R'
    induction R' with
    | nil => rfl
    | cons q R' ih => simp only [List.map_cons, List.sum_cons, ih, Function.comp]; omega
theorem d_extend (d : Nat) (R : List Row) (q : Row) (hl : R.length ≤ 1000) : DFn P w K mg base 1 "extend" [tabD d R, rD q] (tabD d (R ++ [q])) := by
  refine fnD T.a_extend sc_extend _ _ rfl (by decide) fun f cdv A outer s H E hr => ?_
  have nd := sc_extend.nd
  refine sb_one (sj_ret (EE.to (ee_tup (xs := [.int d, .tuple (R.map rowD ++ [rowD q])]) (ea_cons (ee_ixT (i := 0) (ee_var 0 rfl) ee_int rfl) (ea_cons (ee_catT (by simp; omega) (ee_ixT (i := 1) (ee_var 0 rfl) ee_int rfl) (ee_tup (ea_cons (ee_tup (xs := [rD q, .int 1]) (ea_cons (ee_var 1 rfl) (ea_cons ee_int ea_nil))) ea_nil))) ea_nil))) ?_) rfl)
  unfold tabD
  rw [List.map_append]
  rfl
theorem d_check_dishes (d a b : Nat) (ha : a < d) (hb : b < d) (hne : b ≠ a) : DFn P w K mg base 2 "check_dishes" [.int d, .int a, .int b] .none := by
  refine fnD T.a_check_dishes sc_check_dishes _ _ rfl (by decide) fun f cdv A outer s H E hr => ?_
  have nd := sc_check_dishes.nd
  refine sb_cons (sj_if (et_not (et_val (t := true) (ee_call (d_int_in T (v := (a : Int)) (lo := 0) (hi := (d : Int) - 1) (by omega) (by omega)) hr (ea_cons (ee_var 1 rfl) (ea_cons ee_int (ea_cons (ee_opD od_sub (ee_var 0 rfl) ee_int) ea_nil)))))) (fun h => nomatch h) fun _ => sb_nil (sb_one (sj_if (t := false) (ET.to (et_or2 (t := false) (u := false) (et_not (et_val (t := true) (ee_call (d_int_in T (v := (b : Int)) (lo := 0) (hi := (d : Int) - 1) (by omega) (by omega)) hr (ea_cons (ee_var 2 rfl) (ea_cons ee_int (ea_cons (ee_opD od_sub (ee_var 0 rfl) ee_int) ea_nil)))))) fun _ => ET.to (et_cmpD od_eqi (nomark _) (ee_var 2 rfl) (ee_var 1 rfl)) ?_) rfl) (fun h => nomatch h) fun _ => sb_nil rfl)))
  rw [decide_eq_false]
  omega
theorem d_support (d : Nat) (R : List Row) (hR : RowsOk d R) (ht : ∀ q ∈ R, q.1 = true) (a b : Nat) (ha : a < d) (hb : b < d) (hne : b ≠ a) : DFn P w K mg base 3 "support" [tabD d R, .int a, .int b] (.int (((rws R).filter fun r => before r (a, b)).length : Nat)) := by
  refine fnD T.a_support sc_support _ _ rfl (by decide) fun f cdv A outer s H E hr => ?_
  have nd := sc_support.nd
  have h17 := hR.hi
  refine sb_cons (sj_expr (ee_call (d_check_dishes T d a b ha hb hne) hr (ea_cons (ee_ixT (i := 0) (ee_var 0 rfl) ee_int rfl) (ea_cons (ee_var 1 rfl) (ea_cons (ee_var 2 rfl) ea_nil)))) (sb_one (sj_ret (EE.to (ee_sum (ns := (R.filter fun q => before q.2 (a, b)).map fun _ => 1) T.b_sum (ea_cons (EE.to (ee_lcf (own := [("ranking", 3), ("weight", 4)]) R rowD (fun q => before q.2 (a, b)) (fun _ => .int 1) (ei_tup (ee_ixT (i := 1) (ee_var 0 rfl) ee_int rfl)) rfl (by kernel_rfl) rfl (by omega) fun q hq => ?_) ?_) ea_nil)) ?_) rfl)))
  · obtain ⟨qb, qr⟩ := q
    have htq : qb = true := ht _ hq
    subst htq
    have hk := hR.rk _ hq
    exact ⟨[.d (tabD d R), .d (.int a), .d (.int b), .d (rD (true, qr)), .d (.int 1)], fun s H C cl fp => ⟨gj_tup (gjs_cons (gj_name 3) (gjs_cons (gj_name 4) gjs_nil)), rfl, et_val (ee_call (d_prefers T qr a b (hk.mem.mpr ha) (hk.mem.mpr hb)) hr (ea_cons (ee_var 3 rfl) (ea_cons (ee_var 1 rfl) (ea_cons (ee_var 2 rfl) ea_nil)))), fun _ => ee_var 4 rfl⟩⟩
  · rw [List.map_map]; rfl
  · congr 1
    generalize R = R'
    induction R' with
    | nil => rfl
    | cons q R' ih =>
      dsimp only [rws] at ih ⊢
      simp only [List.map_cons, List.filter_cons]
      by_cases h : before q.2 (a, b) = true
      · simp only [h, if_true, List.map_cons, List.sum_cons, List.length_cons, ih]; omega
      · simp only [h, Bool.false_eq_true, if_false, ih]
end
end TR
set_option Elab.async false
set_option linter.all false
set_option maxRecDepth 100000
set_option maxHeartbeats 2000000
/-! P7: groups -/
namespace TR
open PySem PySem.Spec PyProof.Rows L2 DL
abbrev tt (R : List (List Nat)) : List Row := R.map fun r => (true, r)
theorem rws_tt (R : List (List Nat)) : rws (tt R) = R := by
  unfold rws tt
  rw [List.map_map]
  exact List.map_id'' (fun _ => rfl) R
theorem iN_inj {r s : List Nat} (h : iN r = iN s) : r = s := (List.map_inj_right (fun x y h => by omega)).mp h
theorem grpOf_iN (R : List (List Nat)) : ∀ n, grpOf (R.map iN) n = (gOf R n).map fun g => (iN g.1, iN g.2)
  | 0 => rfl
  | n + 1 => by
    unfold grpOf gOf
    rw [List.getElem?_map]
    cases h : R[n]? with
    | none => exact grpOf_iN R n
    | some k =>
      show grpAdd (grpOf (R.map iN) n) (iN k) n = (gAdd (gOf R n) k n).map _
      rw [grpOf_iN R n]
      unfold grpAdd gAdd
      have hm : (iN k ∈ ((gOf R n).map fun g => (iN g.1, iN g.2)).map (·.1)) ↔ k ∈ (gOf R n).map (·.1) := by
        rw [List.map_map]
        constructor
        · intro h
          obtain ⟨g, hg, e⟩ := List.mem_map.mp h
          exact List.mem_map.mpr ⟨g, hg, iN_inj e⟩
        · intro h
          obtain ⟨g, hg, e⟩ := List.mem_map.mp h
          exact List.mem_map.mpr ⟨g, hg, by rw [← e]; rfl⟩
      by_cases hk : k ∈ (gOf R n).map (·.1)
      · rw [if_pos (hm.mpr hk), if_pos hk, List.map_map, List.map_map]
        refine List.map_congr_left fun g _ => ?_
        by_cases e : g.1 = k
        · simp [e, iN]
        · have e2 : ¬ iN g.1 = iN k := fun z => e (iN_inj z)
          simp [e, e2]
      · rw [if_neg (fun z => hk (hm.mp z)), if_neg hk, List.map_append]
        rfl
section
variable {P : Program} {w : World} {K : PySem.W.Frag} {mg : Str → Option Value} {base : Heap} (T : Tx K mg)
include T
theorem d_groups (d : Nat) (R : List (List Nat)) (hl : R.length ≤ 17) : DFn P w K mg base 2 "groups" [tabD d (tt R)] (.tuple ((grp R).map ntD)) := by
  refine fnD T.a_groups sc_groups _ _ rfl (by decide) fun f cdv A outer s H E hr => ?_
  have nd := sc_groups.nd
  intro F σ H0 H D r k1 k2 k3 k4
  refine WSs.of (pss_cons ps_ws (pss_cons ps_ws (pss_one ps_ws))) ?_
  have no : noOwn (startS ["table", "result", "taster", "ranking", "group"] [tabD d (tt R)]) := fun j s h => by
    match j, h with
    | 0, h => cases h; rfl
    | 1, h => cases h; rfl
    | 2, h => cases h; rfl
    | 3, h => cases h; rfl
    | 4, h => cases h; rfl
  refine ws_newG 1 r no (Nat.le_of_ble_eq_true rfl) fun p σ1 H1 g1 => ?_
  refine ws_forG 3 2 (ks := R.map iN) (EI.toL (ei_enumT T.b_enumerate (ee_call (d_rankings_of T (.int d) (tt R) (by simp; omega)) hr (ea_cons (ee_var 0 rfl) ea_nil))) ?_) (by simp; omega) g1 (by decide) (by decide) (by decide) (Nat.le_of_ble_eq_true rfl) (Nat.le_of_ble_eq_true rfl) (fun ρ' σ' H0' H' gs k t D' g hk ht h1 h2 h3 q => ?_) (fun ρ' σ' H0' H' gs s0 hlen g hgp => ?_) (hg := fun ρ k t => gj_tup (gjs_cons (gj_name 2) (gjs_cons (gj_name 3) gjs_nil)))
  · congr 1
    rw [List.map_map, List.map_map]
    rfl
  · exact WSs.of (pss_one ps_ws) (ws_addG 1 3 2 (units64 hr) g hk ht h1 h2 h3 q)
  · refine WS.of (ps_ret pe_we) ?_
    refine WE.of (pe_callTy call_tuple_of (by rfl) T.b_tuple boot_tuple (pa_cons (pe_lc (by rfl) nd pi_wi (blkOk_by (own := [("group", 4)]) (by kernel_rfl)) pg_B pts_B pe_B (by intro _; rfl)) pa_nil (by rfl)) (by decide) (by decide) (by rfl) (by rfl)) ?_
    have h5 : ρ'.length = 5 := hlen
    unfold tCB tCons
    refine lcD0 (F := F) (H0 := H0') (own := [("group", 4)]) (ys := (gPairs gs).map fun g => .list (g.2.map .int)) (ρ1 := ρ') ?_ (fun i ρ acc => ρ = ρ'.set 4 .any ∧ acc = ((gPairs gs).take i).map fun g => .tuple (g.2.map .int)) ⟨rfl, rfl⟩ ?_ (fun i y ρ acc hy hI => ?_) fun p2 vs H02 H2 ρ2 acc hI s2 he hd r2 ra => ?_
    · exact fun R q => wi_vals g R q
    · rw [List.length_map, hgp]
      have := (grpOf_facts (R.map iN) (R.map iN).length).1
      simp at this
      simp
      omega
    · obtain ⟨rfl, rfl⟩ := hI
      rw [List.getElem?_map] at hy
      obtain ⟨g0, hg0, rfl⟩ := Option.map_eq_some_iff.mp hy
      have et : (gPairs gs).take (i + 1) = (gPairs gs).take i ++ [g0] := by rw [List.take_add_one, hg0]; rfl
      refine ⟨(ρ'.set 4 .any).set 4 (.d (.list (g0.2.map .int))), true, (ρ'.set 4 .any).set 4 (.d (.list (g0.2.map .int))), fun s H C cl fp => ⟨gj_name 4, ets_nil, ?_⟩⟩
      rw [if_pos rfl]
      refine (ee_tupL T.b_tuple (ea_cons (ee_var 4 (by rw [List.getElem?_set_self (by simp [h5])])) ea_nil)).wd ⟨?_, ?_⟩
      · show (((ρ'.set 4 .any).set 4 _).set 4 .any) = _
        rw [List.set_set, List.set_set]
      · rw [et, List.map_append]; rfl
    · obtain ⟨rfl, rfl⟩ := hI
      obtain ⟨r3, hp2, _, _⟩ := r2.unpinned he hd
      obtain ⟨r4, s4⟩ := r2.unpinD he hd
      refine ⟨_, _, rfl, .inl ⟨SqL.of hp2, fun l hl => ?_⟩⟩
      obtain ⟨r5, s5⟩ := r4.new (o := .tup vs) hl
      refine k2 _ _ _ _ _ _ (((s0.trans s2).trans s4).trans s5) r5 (.tup (b := false) upd_same (ra.mono (s4.trans s5))) ?_
      rw [List.length_map, List.take_length, hgp, grpOf_iN, List.length_map]
      unfold grp ntD
      rw [List.map_map, List.map_map]
      rfl
end
end TR
set_option Elab.async false
set_option linter.all false
set_option maxRecDepth 100000
set_option maxHeartbeats 2000000
/-! P8: splits, the seating -/
namespace TR
open PySem PySem.Spec PyProof.Rows L2 DL
theorem dataLt_tup (xs ys : List PyData) : PySem.W.dataLt (.tuple xs) (.tuple ys) = PySem.W.rowLt xs ys := by
  unfold PySem.W.dataLt PySem.W.rowLt
  simp only [PySem.W.keyToks]
theorem py_ints (b : Bool) (ns : List Int) : toPy (.tup b (ns.map .int)) = .tuple (ns.map .int) := by
  simp only [toPy]
  congr 1
  induction ns with
  | nil => simp [toPyA]
  | cons n ns ih => simp [toPyA, toPy, ih]
def leK (a b : List Nat) : Bool := PySem.W.dataLe false (fun k => toPy (keyD k)) (iN a) (iN b)
def splS (d : Nat) (R : List (List Nat)) : List (List Nat) := (splK d R).mergeSort leK
def plD (S : List (List Nat)) (right g : List Nat) : D := .tuple [.int (offs (g.headD 0) S right), ntD g]
def ordG (d : Nat) (R : List (List Nat)) : List (List Nat) := (grp R).mergeSort (PySem.W.dataLe false fun g => toPy (plD (splS d R) (largestF (splS d R)) g))
theorem plD_py (S : List (List Nat)) (right g : List Nat) : toPy (plD S right g) = .tuple [.int (offs (g.headD 0) S right), .tuple ((iN g).map .int)] := by
  unfold plD ntD
  simp only [toPy, toPyA]
  have := py_ints false (iN g)
  simp only [toPy] at this
  rw [this]
theorem alK (ks : List (List Int)) : PySem.W.AllAlike (ks.map fun k => toPy (keyD k)) := PySem.W.AllAlike.of fun b b' => by
  unfold keyD
  rw [py_ints, py_ints]
  show PySem.W.alikeAll _ _ = true
  exact PySem.W.alike_ints _ _
theorem soK {ks : List (List Int)} (h : ∀ k ∈ ks, k ≠ []) : PySem.W.Sortable (ks.map fun k => toPy (keyD k)) := .inl fun d hd => by
  obtain ⟨k, hk, rfl⟩ := List.mem_map.mp hd
  unfold keyD
  rw [py_ints]
  cases k with
  | nil => exact absurd rfl (h _ hk)
  | cons x k => exact ⟨_, _, rfl⟩
theorem alP (S : List (List Nat)) (right : List Nat) (gs : List (List Nat)) : PySem.W.AllAlike (gs.map fun g => toPy (plD S right g)) := PySem.W.AllAlike.of fun b b' => by
  rw [plD_py, plD_py]
  show (true && (PySem.W.alikeAll _ _ && true)) = true
  rw [PySem.W.alike_ints]
  rfl
theorem soP (S : List (List Nat)) (right : List Nat) (gs : List (List Nat)) : PySem.W.Sortable (gs.map fun g => toPy (plD S right g)) := PySem.W.Sortable.tuples fun b => by rw [plD_py]; exact ⟨_, _, rfl⟩
theorem okNt (g : List Nat) : OkD 1 (ntD g) := ok_ints _
theorem okP (S : List (List Nat)) (right g : List Nat) : OkD 2 (plD S right g) := .tup fun y hy => by
  rcases List.mem_cons.mp hy with rfl | hy
  · exact .int
  · rw [List.mem_singleton.mp hy]; exact okNt _
theorem splK_ne {d : Nat} {R : List (List Nat)} {k : List Nat} (h : k ∈ splK d R) : k ≠ [] := by
  have := (List.mem_filter.mp h).2
  intro e
  subst e
  cases this
theorem splS_len {d : Nat} (hd : d ≤ 8) (R : List (List Nat)) : (splS d R).length ≤ 28 := by
  unfold splS splK
  rw [List.length_mergeSort]
  refine Nat.le_trans (List.length_filter_le _ _) ?_
  have : ∀ (l acc : List (List Nat)), (dedupF acc l).length ≤ acc.length + l.length := fun l => by
    induction l with
    | nil => intro acc; exact Nat.le_refl _
    | cons x l ih =>
      intro acc
      show (dedupF (if x ∈ acc then acc else acc ++ [x]) l).length ≤ _
      have := ih (if x ∈ acc then acc else acc ++ [x])
      rw [List.length_cons]
      split at this
      · rename_i hx; rw [if_pos hx]; omega
      · rename_i hx; rw [if_neg hx]; simp at this; omega
  have h2 := this ((pairs d).map (spl d R)) []
  have := pairs_len d hd
  simp at h2
  omega
theorem tt_get {R : List (List Nat)} {i : Nat} (h : i < R.length) : ((tt R).map rD)[i]? = some (rD (true, R.getD i [])) := by
  rw [List.getElem?_map, List.getElem?_map, getD_get (x := []) h]
  rfl
theorem mapIdx_get {α β : Type} {f : Nat → α → β} {l : List α} {y : β} (h : y ∈ l.mapIdx f) : ∃ i x, l[i]? = some x ∧ y = f i x := by
  obtain ⟨i, hi, e⟩ := List.mem_mapIdx.mp h
  exact ⟨i, l[i], List.getElem?_eq_getElem hi, e.symm⟩
section
variable {P : Program} {w : World} {K : PySem.W.Frag} {mg : Str → Option Value} {base : Heap} (T : Tx K mg)
include T
theorem d_splits_with_pairs (d : Nat) (R : List (List Nat)) (hR : RowsOk d (tt R)) : DFn P w K mg base 3 "splits_with_pairs" [.tuple ((tt R).map rD), .int 0] (.dict ((splK d R).map iN)) := by
  refine fnD T.a_splits_with_pairs sc_splits_with_pairs _ _ rfl (by decide) fun f cdv A outer s H E hr => ?_
  have nd := sc_splits_with_pairs.nd
  have h17 : R.length ≤ 17 := by have := hR.hi; simpa using this
  have h1 : 1 ≤ R.length := by have := hR.lo; simpa using this
  have hd8 := hR.d8
  have rk : ∀ r ∈ R, IsRk d r := fun r hr => hR.rk (true, r) (List.mem_map.mpr ⟨r, hr, rfl⟩)
  have g0 := tt_get h1
  have r0 : IsRk d (R.getD 0 []) := rk _ (getD_mem h1)
  have hpl := pairs_len d hd8
  let dcD : List Nat → D := fun r => .dict ((diffs d (R.getD 0 []) r).map pKey)
  refine sb_cons (sj_setLc (own := [("ranking", 6)]) 2 R (fun r => rD (true, r)) (fun _ => true) dcD (EI.toL (ei_tup (ee_var 0 rfl)) ?_) (by kernel_rfl) rfl (by omega) (fun r hrm => ?_) ?_)
  · rw [List.map_map]; rfl
  · refine ⟨[.d (.tuple ((tt R).map rD)), .d (.int 0), .any, .any, .any, .any, .d (rD (true, r)), .any, .any], fun s H C cl fp => ⟨gj_name 6, rfl, ets_nil, fun _ => EE.to (ee_dc (own := [("pair", 4)]) (diffs d (R.getD 0 []) r) pairD (fun _ => true) pKey (fun _ => .bool true) (units64 hr) (EI.toL (ei_tup (ee_call (d_differences T d (true, R.getD 0 []) (true, r) r0 (rk r hrm) hd8) hr (ea_cons (ee_ixT (i := 0) (ee_var 0 rfl) (ee_var 1 rfl) (atI_nat (n := 0) g0)) (ea_cons (ee_var 6 rfl) ea_nil)))) rfl) (by kernel_rfl) rfl ?_ ?_ fun p hp => ⟨[.d (.tuple ((tt R).map rD)), .d (.int 0), .any, .any, .d (pairD p), .any, .d (rD (true, r)), .any, .any], fun s H C cl fp => ⟨gj_name 4, rfl, ets_nil, fun _ => ⟨ee_var 4 rfl, ee_bl⟩⟩⟩) ?_⟩⟩
    · have := diffs_len hd8 (R.getD 0 []) r; omega
    · rw [List.filter_eq_self.mpr fun _ _ => rfl]
      exact List.Pairwise.map _ (fun a b h e => h (pKey_inj e)) (diffs_nodup hd8 _ _)
    · rw [List.filter_eq_self.mpr fun _ _ => rfl]
  rw [List.filter_eq_self.mpr fun _ _ => rfl]
  refine sb_cons (sj_newD 3 (sb_cons (sj_for (ei_list (ee_call (d_all_pairs T d (by omega)) hr (ea_cons (EE.to (ee_lenT T.b_len (ea_cons (ee_ixT (i := 0) (ee_var 0 rfl) ee_int (atI_nat (n := 0) g0)) ea_nil)) (by rw [rD_len, r0.len])) ea_nil)))
    (fun i ρ => ∃ kvs x y, kvs.map (·.1) = (dedupF [] (((pairs d).take i).map (spl d R))).map iN ∧ kvs.length ≤ i ∧ ρ = [.d (.tuple ((tt R).map rD)), .d (.int 0), .d (.list (R.map dcD)), .ownD kvs, x, y, .any, .any, .any]) ⟨[], .any, .any, rfl, Nat.le_refl _, rfl⟩ (fun i y ρ hy hI => ?_) fun ρ hI => ?_)))
  · obtain ⟨kvs, x, y', hk, hkl, rfl⟩ := hI
    rw [List.getElem?_map] at hy
    obtain ⟨p, hp, rfl⟩ := Option.map_eq_some_iff.mp hy
    have hi : i < (pairs d).length := (List.getElem?_eq_some_iff.mp hp).1
    have et : (pairs d).take (i + 1) = (pairs d).take i ++ [p] := by rw [List.take_add_one, hp]; rfl
    have eD : dedupF [] (((pairs d).take (i + 1)).map (spl d R)) = if spl d R p ∈ dedupF [] (((pairs d).take i).map (spl d R)) then dedupF [] (((pairs d).take i).map (spl d R)) else dedupF [] (((pairs d).take i).map (spl d R)) ++ [spl d R p] := by
      rw [et, List.map_append]
      exact dedupF_snoc _ _ _
    have hmem : iN (spl d R p) ∈ kvs.map (·.1) ↔ spl d R p ∈ dedupF [] (((pairs d).take i).map (spl d R)) := by
      rw [hk]
      constructor
      · intro h
        obtain ⟨k, hk, e⟩ := List.mem_map.mp h
        exact iN_inj e ▸ hk
      · intro h
        exact List.mem_map.mpr ⟨_, h, rfl⟩
    refine ⟨[4], [.d (.tuple ((tt R).map rD)), .d (.int 0), .d (.list (R.map dcD)), .ownD kvs, .d (pairD p), y', .any, .any, .any], gj_name 4, ?_⟩
    refine sb_cons (sj_set 5 (x := ntD (spl d R p)) (EE.to (ee_tupL T.b_tuple (ea_cons (ee_lcf (own := [("other", 7), ("pairs", 8)]) (R.mapIdx fun i r => (i, r)) (fun q => .tuple [.int (q.1 : Nat), dcD q.2]) (fun q => decide (pKey p ∈ (diffs d (R.getD 0 []) q.2).map pKey)) (fun q => .int (q.1 : Nat)) (ei_enumL T.b_enumerate (ee_var 2 rfl)) ?_ (by kernel_rfl) rfl ?_ fun q hq => ⟨[.d (.tuple ((tt R).map rD)), .d (.int 0), .d (.list (R.map dcD)), .ownD kvs, .d (pairD p), y', .any, .d (.int (q.1 : Nat)), .d (dcD q.2)], fun s H C cl fp => ⟨gj_tup (gjs_cons (gj_name 7) (gjs_cons (gj_name 8) gjs_nil)), rfl, et_cmpD (od_inD (units64 hr)) rfl (ee_var 4 rfl) (ee_var 8 rfl), fun _ => ee_var 7 rfl⟩⟩) ea_nil)) ?_) (sb_one (sj_setd 3 (kvs := kvs) (units64 hr) (ee_var 5 rfl) (ee_var 4 rfl) (by omega) (fun h => ?_) (fun h => ?_) ⟨_, rfl⟩)))
    · unfold enumD
      apply List.ext_getElem
      · simp
      · intro i h1 h2; simp
    · simp; omega
    · unfold ntD spl
      congr 1
      unfold iN
      rw [List.map_map]
      have e2 : (R.mapIdx fun i r => (i, r)) = (List.range R.length).map fun j => (j, R.getD j []) := by
        apply List.ext_getElem
        · simp
        · intro j h1 h2
          simp at h1
          simp [List.getD_eq_getElem?_getD, List.getElem?_eq_getElem h1]
      rw [e2, List.filter_map, List.map_map]
      congr 1
      refine congrArg (fun g => (List.range R.length).filter g) (funext fun j => ?_)
      show decide (pKey p ∈ (diffs d (R.getD 0 []) (R.getD j [])).map pKey) = decide (p ∈ diffs d (R.getD 0 []) (R.getD j []))
      rw [decide_eq_decide]
      constructor
      · intro h
        obtain ⟨u, hu, e⟩ := List.mem_map.mp h
        exact pKey_inj e ▸ hu
      · intro h
        exact List.mem_map.mpr ⟨p, h, rfl⟩
    · exact ⟨kvs, _, _, by rw [eD, if_pos (hmem.mp h)]; exact hk, by omega, rfl⟩
    · refine ⟨kvs ++ [(iN (spl d R p), pairD p)], _, _, ?_, by simp; omega, rfl⟩
      rw [eD, if_neg (fun z => h (hmem.mpr z)), List.map_append, List.map_append, hk]
      rfl
  · obtain ⟨kvs, x, y, hk, hkl, rfl⟩ := hI
    rw [List.length_map, List.take_length] at hk
    rw [List.length_map] at hkl
    refine SB.forget 4 (SB.forget 5 (sb_one (sj_ret (EE.to (ee_dc (own := [("split", 5), ("pair", 4)]) kvs (fun kv => .tuple [keyD kv.1, kv.2]) (fun kv => !kv.1.isEmpty) (·.1) (·.2) (units64 hr) (ei_items 3 (kvs := kvs)) (by kernel_rfl) rfl (by omega) ?_ fun kv hkv => ⟨[.d (.tuple ((tt R).map rD)), .d (.int 0), .d (.list (R.map dcD)), .any, .d kv.2, .d (keyD kv.1), .any, .any, .any], fun s H C cl fp => ⟨gj_tup (gjs_cons (gj_name 5) (gjs_cons (gj_name 4) gjs_nil)), rfl, ets_one (ET.to (et_cmpD (od_ne (units64 hr) (ok_ints (b := false) kv.1).sh (ok_ints (b := false) []).sh) (nomark _) (ee_var 5 rfl) (ee_tup ea_nil)) ?_), fun _ => ⟨ee_var 5 rfl, ee_var 4 rfl⟩⟩⟩) ?_) rfl)))
    · have hn : (kvs.map (·.1)).Nodup := by
        rw [hk]
        exact List.Pairwise.map _ (fun a b h e => h (iN_inj e)) (dedupF_nodup _ _ List.nodup_nil)
      exact hn.sublist (List.Sublist.map _ List.filter_sublist)
    · rw [eqv_tups]
      cases kv.1 with
      | nil => rfl
      | cons a b => rfl
    · congr 1
      unfold splK
      have e1 : (kvs.filter fun kv => !kv.1.isEmpty).map (·.1) = (kvs.map (·.1)).filter fun k => !k.isEmpty := by
        rw [List.filter_map]
        rfl
      rw [e1, hk, List.filter_map]
      congr 1
      refine congrArg (fun g => List.filter g _) (funext fun k => ?_)
      unfold iN
      cases k <;> rfl
theorem d_splits (d : Nat) (R : List (List Nat)) (hR : RowsOk d (tt R)) : DFn P w K mg base 4 "splits" [tabD d (tt R), .int 0] (.tuple ((splS d R).map ntD)) := by
  refine fnD T.a_splits sc_splits _ _ rfl (by decide) fun f cdv A outer s H E hr => ?_
  have nd := sc_splits.nd
  have h17 := hR.hi
  have h1 := hR.lo
  refine sb_cons (sj_if (et_not (et_val (t := true) (ee_call (d_int_in T (v := 0) (lo := 0) (hi := ((tt R).length : Nat) - 1) (by omega) (by omega)) hr (ea_cons (ee_var 1 rfl) (ea_cons ee_int (ea_cons (ee_opD od_sub (EE.to (ee_lenT T.b_len (ea_cons (ee_ixT (i := 1) (ee_var 0 rfl) ee_int rfl) ea_nil)) (by simp)) ee_int) ea_nil)))))) (fun h => nomatch h) fun _ => sb_nil (sb_one (sj_ret (EE.to (ee_tupL T.b_tuple (ea_cons (EE.of_o (eo_sortedD _ T.b_sorted hr (ee_call (d_splits_with_pairs T d R hR) hr (ea_cons (ee_call (d_rankings_of T (.int d) (tt R) (by omega)) hr (ea_cons (ee_var 0 rfl) ea_nil)) (ea_cons (ee_var 1 rfl) ea_nil))) rfl (alK _) (soK ?_) ?_)) ea_nil)) ?_) rfl)))
  · intro k hk
    obtain ⟨k0, hk0, rfl⟩ := List.mem_map.mp hk
    have := splK_ne hk0
    unfold iN
    simpa using this
  · intro k hk
    have := (ok_ints (b := false) k).depth
    show (toPy (.tup false (k.map .int))).depth ≤ 50
    omega
  · unfold splS
    rw [← List.map_mergeSort (r := leK) (f := iN) (fun a _ b _ => rfl), List.map_map]
    rfl
theorem d_candidate_order (d : Nat) (R : List (List Nat)) (hR : RowsOk d (tt R)) : DFn P w K mg base 5 "candidate_order" [tabD d (tt R)] (.list ((ordG d R).map ntD)) := by
  refine fnD T.a_candidate_order sc_candidate_order _ _ rfl (by decide) fun f cdv A outer s H E hr => ?_
  have nd := sc_candidate_order.nd
  have h17 : R.length ≤ 17 := by have := hR.hi; simpa using this
  have hgl := grp_len R
  have hsl := splS_len hR.d8 R
  refine sb_cons (sj_set 1 (ee_call (d_splits T d R hR) hr (ea_cons (ee_var 0 rfl) (ea_cons ee_int ea_nil))) (sb_cons (sj_set 2 (ee_call (d_largest T (splS d R) (by omega)) hr (ea_cons (ee_var 1 rfl) ea_nil)) (sb_cons (sj_set 3 (x := .list ((ordG d R).map (plD (splS d R) (largestF (splS d R))))) (EE.of_o (eo_sorted (plD (splS d R) (largestF (splS d R))) (grp R) _ T.b_sorted hr (ee_lcm (own := [("group", 5)]) (grp R) ntD (plD (splS d R) (largestF (splS d R))) (ei_tup (ee_call (d_groups T d R h17) hr (ea_cons (ee_var 0 rfl) ea_nil))) rfl (by kernel_rfl) rfl (by omega) fun g hg => ?_) rfl (alP _ _ _) (soP _ _ _) (by omega) (fun g _ => ?_) fun g _ => (okP _ _ g).clean)) (sb_one (sj_ret (ee_lcm (own := [("offset", 4), ("group", 5)]) (ordG d R) (plD (splS d R) (largestF (splS d R))) ntD (ei_list (ee_var 3 rfl)) rfl (by kernel_rfl) rfl ?_ fun g hg => ⟨[.d (tabD d (tt R)), .d (.tuple ((splS d R).map ntD)), .d (ntD (largestF (splS d R))), .d (.list ((ordG d R).map (plD (splS d R) (largestF (splS d R))))), .d (.int (offs (g.headD 0) (splS d R) (largestF (splS d R)))), .d (ntD g)], fun s H C cl fp => ⟨gj_tup (gjs_cons (gj_name 4) (gjs_cons (gj_name 5) gjs_nil)), rfl, ee_var 5 rfl⟩⟩) rfl)))))))
  · obtain ⟨hne, _⟩ := grp_facts hg
    have h0 : ((iN g).map D.int)[0]? = some (.int (g.headD 0 : Nat)) := by
      cases g with
      | nil => exact absurd rfl hne
      | cons a b => rfl
    exact ⟨[.d (tabD d (tt R)), .d (.tuple ((splS d R).map ntD)), .d (ntD (largestF (splS d R))), .any, .any, .d (ntD g)], fun s H C cl fp => ⟨gj_name 5, rfl, ee_tup (xs := [.int (offs (g.headD 0) (splS d R) (largestF (splS d R))), ntD g]) (ea_cons (ee_call (d_offset_of T (g.headD 0) (splS d R) (largestF (splS d R)) (by omega)) hr (ea_cons (ee_ixT (i := 0) (ee_var 5 rfl) ee_int (atI_nat (n := 0) h0)) (ea_cons (ee_var 1 rfl) (ea_cons (ee_var 2 rfl) ea_nil)))) (ea_cons (ee_var 5 rfl) ea_nil))⟩⟩
  · have := (okP (splS d R) (largestF (splS d R)) g).depth; omega
  · unfold ordG; rw [List.length_mergeSort]; omega
end
end TR
set_option Elab.async false
set_option linter.all false
set_option maxRecDepth 100000
set_option maxHeartbeats 2000000
/-! P9: seatings, medians, insert positions -/
namespace TR
open PySem PySem.Spec PyProof.Rows L2 DL
structure Seat (d : Nat) (R : List (List Nat)) : Prop where
  fl : (ordG d R).flatten = List.range R.length
  on : once d R (List.range R.length) = true
theorem perm_ge : ∀ (m k : Nat) (l : List Nat), l.Perm (List.range' k m) → ¬ iN l < iN (List.range' k m)
  | 0, k, l, h => by
    have : l = [] := List.perm_nil.mp h
    subst this
    exact List.lt_irrefl _
  | m + 1, k, [], h => by
    have := h.length_eq
    simp at this
  | m + 1, k, x :: l, h => by
    have hx : x ∈ List.range' k (m + 1) := h.mem_iff.mp List.mem_cons_self
    have hx := List.mem_range'_1.mp hx
    rw [List.range'_succ] at h ⊢
    show ¬ ((x : Int) :: iN l < (k : Int) :: iN (List.range' (k + 1) m))
    rw [List.cons_lt_cons_iff]
    rintro (z | ⟨z1, z2⟩)
    · omega
    · have e : x = k := by omega
      subst e
      exact perm_ge m (x + 1) l (List.perm_cons x |>.mp h) z2
theorem nt_ge {n : Nat} {l : List Nat} (h : l.Perm (List.range n)) : PySem.W.dataLt (toPy (ntD l)) (toPy (ntD (List.range n))) = false := by
  unfold ntD
  rw [py_ints, py_ints, dataLt_tup, PySem.W.dataLt_ints]
  refine decide_eq_false ?_
  rw [List.range_eq_range'] at h ⊢
  exact perm_ge n 0 l h
theorem ordG_perm (d : Nat) (R : List (List Nat)) : (ordG d R).Perm (grp R) := List.mergeSort_perm _ _
theorem ordG_mem {d : Nat} {R : List (List Nat)} {g : List Nat} (h : g ∈ ordG d R) : g ≠ [] ∧ ∀ x ∈ g, x < R.length := grp_facts ((ordG_perm d R).mem_iff.mp h)
theorem ordG_len (d : Nat) (R : List (List Nat)) : (ordG d R).length ≤ R.length := by rw [(ordG_perm d R).length_eq]; exact grp_len R
theorem flat_ge {α : Type} : ∀ {G : List (List α)} {g : List α}, g ∈ G → g.length ≤ G.flatten.length
  | [], _, h => nomatch h
  | x :: G, g, h => by
    rw [List.flatten_cons, List.length_append]
    rcases List.mem_cons.mp h with rfl | h
    · omega
    · have := flat_ge h; omega
theorem Seat.glen {d : Nat} {R : List (List Nat)} (h : Seat d R) {g : List Nat} (hg : g ∈ ordG d R) : g.length ≤ R.length := by
  have := flat_ge hg
  rw [h.fl, List.length_range] at this
  exact this
theorem Seat.head {d : Nat} {R : List (List Nat)} (h : Seat d R) (hn : 1 ≤ R.length) : ∃ g G, ordG d R = g :: G ∧ 0 ∈ g := by
  have hf := h.fl
  cases e : ordG d R with
  | nil =>
    rw [e] at hf
    have := congrArg List.length hf
    simp at this
    omega
  | cons g G =>
    have hg := (ordG_mem (d := d) (R := R) (g := g) (by rw [e]; exact List.mem_cons_self)).1
    cases g with
    | nil => exact absurd rfl hg
    | cons x g =>
      rw [e] at hf
      have h0 : List.range R.length = 0 :: (List.range (R.length - 1)).map Nat.succ := by
        obtain ⟨m, hm⟩ : ∃ m, R.length = m + 1 := ⟨R.length - 1, by omega⟩
        rw [hm, List.range_succ_eq_map]
        rfl
      rw [h0] at hf
      simp only [List.flatten_cons, List.cons_append, List.cons.injEq] at hf
      exact ⟨_, _, rfl, by rw [hf.1]; exact List.mem_cons_self⟩
def leR (a b : List Nat) : Bool := PySem.W.dataLe false (fun r => toPy (rD (true, r))) a b
theorem alR (rs : List (List Nat)) : PySem.W.AllAlike (rs.map fun r => toPy (rD (true, r))) := PySem.W.AllAlike.of fun b b' => by
  unfold rD
  rw [py_ints, py_ints]
  show PySem.W.alikeAll _ _ = true
  exact PySem.W.alike_ints _ _
theorem soR {rs : List (List Nat)} (h : ∀ r ∈ rs, r ≠ []) : PySem.W.Sortable (rs.map fun r => toPy (rD (true, r))) := .inl fun d hd => by
  obtain ⟨r, hr, rfl⟩ := List.mem_map.mp hd
  unfold rD
  rw [py_ints]
  cases r with
  | nil => exact absurd rfl (h _ hr)
  | cons x k => exact ⟨_, _, rfl⟩
theorem okRk (q : Row) : OkD 1 (rD q) := ok_ints _
theorem rk_ne {d : Nat} {r : List Nat} (h : IsRk d r) (hd : 1 ≤ d) : r ≠ [] := fun e => by
  have := h.len
  rw [e] at this
  simp at this
  omega
theorem ones_sum {α : Type} : ∀ g : List α, (g.map fun _ => (1 : Int)).sum = (g.length : Int)
  | [] => rfl
  | _ :: g => by rw [List.map_cons, List.sum_cons, ones_sum g, List.length_cons]; omega
def mrD (q : List Nat × Int) : D := .tuple [rD (true, q.1), .int q.2]
section
variable {P : Program} {w : World} {K : PySem.W.Frag} {mg : Str → Option Value} {base : Heap} (T : Tx K mg)
include T
theorem d_find_seating (d : Nat) (R : List (List Nat)) (hR : RowsOk d (tt R)) (hs : Seat d R) : DFn P w K mg base 6 "find_seating" [tabD d (tt R)] (ntD (List.range R.length)) := by
  refine fnD T.a_find_seating sc_find_seating _ _ rfl (by decide) fun f cdv A outer s H E hr => ?_
  have nd := sc_find_seating.nd
  have h17 : R.length ≤ 17 := by have := hR.hi; simpa using this
  have hol := ordG_len d R
  have hrev : (ordG d R).reverse.flatten.Perm (List.range R.length) := by
    rw [← hs.fl]
    exact (List.reverse_perm _).flatten
  refine sb_cons (sj_set 1 (ee_call (d_candidate_order T d R hR) hr (ea_cons (ee_var 0 rfl) ea_nil)) (sb_cons (sj_set 2 (x := ntD (List.range R.length)) (EE.to (ee_minT (x := ntD (List.range R.length)) (y := ntD (ordG d R).reverse.flatten) T.b_min hr (ea_cons (EE.to (ee_call (d_flatten T (ordG d R) (by omega) fun g hg => by have := hs.glen hg; omega) hr (ea_cons (ee_var 1 rfl) ea_nil)) (by rw [hs.fl])) (ea_cons (ee_call (d_flatten T (ordG d R).reverse (by simp; omega) fun g hg => by have := hs.glen (List.mem_reverse.mp hg); omega) hr (ea_cons (EE.to (EE.of_o (eo_revL (ee_var 1 rfl))) (by rw [List.map_reverse])) ea_nil)) ea_nil)) ?_ ?_ (okNt _).clean (okNt _).clean) ?_) (sb_one (sj_ret (ee_ifS (t := true) (et_val (ee_call ((d_changes_once T d (tt R) hR (List.range R.length) (fun t ht => by simpa using ht) (by simp; omega)).to rfl (by rw [rws_tt, hs.on])) hr (ea_cons (ee_call (d_rankings_of T (.int d) (tt R) (by simp; omega)) hr (ea_cons (ee_var 0 rfl) ea_nil)) (ea_cons (ee_var 2 rfl) ea_nil)))) (fun _ => ee_var 2 rfl) fun h => nomatch h) rfl)))))
  · refine ⟨fun a ha b hb => ?_, fun a ha => ?_⟩
    · have key : ∀ a b : List Nat, PySem.W.alike (toPy (ntD a)) (toPy (ntD b)) = true := fun a b => by
        unfold ntD
        rw [py_ints, py_ints]
        exact PySem.W.alike_ints _ _
      rcases List.mem_cons.mp ha with rfl | ha
      · rcases List.mem_cons.mp hb with rfl | hb
        · exact key _ _
        · rw [List.mem_singleton.mp hb]; exact key _ _
      · rw [List.mem_singleton.mp ha]
        rcases List.mem_cons.mp hb with rfl | hb
        · exact key _ _
        · rw [List.mem_singleton.mp hb]; exact key _ _
    · rcases List.mem_cons.mp ha with rfl | ha
      · unfold ntD; rw [py_ints]; exact fun z => nomatch z
      · rw [List.mem_singleton.mp ha]; unfold ntD; rw [py_ints]; exact fun z => nomatch z
  · have h1 := (okNt (List.range R.length)).depth
    have h2 := (okNt (ordG d R).reverse.flatten).depth
    simp only [PyData.depthAll]
    omega
  · rw [nt_ge hrev, if_neg Bool.false_ne_true]
theorem d_first_seating (d : Nat) (R : List (List Nat)) (hR : RowsOk d (tt R)) (hs : Seat d R) : DFn P w K mg base 7 "first_seating" [tabD d (tt R)] (ntD (List.range R.length)) := by
  refine fnD T.a_first_seating sc_first_seating _ _ rfl (by decide) fun f cdv A outer s H E hr => ?_
  have nd := sc_first_seating.nd
  exact sb_cons (sj_set 1 (ee_call (d_find_seating T d R hR hs) hr (ea_cons (ee_var 0 rfl) ea_nil)) (sb_cons (sj_if (et_cmpD od_isN (nomark _) (ee_var 1 rfl) ee_non) (fun h => nomatch h) fun _ => sb_nil (sb_one (sj_ret (ee_var 1 rfl) rfl)))))
theorem d_group_order (d : Nat) (R : List (List Nat)) (hR : RowsOk d (tt R)) (hs : Seat d R) : DFn P w K mg base 8 "group_order" [tabD d (tt R)] (.tuple ((ordG d R).map ntD)) := by
  refine fnD T.a_group_order sc_group_order _ _ rfl (by decide) fun f cdv A outer s H E hr => ?_
  have nd := sc_group_order.nd
  have h1 : 1 ≤ R.length := by have := hR.lo; simpa using this
  obtain ⟨g, G, eg, h0⟩ := hs.head h1
  have e1 : ((iN (List.range R.length)).map D.int)[0]? = some (.int (0 : Nat)) := iND_get (by rw [List.getElem?_range h1])
  have e2 : ((ordG d R).map ntD)[0]? = some (ntD g) := by rw [eg]; rfl
  refine sb_cons (sj_set 1 (ee_call (d_first_seating T d R hR hs) hr (ea_cons (ee_var 0 rfl) ea_nil)) (sb_cons (sj_set 2 (ee_call (d_candidate_order T d R hR) hr (ea_cons (ee_var 0 rfl) ea_nil)) (sb_one (sj_ret (ee_tupL T.b_tuple (ea_cons (ee_ifS (t := true) (ET.to (et_cmpD (od_in (ns := iN g)) rfl (ee_ixT (i := 0) (ee_var 1 rfl) ee_int (atI_nat (n := 0) e1)) (ee_ixL (i := 0) (ee_var 2 rfl) ee_int (atI_nat (n := 0) e2))) ?_) (fun _ => ee_var 2 rfl) fun h => nomatch h) ea_nil)) rfl)))))
  rw [decide_eq_true]
  exact mem_iN.mpr h0
theorem d_medians_of (d : Nat) (hd1 : 1 ≤ d) (rows : List (List Nat × Int)) (hl : rows.length ≤ 17) (hrk : ∀ q ∈ rows, IsRk d q.1) (hb : ∀ q ∈ rows, 0 ≤ q.2 ∧ q.2 ≤ 1000) : DFn P w K mg base 1 "medians_of" [.list (rows.map mrD)] (.tuple (((medRaw rows).mergeSort leR).map fun r => rD (true, r))) := by
  refine fnD T.a_medians_of sc_medians_of _ _ rfl (by decide) fun f cdv A outer s H E hr => ?_
  have nd := sc_medians_of.nd
  let W : Int := (rows.map (·.2)).sum
  let st : Nat → List (List Nat) × Int := fun i => (rows.take i).foldl (medS W) ([], 0)
  have hst : ∀ i r, r ∈ (st i).1 → IsRk d r := fun i r h => medS_mem W (rows.take i) ([], 0) (fun r h => nomatch h) (fun q hq => hrk q (List.mem_of_mem_take hq)) r h
  have hstl : ∀ i, (st i).1.length ≤ 17 := fun i => by
    have := medS_len W (rows.take i) ([], 0)
    have h2 := List.length_take_le i rows
    simp only [List.length_take, List.length_nil] at this
    show ((rows.take i).foldl (medS W) ([], 0)).1.length ≤ 17
    omega
  refine sb_cons (sj_set 1 (x := .int W) (ee_sum (ns := rows.map (·.2)) T.b_sum (ea_cons (EE.to (ee_lcm (own := [("ranking", 4), ("weight", 5)]) rows mrD (fun q => .int q.2) (ei_list (ee_var 0 rfl)) rfl (by kernel_rfl) rfl (by omega) fun q hq => ⟨[.d (.list (rows.map mrD)), .any, .any, .any, .d (rD (true, q.1)), .d (.int q.2)], fun s H C cl fp => ⟨gj_tup (gjs_cons (gj_name 4) (gjs_cons (gj_name 5) gjs_nil)), rfl, ee_var 5 rfl⟩⟩) (by rw [List.map_map]; rfl)) ea_nil)) (sb_cons (sj_parO 2 3 (eo_lst ea_nil) ee_int (sb_cons (sj_for (ei_list (ee_var 0 rfl)) (fun i ρ => ∃ x y, ρ = [.d (.list (rows.map mrD)), .d (.int W), .own ((st i).1.map fun r => rD (true, r)), .d (.int (st i).2), x, y]) ⟨.any, .any, rfl⟩ (fun i y ρ hy hI => ?_) fun ρ hI => ?_)))))
  · obtain ⟨x, z, rfl⟩ := hI
    rw [List.getElem?_map] at hy
    obtain ⟨q, hq, rfl⟩ := Option.map_eq_some_iff.mp hy
    have et : st (i + 1) = medS W (st i) q := by
      show (rows.take (i + 1)).foldl (medS W) ([], 0) = _
      rw [List.take_add_one, hq, Option.toList_some, List.foldl_append]
      rfl
    refine ⟨[4, 5], [.d (.list (rows.map mrD)), .d (.int W), .own ((st i).1.map fun r => rD (true, r)), .d (.int (st i).2), .d (rD (true, q.1)), .d (.int q.2)], gj_tup (gjs_cons (gj_name 4) (gjs_cons (gj_name 5) gjs_nil)), sb_cons (sj_if (t := ((st i).1.isEmpty && decide (W ≤ 2 * ((st i).2 + q.2))) || decide (2 * (st i).2 = W)) (et_or2 (et_and2 (ET.to (et_ownEq (units64 hr) 2 ((OkD.lst (ok_map fun r _ => okRk (true, r))).sh)) ?_) fun _ => et_cmpD od_ge (nomark _) (ee_opD (od_mul (.inl ⟨by decide, by decide⟩)) ee_int (ee_opD od_add (ee_var 3 rfl) (ee_var 5 rfl))) (ee_var 1 rfl)) fun _ => et_cmpD od_eqi (nomark _) (ee_opD (od_mul (.inl ⟨by decide, by decide⟩)) ee_int (ee_var 3 rfl)) (ee_var 1 rfl)) (fun h => sb_one (sj_append (ρ0 := []) 2 ((ee_var 4 rfl).wd ⟨_, rfl, ?_, ?_⟩) ⟨_, rfl⟩)) fun h => sb_nil ?_)⟩
    · rw [List.isEmpty_map]
    · rw [List.length_map]; have := hstl i; omega
    · refine sb_one (sj_set 3 (ee_opD od_add (ee_var 3 rfl) (ee_var 5 rfl)) ⟨.d (rD (true, q.1)), .d (.int q.2), ?_⟩)
      rw [et]
      unfold medS
      rw [if_pos h, List.map_append]
      rfl
    · refine sb_one (sj_set 3 (ee_opD od_add (ee_var 3 rfl) (ee_var 5 rfl)) ⟨.d (rD (true, q.1)), .d (.int q.2), ?_⟩)
      rw [et]
      unfold medS
      rw [h, if_neg Bool.false_ne_true]
      rfl
  · obtain ⟨x, z, rfl⟩ := hI
    have em : medRaw rows = (st rows.length).1 := by
      unfold medRaw
      rw [medGo_fold]
      show _ = ((rows.take rows.length).foldl (medS W) ([], 0)).1
      rw [List.take_length]
    rw [List.length_map]
    refine sb_one (sj_ret (EE.to (ee_tupL T.b_tuple (ea_cons (EE.of_o (eo_sorted (fun r => rD (true, r)) (medRaw rows) leR T.b_sorted hr (EE.to (ee_froz 2 rfl) (by rw [em])) rfl (alR _) (soR fun r hr => rk_ne (hst _ r (em ▸ hr)) hd1) ?_ (fun r _ => ?_) fun r _ => (okRk (true, r)).clean)) ea_nil)) rfl) rfl)
    · rw [em]; have := hstl rows.length; omega
    · have := (okRk (true, r)).depth; omega
theorem d_medians (d : Nat) (R : List (List Nat)) (hR : RowsOk d (tt R)) (hs : Seat d R) : DFn P w K mg base 9 "medians" [tabD d (tt R)] (.tuple (((medRaw (medRows R (ordG d R))).mergeSort leR).map fun r => rD (true, r))) := by
  refine fnD T.a_medians sc_medians _ _ rfl (by decide) fun f cdv A outer s H E hr => ?_
  have nd := sc_medians.nd
  have h17 : R.length ≤ 17 := by have := hR.hi; simpa using this
  have hol := ordG_len d R
  have rk : ∀ r ∈ R, IsRk d r := fun r hr => hR.rk (true, r) (List.mem_map.mpr ⟨r, hr, rfl⟩)
  let mr : List Nat → List Nat × Int := fun g => (R.getD (g.headD 0) [], (g.length : Int))
  have tg : ∀ t, t < R.length → ((tt R).map rowD)[t]? = some (.tuple [rD (true, R.getD t []), .int 1]) := fun t ht => by
    rw [List.getElem?_map, List.getElem?_map, getD_get (x := []) ht]
    rfl
  refine sb_cons (sj_own 1 (xs := []) (eo_lst ea_nil) (sb_cons (sj_for (ei_tup (ee_call (d_group_order T d R hR hs) hr (ea_cons (ee_var 0 rfl) ea_nil))) (fun i ρ => ∃ x, ρ = [.d (tabD d (tt R)), .own (((ordG d R).take i).map fun g => mrD (mr g)), x, .any]) ⟨.any, rfl⟩ (fun i y ρ hy hI => ?_) fun ρ hI => ?_)))
  · obtain ⟨x, rfl⟩ := hI
    rw [List.getElem?_map] at hy
    obtain ⟨g, hg, rfl⟩ := Option.map_eq_some_iff.mp hy
    have et : (ordG d R).take (i + 1) = (ordG d R).take i ++ [g] := by rw [List.take_add_one, hg]; rfl
    obtain ⟨hne, hlt⟩ := ordG_mem (List.mem_of_getElem? hg)
    have hgl := hs.glen (List.mem_of_getElem? hg)
    have hh : g.headD 0 < R.length := by
      cases g with
      | nil => exact absurd rfl hne
      | cons a b => exact hlt a List.mem_cons_self
    have h0 : ((iN g).map D.int)[0]? = some (.int (g.headD 0 : Nat)) := by
      cases g with
      | nil => exact absurd rfl hne
      | cons a b => rfl
    refine ⟨[2], [.d (tabD d (tt R)), .own (((ordG d R).take i).map fun g => mrD (mr g)), .d (ntD g), .any], gj_name 2, sb_one (sj_append (ρ0 := []) 1 ((EE.to (y := mrD (mr g)) (ee_tup (xs := [rD (true, R.getD (g.headD 0) []), .int (g.length : Nat)]) (ea_cons (ee_ixT (i := 0) (ee_ixT (ee_ixT (i := 1) (ee_var 0 rfl) ee_int rfl) (ee_ixT (i := 0) (ee_var 2 rfl) ee_int (atI_nat (n := 0) h0)) (atI_nat (tg _ hh))) ee_int rfl) (ea_cons (EE.to (ee_sum (ns := g.map fun _ => 1) T.b_sum (ea_cons (EE.to (ee_lcm (own := [("taster", 3)]) g (fun t => .int (t : Nat)) (fun _ => .int 1) (ei_tup (ee_var 2 rfl)) ?_ (by kernel_rfl) rfl (by omega) fun t ht => ⟨[.d (tabD d (tt R)), .own (((ordG d R).take i).map fun g => mrD (mr g)), .d (ntD g), .d (.int (t : Nat))], fun s H C cl fp => ⟨gj_name 3, rfl, ee_ixT (i := 1) (ee_ixT (ee_ixT (i := 1) (ee_var 0 rfl) ee_int rfl) (ee_var 3 rfl) (atI_nat (tg _ (hlt t ht)))) ee_int rfl⟩⟩) ?_) ea_nil)) ?_) ea_nil))) rfl).wd ⟨_, rfl, ?_, .d (ntD g), ?_⟩) ⟨_, rfl⟩)⟩
    · simp [iN]
    · rw [List.map_map]; rfl
    · rw [ones_sum]
    · rw [List.length_map, List.length_take]; omega
    · rw [et, List.map_append]; rfl
  · obtain ⟨x, rfl⟩ := hI
    rw [List.length_map, List.take_length]
    refine sb_one (sj_ret (ee_call (d_medians_of T d hR.d1 (medRows R (ordG d R)) ?_ (fun q hq => ?_) fun q hq => ?_) hr (ea_cons (EE.to (ee_froz 1 rfl) ?_) ea_nil)) rfl)
    · unfold medRows; rw [List.length_map]; omega
    · obtain ⟨g, hg, rfl⟩ := List.mem_map.mp hq
      obtain ⟨hne, hlt⟩ := ordG_mem hg
      cases g with
      | nil => exact absurd rfl hne
      | cons a b => exact rk _ (getD_mem (hlt a List.mem_cons_self))
    · obtain ⟨g, hg, rfl⟩ := List.mem_map.mp hq
      have := hs.glen hg
      exact ⟨by show (0 : Int) ≤ (g.length : Int); omega, by show (g.length : Int) ≤ 1000; omega⟩
    · unfold medRows; rw [List.map_map]; rfl
end
end TR
set_option Elab.async false
set_option linter.all false
set_option maxRecDepth 100000
set_option maxHeartbeats 2000000
/-! P10: insert positions, the line's own answers -/
namespace TR
open PySem PySem.Spec PyProof.Rows L2 DL
def chD (x : Nat × Int × Int) : D := .tuple [.int x.1, .int x.2.1, .int x.2.2]
def iiD (x : Int × Int) : D := .tuple [.int x.1, .int x.2]
theorem iiD_py (b : Int × Int) : toPy (iiD b) = .tuple [.int b.1, .int b.2] := by simp [iiD, toPy, toPyA]
theorem leI_eq : (PySem.W.dataLe false fun b => toPy (iiD b)) = leI := by
  have e : (fun b : Int × Int => toPy (iiD b)) = fun b => .tuple [.int b.1, .int b.2] := funext iiD_py
  rw [e, PySem.W.dataLe_ii (fun b : Int × Int => b.1) (fun b => b.2)]
  rfl
theorem alI (bs : List (Int × Int)) : PySem.W.AllAlike (bs.map fun b => toPy (iiD b)) := PySem.W.AllAlike.of fun b b' => by rw [iiD_py, iiD_py]; rfl
theorem soI (bs : List (Int × Int)) : PySem.W.Sortable (bs.map fun b => toPy (iiD b)) := PySem.W.Sortable.tuples fun b => by rw [iiD_py]; exact ⟨_, _, rfl⟩
theorem okII (b : Int × Int) : OkD 1 (iiD b) := ok_pair
theorem okCh (x : Nat × Int × Int) : OkD 1 (chD x) := ok_ints [(x.1 : Int), x.2.1, x.2.2]
theorem atI_last {α : Type} {xs : List α} {x : α} (h : xs.getLast? = some x) : atI xs (-1) = some x := by
  have hne : xs ≠ [] := fun e => by rw [e] at h; cases h
  have hl : 0 < xs.length := List.length_pos_iff.mpr hne
  unfold atI ixN
  rw [if_neg (by omega), if_pos (by omega)]
  show xs[(-1 + (xs.length : Int)).toNat]? = some x
  have e : (-1 + (xs.length : Int)).toNat = xs.length - 1 := by omega
  rw [e, ← List.getLast?_eq_getElem?]
  exact h
theorem ixN_last {n : Nat} (h : 0 < n) : ixN n (-1) = some (n - 1) := by
  unfold ixN
  rw [if_neg (by omega), if_pos (by omega)]
  congr 1
  omega
theorem set_last {α : Type} (xs : List α) (h : 0 < xs.length) (y : α) : xs.set (xs.length - 1) y = xs.dropLast ++ [y] := by
  have hne : xs ≠ [] := List.length_pos_iff.mp h
  conv => lhs; rw [← List.dropLast_concat_getLast hne]
  rw [List.set_append]
  have e : (xs.dropLast ++ [xs.getLast hne]).length - 1 = xs.dropLast.length := by simp
  rw [if_neg (by simp), e]
  simp
theorem putAt_D (n k : Nat) (hk : k ≤ n) : D.tuple ((cutD ((iN (List.range n)).map .int) none (some (k : Int)) ++ [.int (n : Nat)]) ++ cutD ((iN (List.range n)).map .int) (some (k : Int)) none) = ntD (putAt n k) := by
  rw [cutD_take (by simp [iN]; omega), cutD_drop (by simp [iN]; omega)]
  unfold ntD putAt iN
  simp only [List.map_append, List.map_cons, List.map_take, List.map_drop, List.append_assoc, List.singleton_append]
theorem putAt_perm (n k : Nat) (hk : k ≤ n) : (putAt n k).Perm (List.range (n + 1)) := by
  unfold putAt
  refine List.perm_middle.trans ?_
  rw [List.take_append_drop, List.range_succ]
  exact List.perm_append_comm (l₁ := [n]) (l₂ := List.range n)
section
variable {P : Program} {w : World} {K : PySem.W.Frag} {mg : Str → Option Value} {base : Heap} (T : Tx K mg)
include T
theorem d_positions (d : Nat) (R : List (List Nat)) (hR : RowsOk d (tt R)) (h16 : R.length ≤ 16) (q : Row) (hq : IsRk d q.2) : DFn P w K mg base 5 "positions" [tabD d (tt R), ntD (List.range R.length), rD q] (ntD (insPos d R q.2)) := by
  refine fnD T.a_positions sc_positions _ _ rfl (by decide) fun f cdv A outer s H E hr => ?_
  have nd := sc_positions.nd
  have hlen2 : (tt R ++ [q]).length = R.length + 1 := by simp
  have hR2 : RowsOk d (tt R ++ [q]) := ⟨by omega, by omega, hR.d1, hR.d8, fun u hu => by
    rcases List.mem_append.mp hu with z | z
    · exact hR.rk u z
    · rw [List.mem_singleton.mp z]; exact hq⟩
  have erw : rws (tt R ++ [q]) = R ++ [q.2] := by
    show (tt R ++ [q]).map (·.2) = _
    rw [List.map_append]
    have := rws_tt R
    unfold rws at this
    rw [this]
    rfl
  refine sb_cons (sj_unpack (vs := [3, 4]) (ee_tup (ea_cons (ee_call (d_extend T d (tt R) q (by simp; omega)) hr (ea_cons (ee_var 0 rfl) (ea_cons (ee_var 2 rfl) ea_nil))) (ea_cons (EE.to (y := .int (R.length : Nat)) (ee_lenT T.b_len (ea_cons (ee_var 1 rfl) ea_nil)) (by simp [iN])) ea_nil))) (gj_tup (gjs_cons (gj_name 3) (gjs_cons (gj_name 4) gjs_nil))) (sb_one (sj_ret (EE.to (ee_tupL T.b_tuple (ea_cons (ee_lcf (own := [("k", 5)]) (List.range (R.length + 1)) (fun k => .int (k : Nat)) (fun k => once d (R ++ [q.2]) (putAt R.length k)) (fun k => .int (k : Nat)) (EI.toL (ei_range1 T.b_range (ee_opD od_add (ee_var 4 rfl) ee_int)) ?_) rfl (by kernel_rfl) rfl (by simp; omega) fun k hk => ?_) ea_nil)) ?_) rfl)))
  · unfold rangeD
    have e : ((R.length : Int) + 1).toNat = R.length + 1 := by omega
    rw [e]
    exact List.map_congr_left fun i _ => by rw [Int.zero_add]
  · have hk' := List.mem_range.mp hk
    refine ⟨[.d (tabD d (tt R)), .d (ntD (List.range R.length)), .d (rD q), .d (tabD d (tt R ++ [q])), .d (.int (R.length : Nat)), .d (.int (k : Nat))], fun s H C cl fp => ⟨gj_name 5, rfl, et_val (ee_call ((d_is_seating T d (tt R ++ [q]) hR2 (putAt R.length k) (by simpa using putAt_perm R.length k (by omega))).to rfl (by rw [erw])) hr (ea_cons (ee_var 3 rfl) (ea_cons (EE.to (ee_catT ?_ (ee_catT ?_ (ee_slT (i := none) (j := some (k : Nat)) (ee_var 1 rfl) trivial (ee_var 5 rfl)) (ee_tup (ea_cons (ee_var 4 rfl) ea_nil))) (ee_slT (i := some (k : Nat)) (j := none) (ee_var 1 rfl) (ee_var 5 rfl) trivial)) (putAt_D R.length k (by omega))) ea_nil))), fun _ => ee_var 5 rfl⟩⟩
    · rw [cutD_take (by simp [iN]; omega), cutD_drop (by simp [iN]; omega)]; simp [iN]; omega
    · rw [cutD_take (by simp [iN]; omega)]; simp [iN]; omega
  · unfold insPos ntD iN
    rw [List.map_map]
    rfl
theorem d_insert_positions (d : Nat) (R : List (List Nat)) (hR : RowsOk d (tt R)) (h16 : R.length ≤ 16) (hs : Seat d R) (q : Row) (hq : IsRk d q.2) : DFn P w K mg base 8 "insert_positions" [tabD d (tt R), rD q] (ntD (insPos d R q.2)) := by
  refine fnD T.a_insert_positions sc_insert_positions _ _ rfl (by decide) fun f cdv A outer s H E hr => ?_
  have nd := sc_insert_positions.nd
  exact sb_cons (sj_set 2 (ee_call (d_first_seating T d R hR hs) hr (ea_cons (ee_var 0 rfl) ea_nil)) (sb_cons (sj_if (et_not (et_val (t := true) (ee_call (d_is_ranking T d q hq hR.d8) hr (ea_cons (ee_ixT (i := 0) (ee_var 0 rfl) ee_int rfl) (ea_cons (ee_var 1 rfl) ea_nil))))) (fun h => nomatch h) fun _ => sb_nil (sb_one (sj_ret (ee_call (d_positions T d R hR h16 q hq) hr (ea_cons (ee_var 0 rfl) (ea_cons (ee_var 2 rfl) (ea_cons (ee_var 1 rfl) ea_nil)))) rfl)))))
theorem d_line_table (L : Line) (hL : LineOk L) (ts : List Int) (h1 : 1 ≤ ts.length) (h16 : ts.length ≤ 16) (hb : ∀ t ∈ ts, 0 ≤ t ∧ t ≤ 10 ^ 12) (hasc : ascI ts = true) : DFn P w K mg base 2 "line_table" [lineD L, .tuple (ts.map .int)] (tabD L.length (tt (ts.map (rank L)))) := by
  refine fnD T.a_line_table sc_line_table _ _ rfl (by decide) fun f cdv A outer s H E hr => ?_
  have nd := sc_line_table.nd
  obtain ⟨tk, hmw⟩ := T.c_MW
  obtain ⟨tk2, hmt⟩ := T.c_MT
  refine sb_cons (sj_if (t := false) (ET.to (et_or2 (t := false) (u := false) (et_not (et_val (t := true) (ee_isi (x := .tuple (ts.map .int)) T.b_isinstance T.b_tuple boot_tuple (ee_var 1 rfl) k_tt))) fun _ => ET.to (et_not (et_chain od_le od_le ee_int (ee_lenT T.b_len (ea_cons (ee_var 1 rfl) ea_nil)) fun _ => ee_glob hmt)) ?_) rfl) (fun h => nomatch h) fun _ => sb_nil ?_)
  · rw [List.length_map, decide_eq_true (show (1 : Int) ≤ (ts.length : Nat) by omega), decide_eq_true (show ((ts.length : Nat) : Int) ≤ 16 by omega)]
    rfl
  refine sb_cons (sj_if (t := false) (ET.to (et_or2 (t := false) (u := false) (et_not (et_val (t := true) (EE.to (ee_all (bs := ts.map fun _ => true) T.b_all (ea_cons (EE.to (ee_lcm (own := [("t", 2)]) ts .int (fun _ => .bool true) (ei_tup (ee_var 1 rfl)) rfl (by kernel_rfl) rfl (by omega) fun t ht => ⟨[.d (lineD L), .d (.tuple (ts.map .int)), .d (.int t)], fun s H C cl fp => ⟨gj_name 2, rfl, ee_call (d_int_in T (hb t ht).1 (hb t ht).2) (by exact hr) (ea_cons (ee_var 2 rfl) (ea_cons ee_int (ea_cons (ee_glob hmw) ea_nil)))⟩⟩) ?_) ea_nil)) ?_))) fun _ => et_not (et_val (t := true) (ee_call ((d_is_ascending T ts (by omega)).to rfl (by rw [hasc])) (by exact hr) (ea_cons (ee_var 1 rfl) ea_nil)))) rfl) (fun h => nomatch h) fun _ => sb_nil ?_)
  · rw [List.map_map]; rfl
  · simp
  refine sb_one (sj_ret (EE.to (ee_tup (xs := [.int (L.length : Nat), .tuple (ts.map fun t => rowD (true, rank L t))]) (ea_cons (EE.to (ee_lenT T.b_len (ea_cons (ee_var 0 rfl) ea_nil)) ?_) (ea_cons (ee_tupL T.b_tuple (ea_cons (ee_lcm (own := [("t", 2)]) ts .int (fun t => rowD (true, rank L t)) (ei_tup (ee_var 1 rfl)) rfl (by kernel_rfl) rfl (by omega) fun t ht => ⟨[.d (lineD L), .d (.tuple (ts.map .int)), .d (.int t)], fun s H C cl fp => ⟨gj_name 2, rfl, ee_tup (xs := [rD (true, rank L t), .int 1]) (ea_cons (ee_call (d_ranking_of_place T L hL t (hb t ht).1 (hb t ht).2) hr (ea_cons (ee_var 0 rfl) (ea_cons (ee_var 2 rfl) ea_nil))) (ea_cons ee_int ea_nil))⟩⟩) ea_nil)) ea_nil))) ?_) rfl)
  · simp
  · unfold tabD tt
    rw [List.map_map, List.map_map]
    rfl
theorem d_line_support (L : Line) (hL : LineOk L) (low high : Int) (hS : SpanOk low high) (a b : Nat) (ha : a < L.length) (hb : b < L.length) (hne : a ≠ b) : DFn P w K mg base 5 "line_support" [lineD L, .int low, .int high, .int a, .int b] (.int (lsupport L low high a b)) := by
  refine fnD T.a_line_support sc_line_support _ _ rfl (by decide) fun f cdv A outer s H E hr => ?_
  have nd := sc_line_support.nd
  have h8 := hL.hi
  have hsl : (segs L low high).length ≤ 100000 := by
    have := times_len (L := L) low high
    have h1 := hS.few
    have h2 := hS.le
    rw [segs_len]; omega
  refine sb_cons (sj_expr (ee_call (d_check_span T low high hS.lo hS.le hS.hi) hr (ea_cons (ee_var 1 rfl) (ea_cons (ee_var 2 rfl) ea_nil))) (sb_cons (sj_for (ei_tup (ee_tup (ea_cons (ee_var 3 rfl) (ea_cons (ee_var 4 rfl) ea_nil)))) (fun i ρ => ∃ x, ρ = [.d (lineD L), .d (.int low), .d (.int high), .d (.int a), .d (.int b), x, .any, .any, .any, .any]) ⟨.any, rfl⟩ (fun i y ρ hy hI => ?_) fun ρ hI => ?_)))
  · obtain ⟨x, rfl⟩ := hI
    obtain ⟨u, hu, rfl⟩ : ∃ u : Nat, u < L.length ∧ y = .int (u : Nat) := by
      match i, hy with
      | 0, hy => exact ⟨a, ha, (Option.some.inj hy).symm⟩
      | 1, hy => exact ⟨b, hb, (Option.some.inj hy).symm⟩
    exact ⟨[5], [.d (lineD L), .d (.int low), .d (.int high), .d (.int a), .d (.int b), .d (.int (u : Nat)), .any, .any, .any, .any], gj_name 5, sb_one (sj_if (et_not (et_val (t := true) (ee_call (d_int_in T (v := (u : Int)) (lo := 0) (hi := (L.length : Nat) - 1) (by omega) (by omega)) hr (ea_cons (ee_var 5 rfl) (ea_cons ee_int (ea_cons (ee_opD od_sub (EE.to (ee_lenT T.b_len (ea_cons (ee_var 0 rfl) ea_nil)) (by simp)) ee_int) ea_nil)))))) (fun h => nomatch h) fun _ => sb_nil ⟨_, rfl⟩)⟩
  · obtain ⟨x, rfl⟩ := hI
    refine sb_cons (sj_if (t := false) (ET.to (et_cmpD od_eqi (nomark _) (ee_var 3 rfl) (ee_var 4 rfl)) (decide_eq_false (by omega))) (fun h => nomatch h) fun _ => sb_nil (sb_cons (sj_set 6 (ee_call (d_line_segments T L hL low high hS) hr (ea_cons (ee_var 0 rfl) (ea_cons (ee_var 1 rfl) (ea_cons (ee_var 2 rfl) ea_nil)))) (sb_one (sj_ret (ee_sum (ns := ((segs L low high).filter fun s => before s.2.2 (a, b)).map fun s => s.2.1 - s.1 + 1) T.b_sum (ea_cons (EE.to (ee_lcf (own := [("first", 7), ("last", 8), ("ranking", 9)]) (segs L low high) segD (fun s => before s.2.2 (a, b)) (fun s => .int (s.2.1 - s.1 + 1)) (ei_tup (ee_var 6 rfl)) rfl (by kernel_rfl) rfl hsl fun sg hsg => ?_) (by rw [List.map_map]; rfl)) ea_nil)) rfl)))))
    have hk := segs_rk hS.le hsg
    exact ⟨[.d (lineD L), .d (.int low), .d (.int high), .d (.int a), .d (.int b), x, .d (.tuple ((segs L low high).map segD)), .d (.int sg.1), .d (.int sg.2.1), .d (rD (true, sg.2.2))], fun s H C cl fp => ⟨gj_tup (gjs_cons (gj_name 7) (gjs_cons (gj_name 8) (gjs_cons (gj_name 9) gjs_nil))), rfl, et_val (ee_call (d_prefers T sg.2.2 a b (hk.mem.mpr ha) (hk.mem.mpr hb)) hr (ea_cons (ee_var 9 rfl) (ea_cons (ee_var 3 rfl) (ea_cons (ee_var 4 rfl) ea_nil)))), fun _ => ee_opD od_add (ee_opD od_sub (ee_var 8 rfl) (ee_var 7 rfl)) ee_int⟩⟩
end
end TR
set_option Elab.async false
set_option linter.all false
set_option maxRecDepth 100000
set_option maxHeartbeats 2000000
/-! P11: the line's own answers, more -/
namespace TR
open PySem PySem.Spec PyProof.Rows L2 DL
theorem segs_few {L : Line} {low high : Int} (hS : SpanOk low high) : (segs L low high).length ≤ 16 := by
  have := times_len (L := L) low high
  have h1 := hS.few
  have h2 := hS.le
  rw [segs_len]; omega
theorem insFrom_zip (d : Nat) (r : List Nat) : ∀ (ss : List Seg) (prev : Option Seg), insFrom d r prev ss = ((prev :: ss.map some).zip ss).flatMap fun q => insStep d r q.1 q.2
  | [], prev => rfl
  | s :: ss, prev => by
    unfold insFrom
    rw [insFrom_zip d r ss (some s)]
    rfl
def prevD : Option Seg → D
  | some s => segD s
  | none => .none
theorem chAdd_none {acc : List (Nat × Int × Int)} {m : List Nat} {s : Seg} (h : acc = [] ∨ ∃ x, acc.getLast? = some x ∧ x.1 ≠ best s.2.2 m) : chAdd acc m s = acc ++ [(best s.2.2 m, s.1, s.2.1)] := by
  unfold chAdd
  rcases h with rfl | ⟨x, hx, hne⟩
  · rfl
  · rw [hx]
    exact if_neg hne
theorem chAdd_some {acc : List (Nat × Int × Int)} {m : List Nat} {s : Seg} {x : Nat × Int × Int} (h : acc.getLast? = some x) (he : x.1 = best s.2.2 m) : chAdd acc m s = acc.dropLast ++ [(best s.2.2 m, x.2.1, s.2.1)] := by
  unfold chAdd
  rw [h]
  exact if_pos he
theorem chAdd_len (acc : List (Nat × Int × Int)) (m : List Nat) (s : Seg) : (chAdd acc m s).length ≤ acc.length + 1 := by
  unfold chAdd
  split
  · split
    · simp
    · simp
  · simp
theorem mgAdd_none {acc : List (Int × Int)} {q : Int × Int} (h : acc = [] ∨ ∃ x, acc.getLast? = some x ∧ ¬ q.1 ≤ x.2 + 1) : mgAdd acc q = acc ++ [q] := by
  unfold mgAdd
  rcases h with rfl | ⟨x, hx, hne⟩
  · rfl
  · rw [hx]
    exact if_neg hne
theorem mgAdd_some {acc : List (Int × Int)} {q x : Int × Int} (h : acc.getLast? = some x) (he : q.1 ≤ x.2 + 1) : mgAdd acc q = acc.dropLast ++ [(x.1, max q.2 x.2)] := by
  unfold mgAdd
  rw [h]
  exact if_pos he
theorem mgAdd_len (acc : List (Int × Int)) (q : Int × Int) : (mgAdd acc q).length ≤ acc.length + 1 := by
  unfold mgAdd
  split
  · split
    · simp
    · simp
  · simp
theorem getLast_D {α : Type} {f : α → D} {l : List α} {x : α} (h : l.getLast? = some x) : (l.map f).getLast? = some (f x) := by rw [List.getLast?_map, h]; rfl
theorem last_or {α : Type} (l : List α) : l = [] ∨ ∃ x, l.getLast? = some x := by
  cases h : l.getLast? with
  | none => exact .inl (List.getLast?_eq_none_iff.mp h)
  | some x => exact .inr ⟨x, rfl⟩
section
variable {P : Program} {w : World} {K : PySem.W.Frag} {mg : Str → Option Value} {base : Heap} (T : Tx K mg)
include T
theorem d_line_medians (L : Line) (hL : LineOk L) (low high : Int) (hS : SpanOk low high) : DFn P w K mg base 5 "line_medians" [lineD L, .int low, .int high] (.tuple (((lmedRaw L low high).mergeSort leR).map fun r => rD (true, r))) := by
  refine fnD T.a_line_medians sc_line_medians _ _ rfl (by decide) fun f cdv A outer s H E hr => ?_
  have nd := sc_line_medians.nd
  have h16 := segs_few (L := L) hS
  let pm : Seg → Bool := fun s => decide (2 * (s.1 - low) ≤ high - low + 1) && decide (high - low + 1 ≤ 2 * (s.2.1 - low + 1))
  let st : Nat → List (List Nat) := fun i => (((segs L low high).take i).filter pm).map (·.2.2)
  have hrk : ∀ r ∈ lmedRaw L low high, IsRk L.length r := fun r hr => by
    obtain ⟨s, hs, rfl⟩ := List.mem_map.mp hr
    exact segs_rk hS.le ((List.mem_filter.mp hs).1)
  have hml : (lmedRaw L low high).length ≤ 16 := by
    unfold lmedRaw
    rw [List.length_map]
    exact Nat.le_trans (List.length_filter_le _ _) h16
  refine sb_cons (sj_set 3 (ee_call (d_line_segments T L hL low high hS) hr (ea_cons (ee_var 0 rfl) (ea_cons (ee_var 1 rfl) (ea_cons (ee_var 2 rfl) ea_nil)))) (sb_cons (sj_parO 4 5 (y := .int (high - low + 1)) (eo_lst ea_nil) (ee_opD od_add (ee_opD od_sub (ee_var 2 rfl) (ee_var 1 rfl)) ee_int) (sb_cons (sj_for (ei_tup (ee_var 3 rfl)) (fun i ρ => ∃ x y z, ρ = [.d (lineD L), .d (.int low), .d (.int high), .d (.tuple ((segs L low high).map segD)), .own ((st i).map fun r => rD (true, r)), .d (.int (high - low + 1)), x, y, z]) ⟨.any, .any, .any, rfl⟩ (fun i y ρ hy hI => ?_) fun ρ hI => ?_)))))
  · obtain ⟨x, y', z, rfl⟩ := hI
    rw [List.getElem?_map] at hy
    obtain ⟨sg, hsg, rfl⟩ := Option.map_eq_some_iff.mp hy
    have et : (segs L low high).take (i + 1) = (segs L low high).take i ++ [sg] := by rw [List.take_add_one, hsg]; rfl
    have hl : (st i).length ≤ 100000 := by
      show ((((segs L low high).take i).filter pm).map (·.2.2)).length ≤ 100000
      rw [List.length_map]
      have h1 := List.length_filter_le pm ((segs L low high).take i)
      rw [List.length_take] at h1
      omega
    refine ⟨[6, 7, 8], [.d (lineD L), .d (.int low), .d (.int high), .d (.tuple ((segs L low high).map segD)), .own ((st i).map fun r => rD (true, r)), .d (.int (high - low + 1)), .d (.int sg.1), .d (.int sg.2.1), .d (rD (true, sg.2.2))], gj_tup (gjs_cons (gj_name 6) (gjs_cons (gj_name 7) (gjs_cons (gj_name 8) gjs_nil))), sb_one (sj_if (t := pm sg) (et_chain od_le od_le (ee_opD (od_mul (.inl ⟨by decide, by decide⟩)) ee_int (ee_opD od_sub (ee_var 6 rfl) (ee_var 1 rfl))) (ee_var 5 rfl) fun _ => ee_opD (od_mul (.inl ⟨by decide, by decide⟩)) ee_int (ee_opD od_add (ee_opD od_sub (ee_var 7 rfl) (ee_var 1 rfl)) ee_int)) (fun h => sb_one (sj_append (ρ0 := []) 4 ((ee_var 8 rfl).wd ⟨_, rfl, by rw [List.length_map]; exact hl, .d (.int sg.1), .d (.int sg.2.1), .d (rD (true, sg.2.2)), ?_⟩) ⟨_, rfl⟩)) fun h => sb_nil ⟨.d (.int sg.1), .d (.int sg.2.1), .d (rD (true, sg.2.2)), ?_⟩)⟩
    · have e : st (i + 1) = st i ++ [sg.2.2] := by
        show (((segs L low high).take (i + 1)).filter pm).map (·.2.2) = _
        rw [et, List.filter_append, List.filter_cons_of_pos h, List.map_append]
        rfl
      rw [e, List.map_append (l₂ := [sg.2.2])]
      rfl
    · have e : st (i + 1) = st i := by
        show (((segs L low high).take (i + 1)).filter pm).map (·.2.2) = _
        rw [et, List.filter_append, List.filter_cons_of_neg (by rw [h]; exact Bool.false_ne_true), List.filter_nil, List.append_nil]
      rw [e]
  · obtain ⟨x, y, z, rfl⟩ := hI
    rw [List.length_map]
    have em : st (segs L low high).length = lmedRaw L low high := by
      show (((segs L low high).take (segs L low high).length).filter pm).map (·.2.2) = _
      rw [List.take_length]
      rfl
    rw [em]
    refine sb_one (sj_ret (ee_tupL T.b_tuple (ea_cons (EE.of_o (eo_sorted (fun r => rD (true, r)) (lmedRaw L low high) leR T.b_sorted hr (ee_froz 4 rfl) rfl (alR _) (soR fun r hr => rk_ne (hrk r hr) hL.lo) (by omega) (fun r _ => ?_) fun r _ => (okRk (true, r)).clean)) ea_nil)) rfl)
    have := (okRk (true, r)).depth; omega
theorem d_line_choices (L : Line) (hL : LineOk L) (low high : Int) (hS : SpanOk low high) (m : List Nat) (hm : MenuOk L.length m) : DFn P w K mg base 5 "line_choices" [lineD L, .int low, .int high, ntD m] (.tuple ((lchoices L low high m).map chD)) := by
  refine fnD T.a_line_choices sc_line_choices _ _ rfl (by decide) fun f cdv A outer s H E hr => ?_
  have nd := sc_line_choices.nd
  have h16 := segs_few (L := L) hS
  let st : Nat → List (Nat × Int × Int) := fun i => ((segs L low high).take i).foldl (fun acc s => chAdd acc m s) []
  have hstl : ∀ i, (st i).length ≤ 16 := by
    have key : ∀ (l : List Seg) (acc : List (Nat × Int × Int)), (l.foldl (fun acc s => chAdd acc m s) acc).length ≤ acc.length + l.length := fun l => by
      induction l with
      | nil => intro acc; exact Nat.le_refl _
      | cons s l ih =>
        intro acc
        have h1 := ih (chAdd acc m s)
        have h2 := chAdd_len acc m s
        rw [List.foldl_cons, List.length_cons]
        omega
    intro i
    have := key ((segs L low high).take i) []
    rw [List.length_take, List.length_nil] at this
    show (((segs L low high).take i).foldl (fun acc s => chAdd acc m s) []).length ≤ 16
    omega
  refine sb_cons (sj_expr (ee_call (d_check_span T low high hS.lo hS.le hS.hi) hr (ea_cons (ee_var 1 rfl) (ea_cons (ee_var 2 rfl) ea_nil))) (sb_cons (sj_expr (ee_call (d_check_menu T L.length hL.hi m hm) hr (ea_cons (EE.to (ee_lenT T.b_len (ea_cons (ee_var 0 rfl) ea_nil)) (by simp)) (ea_cons (ee_var 3 rfl) ea_nil))) (sb_cons (sj_own 4 (xs := []) (eo_lst ea_nil) (sb_cons (sj_for (ei_tup (ee_call (d_line_segments T L hL low high hS) hr (ea_cons (ee_var 0 rfl) (ea_cons (ee_var 1 rfl) (ea_cons (ee_var 2 rfl) ea_nil))))) (fun i ρ => ∃ x y z u, ρ = [.d (lineD L), .d (.int low), .d (.int high), .d (ntD m), .own ((st i).map chD), x, y, z, u]) ⟨.any, .any, .any, .any, rfl⟩ (fun i y ρ hy hI => ?_) fun ρ hI => ?_)))))))
  · obtain ⟨x, y', z, u, rfl⟩ := hI
    rw [List.getElem?_map] at hy
    obtain ⟨sg, hsg, rfl⟩ := Option.map_eq_some_iff.mp hy
    have hk := segs_rk hS.le (List.mem_of_getElem? hsg)
    have et : st (i + 1) = chAdd (st i) m sg := by
      show ((segs L low high).take (i + 1)).foldl (fun acc s => chAdd acc m s) [] = _
      rw [List.take_add_one, hsg, Option.toList_some, List.foldl_append]
      rfl
    have hl := hstl i
    refine ⟨[5, 6, 7], [.d (lineD L), .d (.int low), .d (.int high), .d (ntD m), .own ((st i).map chD), .d (.int sg.1), .d (.int sg.2.1), .d (rD (true, sg.2.2)), u], gj_tup (gjs_cons (gj_name 5) (gjs_cons (gj_name 6) (gjs_cons (gj_name 7) gjs_nil))), sb_cons (sj_set 8 (ee_call (d_best_dish T L.length hL.hi (true, sg.2.2) hk m hm) hr (ea_cons (ee_var 7 rfl) (ea_cons (ee_var 3 rfl) ea_nil))) ?_)⟩
    have hok : SeqAt.shaped (toPy (.list ((st i).map chD))) = true := (OkD.lst (ok_map fun x _ => okCh x)).sh
    rcases last_or (st i) with he | ⟨xl, hxl⟩
    · refine sb_cons (sj_if (t := false) (ET.to (et_and2 (t := false) (u := false) (ET.to (et_ownNe (units64 hr) 4 hok) ?_) fun h => nomatch h) rfl) (fun h => nomatch h) fun _ => sb_nil (sb_one (sj_append (ρ0 := []) 4 ((ee_tup (xs := [.int (best sg.2.2 m : Nat), .int sg.1, .int sg.2.1]) (ea_cons (ee_var 8 rfl) (ea_cons (ee_var 5 rfl) (ea_cons (ee_var 6 rfl) ea_nil)))).wd ⟨_, rfl, by rw [List.length_map]; omega, .d (.int sg.1), .d (.int sg.2.1), .d (rD (true, sg.2.2)), .d (.int (best sg.2.2 m : Nat)), ?_⟩) ⟨_, rfl⟩)))
      · rw [he]; rfl
      · rw [et, chAdd_none (.inl he), List.map_append (l₂ := [_])]; rfl
    · have hne : st i ≠ [] := fun e => by rw [e] at hxl; cases hxl
      have hD := getLast_D (f := chD) hxl
      refine sb_cons (sj_if (t := decide (xl.1 = best sg.2.2 m)) (ET.to (et_and2 (t := true) (ET.to (et_ownNe (units64 hr) 4 hok) ?_) fun _ => et_cmpD od_eqi (nomark _) (ee_ixT (i := 0) (ee_ixO 4 (ee_neg ee_int) (atI_last hD)) ee_int rfl) (ee_var 8 rfl)) ?_) (fun h => ?_) fun h => ?_)
      · cases e : st i with
        | nil => exact absurd e hne
        | cons a b => rfl
      · rw [Bool.true_and, decide_eq_decide]; dsimp only; omega
      · have h := of_decide_eq_true h
        refine sb_one (sj_set 5 (ee_ixT (i := 1) (ee_pop 4 (x := chD xl) ?_) ee_int rfl) (sb_one (sj_append (ρ0 := []) 4 ((ee_tup (xs := [.int (best sg.2.2 m : Nat), .int xl.2.1, .int sg.2.1]) (ea_cons (ee_var 8 rfl) (ea_cons (ee_var 5 rfl) (ea_cons (ee_var 6 rfl) ea_nil)))).wd ⟨((st i).map chD).dropLast, rfl, ?_, .d (.int xl.2.1), .d (.int sg.2.1), .d (rD (true, sg.2.2)), .d (.int (best sg.2.2 m : Nat)), ?_⟩) ⟨_, rfl⟩)))
        · rw [← List.getLast?_eq_getElem?]; exact hD
        · rw [List.length_dropLast, List.length_map]; omega
        · rw [et, chAdd_some hxl h, List.map_append (l₂ := [_]), List.map_dropLast]; rfl
      · have h := of_decide_eq_false h
        refine sb_nil (sb_one (sj_append (ρ0 := []) 4 ((ee_tup (xs := [.int (best sg.2.2 m : Nat), .int sg.1, .int sg.2.1]) (ea_cons (ee_var 8 rfl) (ea_cons (ee_var 5 rfl) (ea_cons (ee_var 6 rfl) ea_nil)))).wd ⟨_, rfl, by rw [List.length_map]; omega, .d (.int sg.1), .d (.int sg.2.1), .d (rD (true, sg.2.2)), .d (.int (best sg.2.2 m : Nat)), ?_⟩) ⟨_, rfl⟩))
        rw [et, chAdd_none (.inr ⟨xl, hxl, h⟩), List.map_append (l₂ := [_])]; rfl
  · obtain ⟨x, y, z, u, rfl⟩ := hI
    rw [List.length_map]
    have em : st (segs L low high).length = lchoices L low high m := by
      show ((segs L low high).take (segs L low high).length).foldl (fun acc s => chAdd acc m s) [] = _
      rw [List.take_length]
      rfl
    rw [em]
    exact sb_one (sj_ret (ee_tupL T.b_tuple (ea_cons (ee_froz 4 rfl) ea_nil)) rfl)
theorem d_line_cost (L : Line) (hL : LineOk L) (low high : Int) (hS : SpanOk low high) (m : List Nat) (hm : MenuOk L.length m) : DFn P w K mg base 5 "line_cost" [lineD L, .int low, .int high, ntD m] (.int (lcost L low high m)) := by
  refine fnD T.a_line_cost sc_line_cost _ _ rfl (by decide) fun f cdv A outer s H E hr => ?_
  have nd := sc_line_cost.nd
  have h16 := segs_few (L := L) hS
  refine sb_cons (sj_expr (ee_call (d_check_span T low high hS.lo hS.le hS.hi) hr (ea_cons (ee_var 1 rfl) (ea_cons (ee_var 2 rfl) ea_nil))) (sb_cons (sj_expr (ee_call (d_check_menu T L.length hL.hi m hm) hr (ea_cons (EE.to (ee_lenT T.b_len (ea_cons (ee_var 0 rfl) ea_nil)) (by simp)) (ea_cons (ee_var 3 rfl) ea_nil))) (sb_cons (sj_set 4 (ee_call (d_line_segments T L hL low high hS) hr (ea_cons (ee_var 0 rfl) (ea_cons (ee_var 1 rfl) (ea_cons (ee_var 2 rfl) ea_nil)))) (sb_one (sj_ret (ee_sum (ns := (segs L low high).map fun s => (s.2.1 - s.1 + 1) * (pos s.2.2 (best s.2.2 m) : Int)) T.b_sum (ea_cons (EE.to (ee_lcm (own := [("first", 5), ("last", 6), ("ranking", 7)]) (segs L low high) segD (fun s => .int ((s.2.1 - s.1 + 1) * (pos s.2.2 (best s.2.2 m) : Int))) (ei_tup (ee_var 4 rfl)) rfl (by kernel_rfl) rfl (by omega) fun sg hsg => ?_) (by rw [List.map_map]; rfl)) ea_nil)) rfl)))))))
  have hk := segs_rk hS.le hsg
  have hb := best_mem hk hm.ne hm.lt
  have hp := pos_lt hb.1
  rw [hk.len] at hp
  have h8 := hL.hi
  refine ⟨[.d (lineD L), .d (.int low), .d (.int high), .d (ntD m), .d (.tuple ((segs L low high).map segD)), .d (.int sg.1), .d (.int sg.2.1), .d (rD (true, sg.2.2))], fun s H C cl fp => ⟨gj_tup (gjs_cons (gj_name 5) (gjs_cons (gj_name 6) (gjs_cons (gj_name 7) gjs_nil))), rfl, EE.to (ee_opD (od_mul (.inr ⟨?_, ?_⟩)) (ee_opD od_add (ee_opD od_sub (ee_var 6 rfl) (ee_var 5 rfl)) ee_int) (ee_index (ns := iN sg.2.2) (i := (best sg.2.2 m : Nat)) (ee_var 7 rfl) (ee_call (d_best_dish T L.length hL.hi (true, sg.2.2) hk m hm) hr (ea_cons (ee_var 7 rfl) (ea_cons (ee_var 3 rfl) ea_nil))) (mem_iN.mpr hb.1))) ?_⟩⟩
  · rw [idx_pos]; omega
  · rw [idx_pos]; omega
  · rw [idx_pos]
theorem d_merge_ranges (rs : List (Int × Int)) (hl : rs.length ≤ 1000) : DFn P w K mg base 1 "merge_ranges" [.list (rs.map iiD)] (.tuple ((merge rs).map iiD)) := by
  refine fnD T.a_merge_ranges sc_merge_ranges _ _ rfl (by decide) fun f cdv A outer s H E hr => ?_
  have nd := sc_merge_ranges.nd
  let S := rs.mergeSort leI
  have hS : S.length = rs.length := List.length_mergeSort _
  let st : Nat → List (Int × Int) := fun i => (S.take i).foldl mgAdd []
  have hstl : ∀ i, (st i).length ≤ 1000 := by
    have key : ∀ (l acc : List (Int × Int)), (l.foldl mgAdd acc).length ≤ acc.length + l.length := fun l => by
      induction l with
      | nil => intro acc; exact Nat.le_refl _
      | cons s l ih =>
        intro acc
        have h1 := ih (mgAdd acc s)
        have h2 := mgAdd_len acc s
        rw [List.foldl_cons, List.length_cons]
        omega
    intro i
    have := key (S.take i) []
    rw [List.length_take, List.length_nil] at this
    show ((S.take i).foldl mgAdd []).length ≤ 1000
    omega
  refine sb_cons (sj_own 1 (xs := []) (eo_lst ea_nil) (sb_cons (sj_for (ei_list (EE.of_o (eo_sorted iiD rs leI T.b_sorted hr (ee_var 0 rfl) leI_eq (alI _) (soI _) (by omega) (fun b _ => ?_) fun b _ => (okII b).clean))) (fun i ρ => ∃ x y, ρ = [.d (.list (rs.map iiD)), .own ((st i).map iiD), x, y]) ⟨.any, .any, rfl⟩ (fun i y ρ hy hI => ?_) fun ρ hI => ?_)))
  · have := (okII b).depth; omega
  · obtain ⟨x, y', rfl⟩ := hI
    rw [List.getElem?_map] at hy
    obtain ⟨q, hq, rfl⟩ := Option.map_eq_some_iff.mp hy
    have et : st (i + 1) = mgAdd (st i) q := by
      show (S.take (i + 1)).foldl mgAdd [] = _
      rw [List.take_add_one, show S[i]? = some q from hq, Option.toList_some, List.foldl_append]
      rfl
    have hl := hstl i
    have hok : SeqAt.shaped (toPy (.list ((st i).map iiD))) = true := (OkD.lst (ok_map fun x _ => okII x)).sh
    refine ⟨[2, 3], [.d (.list (rs.map iiD)), .own ((st i).map iiD), .d (.int q.1), .d (.int q.2)], gj_tup (gjs_cons (gj_name 2) (gjs_cons (gj_name 3) gjs_nil)), ?_⟩
    rcases last_or (st i) with he | ⟨xl, hxl⟩
    · refine sb_one (sj_if (t := false) (ET.to (et_and2 (t := false) (u := false) (ET.to (et_ownNe (units64 hr) 1 hok) ?_) fun h => nomatch h) rfl) (fun h => nomatch h) fun _ => sb_one (sj_append (ρ0 := []) 1 ((ee_tup (xs := [.int q.1, .int q.2]) (ea_cons (ee_var 2 rfl) (ea_cons (ee_var 3 rfl) ea_nil))).wd ⟨_, rfl, by rw [List.length_map]; omega, .d (.int q.1), .d (.int q.2), ?_⟩) ⟨_, rfl⟩))
      · rw [he]; rfl
      · rw [et, mgAdd_none (.inl he), List.map_append (l₂ := [_])]; rfl
    · have hne : st i ≠ [] := fun e => by rw [e] at hxl; cases hxl
      have hpos : 0 < ((st i).map iiD).length := by rw [List.length_map]; exact List.length_pos_iff.mpr hne
      have hD := getLast_D (f := iiD) hxl
      refine sb_one (sj_if (t := decide (q.1 ≤ xl.2 + 1)) (ET.to (et_and2 (t := true) (ET.to (et_ownNe (units64 hr) 1 hok) ?_) fun _ => et_cmpD od_le (nomark _) (ee_var 2 rfl) (ee_opD od_add (ee_ixT (i := 1) (ee_ixO 1 (ee_neg ee_int) (atI_last hD)) ee_int rfl) ee_int)) (Bool.true_and _)) (fun h => ?_) fun h => ?_)
      · cases e : st i with
        | nil => exact absurd e hne
        | cons a b => rfl
      · have h := of_decide_eq_true h
        refine sb_one (sj_setAt 1 (ee_tup (xs := [.int xl.1, .int (max q.2 xl.2)]) (ea_cons (ee_ixT (i := 0) (ee_ixO 1 (ee_neg ee_int) (atI_last hD)) ee_int rfl) (ea_cons (ee_max2 T.b_max (ea_cons (ee_var 3 rfl) (ea_cons (ee_ixT (i := 1) (ee_ixO 1 (ee_neg ee_int) (atI_last hD)) ee_int rfl) ea_nil))) ea_nil))) (ee_neg ee_int) (ixN_last hpos) ⟨.d (.int q.1), .d (.int q.2), ?_⟩)
        rw [set_last _ hpos, et, mgAdd_some hxl h, List.map_append (l₂ := [_]), List.map_dropLast]
        rfl
      · have h := of_decide_eq_false h
        refine sb_one (sj_append (ρ0 := []) 1 ((ee_tup (xs := [.int q.1, .int q.2]) (ea_cons (ee_var 2 rfl) (ea_cons (ee_var 3 rfl) ea_nil))).wd ⟨_, rfl, by rw [List.length_map]; omega, .d (.int q.1), .d (.int q.2), ?_⟩) ⟨_, rfl⟩)
        rw [et, mgAdd_none (.inr ⟨xl, hxl, h⟩), List.map_append (l₂ := [_])]; rfl
  · obtain ⟨x, y, rfl⟩ := hI
    rw [List.length_map]
    have em : st S.length = merge rs := by
      show (S.take S.length).foldl mgAdd [] = _
      rw [List.take_length]
      rfl
    rw [em]
    exact sb_one (sj_ret (ee_tupL T.b_tuple (ea_cons (ee_froz 1 rfl) ea_nil)) rfl)
end
end TR
set_option Elab.async false
set_option linter.all false
set_option maxRecDepth 100000
set_option maxHeartbeats 2000000
/-! P12: insert ranges -/
namespace TR
open PySem PySem.Spec PyProof.Rows L2 DL
theorem insStep_len (d : Nat) (r : List Nat) (p : Option Seg) (s : Seg) : (insStep d r p s).length ≤ 2 := by
  cases p with
  | none =>
    unfold insStep
    simp only [List.append_nil]
    split <;> simp
  | some q =>
    unfold insStep
    simp only [List.length_append]
    split <;> split <;> simp
theorem insRaw_len {L : Line} {low high : Int} (hS : SpanOk low high) (r : List Nat) : (insRaw L low high r).length ≤ 40 := by
  unfold insRaw
  simp only [List.length_append]
  have h3 := segs_few (L := L) hS
  have key : ∀ (l : List Seg) (p : Option Seg), (insFrom L.length r p l).length ≤ 2 * l.length := fun l => by
    induction l with
    | nil => intro p; exact Nat.le_refl _
    | cons s l ih =>
      intro p
      show (insStep L.length r p s ++ insFrom L.length r (some s) l).length ≤ _
      rw [List.length_append, List.length_cons]
      have := insStep_len L.length r p s
      have := ih (some s)
      omega
  have := key (segs L low high) none
  have h1 : ∀ (b : Bool) (x : Int × Int), (if b = true then [x] else []).length ≤ 1 := fun b x => by split <;> simp
  have a1 := h1 (betw L.length r ((segs L low high).getLastD (0, 0, [])).2.2 ((segs L low high).headD (0, 0, [])).2.2) (low, low)
  have a2 := h1 (betw L.length r ((segs L low high).headD (0, 0, [])).2.2 ((segs L low high).getLastD (0, 0, [])).2.2) (high + 1, high + 1)
  omega
section
variable {P : Program} {w : World} {K : PySem.W.Frag} {mg : Str → Option Value} {base : Heap} (T : Tx K mg)
include T
theorem d_line_insert_ranges (L : Line) (hL : LineOk L) (low high : Int) (hS : SpanOk low high) (q : Row) (hq : IsRk L.length q.2) : DFn P w K mg base 5 "line_insert_ranges" [lineD L, .int low, .int high, rD q] (.tuple ((insR L low high q.2).map iiD)) := by
  refine fnD T.a_line_insert_ranges sc_line_insert_ranges _ _ rfl (by decide) fun f cdv A outer s H E hr => ?_
  have nd := sc_line_insert_ranges.nd
  have h16 := segs_few (L := L) hS
  have h8 := hL.hi
  let sg := segs L low high
  let hd := (sg.headD (0, 0, [])).2.2
  let tl := (sg.getLastD (0, 0, [])).2.2
  have hne : sg ≠ [] := fun e => by
    have := segs_len (L := L) low high
    rw [show segs L low high = [] from e] at this
    simp at this
  have e0 : (sg.map segD)[0]? = some (segD (sg.headD (0, 0, []))) := by
    cases e : sg with
    | nil => exact absurd e hne
    | cons a b => rfl
  have el : (sg.map segD).getLast? = some (segD (sg.getLastD (0, 0, []))) := by
    rw [List.getLast?_map]
    cases e : sg with
    | nil => exact absurd e hne
    | cons a b => rw [List.getLast?_cons, List.getLastD_cons, List.getLastD_eq_getLast?]; rfl
  have mh : sg.headD (0, 0, []) ∈ sg := by
    cases e : sg with
    | nil => exact absurd e hne
    | cons a b => exact List.mem_cons_self
  have ml : sg.getLastD (0, 0, []) ∈ sg := by
    have h1 : (sg.map segD).getLast? = some (segD (sg.getLastD (0, 0, []))) := el
    have h2 : sg.getLast? = some (sg.getLastD (0, 0, [])) := by
      cases e : sg with
      | nil => exact absurd e hne
      | cons a b => rw [List.getLast?_cons, List.getLastD_cons, List.getLastD_eq_getLast?]
    exact List.mem_of_getLast? h2
  have kh : IsRk L.length hd := segs_rk hS.le mh
  have kl : IsRk L.length tl := segs_rk hS.le ml
  let a1 : List (Int × Int) := if betw L.length q.2 tl hd then [(low, low)] else []
  let a2 : List (Int × Int) := if betw L.length q.2 hd tl then [(high + 1, high + 1)] else []
  let pz : List (Option Seg × Seg) := (none :: sg.map some).zip sg
  have hpz : pz.length = sg.length := by show ((none :: sg.map some).zip sg).length = _; simp
  let st : Nat → List (Int × Int) := fun i => a1 ++ a2 ++ (pz.take i).flatMap fun u => insStep L.length q.2 u.1 u.2
  have hstl : ∀ i, (st i).length ≤ 100 := fun i => by
    have h1 : a1.length ≤ 1 := by show (if _ then _ else _ : List (Int × Int)).length ≤ 1; split <;> simp
    have h2 : a2.length ≤ 1 := by show (if _ then _ else _ : List (Int × Int)).length ≤ 1; split <;> simp
    have key : ∀ l : List (Option Seg × Seg), (l.flatMap fun u => insStep L.length q.2 u.1 u.2).length ≤ 2 * l.length := fun l => by
      induction l with
      | nil => exact Nat.le_refl _
      | cons u l ih =>
        rw [List.flatMap_cons, List.length_append, List.length_cons]
        have := insStep_len L.length q.2 u.1 u.2
        omega
    have h3 := key (pz.take i)
    rw [List.length_take] at h3
    show (a1 ++ a2 ++ (pz.take i).flatMap fun u => insStep L.length q.2 u.1 u.2).length ≤ 100
    rw [List.length_append, List.length_append]
    have h4 : sg.length ≤ 16 := h16
    omega
  refine sb_cons (sj_expr (ee_call (d_check_span T low high hS.lo hS.le hS.hi) hr (ea_cons (ee_var 1 rfl) (ea_cons (ee_var 2 rfl) ea_nil))) (sb_cons (sj_if (et_not (et_val (t := true) (ee_call (d_is_ranking T L.length q hq h8) hr (ea_cons (EE.to (ee_lenT T.b_len (ea_cons (ee_var 0 rfl) ea_nil)) (by simp)) (ea_cons (ee_var 3 rfl) ea_nil))))) (fun h => nomatch h) fun _ => sb_nil ?_)))
  refine sb_cons (sj_set 4 (ee_call (d_line_segments T L hL low high hS) hr (ea_cons (ee_var 0 rfl) (ea_cons (ee_var 1 rfl) (ea_cons (ee_var 2 rfl) ea_nil)))) ?_)
  refine sb_cons (sj_par 5 6 (ee_ixT (i := 2) (ee_ixT (i := 0) (ee_var 4 rfl) ee_int (atI_nat (n := 0) e0)) ee_int rfl) (ee_ixT (i := 2) (ee_ixT (ee_var 4 rfl) (ee_neg ee_int) (atI_last el)) ee_int rfl) ?_)
  refine sb_cons (sj_own 7 (xs := []) (eo_lst ea_nil) ?_)
  let env : List (Int × Int) → List Sl := fun a => [.d (lineD L), .d (.int low), .d (.int high), .d (rD q), .d (.tuple (sg.map segD)), .d (rD (true, hd)), .d (rD (true, tl)), .own (a.map iiD), .any, .any, .any, .any]
  refine sb_seq (I := fun ρ' => ρ' = env a1) (sj_if (t := betw L.length q.2 tl hd) (et_val (ee_call (d_is_between T L.length q (true, tl) (true, hd) hq kl kh h8) hr (ea_cons (ee_var 3 rfl) (ea_cons (ee_var 6 rfl) (ea_cons (ee_var 5 rfl) ea_nil))))) (fun h => sb_one (sj_append (ρ0 := []) 7 ((ee_tup (xs := [.int low, .int low]) (ea_cons (ee_var 1 rfl) (ea_cons (ee_var 1 rfl) ea_nil))).wd ⟨_, rfl, Nat.zero_le _, ?_⟩) ⟨_, rfl⟩)) fun h => sb_nil ?_) ?_
  · show _ = env (if _ then _ else _); rw [if_pos h]; rfl
  · show _ = env (if _ then _ else _); rw [if_neg (by rw [h]; exact Bool.false_ne_true)]; rfl
  rintro _ rfl
  have l1 : a1.length ≤ 1 := by show (if _ then _ else _ : List (Int × Int)).length ≤ 1; split <;> simp
  refine sb_seq (I := fun ρ' => ρ' = env (a1 ++ a2)) (sj_if (t := betw L.length q.2 hd tl) (et_val (ee_call (d_is_between T L.length q (true, hd) (true, tl) hq kh kl h8) hr (ea_cons (ee_var 3 rfl) (ea_cons (ee_var 5 rfl) (ea_cons (ee_var 6 rfl) ea_nil))))) (fun h => sb_one (sj_append (ρ0 := []) 7 ((ee_tup (xs := [.int (high + 1), .int (high + 1)]) (ea_cons (ee_opD od_add (ee_var 2 rfl) ee_int) (ea_cons (ee_opD od_add (ee_var 2 rfl) ee_int) ea_nil))).wd ⟨_, rfl, by rw [List.length_map]; omega, ?_⟩) ⟨_, rfl⟩)) fun h => sb_nil ?_) ?_
  · show _ = env (a1 ++ if _ then _ else _); rw [if_pos h]; show _ = _; simp only [env, List.map_append]; rfl
  · show _ = env (a1 ++ if _ then _ else _); rw [if_neg (by rw [h]; exact Bool.false_ne_true), List.append_nil]
  rintro _ rfl
  refine sb_cons (sj_for (EI.toL (ei_zipT T.b_zip (ee_catT ?_ (ee_tup (ea_cons ee_non ea_nil)) (ee_var 4 rfl)) (ee_var 4 rfl)) (show _ = pz.map fun u => .tuple [prevD u.1, segD u.2] from ?_)) (fun i ρ => ∃ x y z u, ρ = [.d (lineD L), .d (.int low), .d (.int high), .d (rD q), .d (.tuple (sg.map segD)), .d (rD (true, hd)), .d (rD (true, tl)), .own ((st i).map iiD), x, y, z, u]) ⟨.any, .any, .any, .any, ?_⟩ (fun i y ρ hy hI => ?_) fun ρ hI => ?_)
  · simp; have : sg.length ≤ 16 := h16; omega
  · show zipD ([D.none] ++ sg.map segD) (sg.map segD) = _
    have e : [D.none] ++ sg.map segD = (none :: sg.map some).map prevD := by
      rw [List.map_cons, List.map_map]
      rfl
    rw [e]
    unfold zipD
    rw [List.zip_map, List.map_map]
    rfl
  · show env (a1 ++ a2) = _
    simp [env, st]
  · obtain ⟨x, y', z, u0, rfl⟩ := hI
    rw [List.getElem?_map] at hy
    obtain ⟨u, hu, rfl⟩ := Option.map_eq_some_iff.mp hy
    have et : st (i + 1) = st i ++ insStep L.length q.2 u.1 u.2 := by
      show a1 ++ a2 ++ (pz.take (i + 1)).flatMap _ = a1 ++ a2 ++ (pz.take i).flatMap _ ++ _
      rw [List.take_add_one, hu, Option.toList_some, List.flatMap_append, List.append_assoc (a1 ++ a2)]
      simp
    have hmem := List.of_mem_zip (List.mem_of_getElem? hu)
    have ks : IsRk L.length u.2.2.2 := segs_rk hS.le hmem.2
    have hl := hstl i
    let b1 : List (Int × Int) := if u.2.2.2 = q.2 then [(u.2.1, u.2.2.1 + 1)] else []
    have lb1 : b1.length ≤ 1 := by show (if _ then _ else _ : List (Int × Int)).length ≤ 1; split <;> simp
    let en : List (Int × Int) → List Sl := fun a => [.d (lineD L), .d (.int low), .d (.int high), .d (rD q), .d (.tuple (sg.map segD)), .d (rD (true, hd)), .d (rD (true, tl)), .own (a.map iiD), .d (prevD u.1), .d (.int u.2.1), .d (.int u.2.2.1), .d (rD (true, u.2.2.2))]
    refine ⟨[8, 9, 10, 11], en (st i), gj_tup (gjs_cons (gj_name 8) (gjs_cons (gj_tup (gjs_cons (gj_name 9) (gjs_cons (gj_name 10) (gjs_cons (gj_name 11) gjs_nil)))) gjs_nil)), ?_⟩
    refine sb_seq (I := fun ρ' => ρ' = en (st i ++ b1)) (sj_if (t := decide (iN u.2.2.2 = iN q.2)) (ET.to (et_cmpD (od_eq (units64 hr) (okRk (true, u.2.2.2)).sh (okRk q).sh) (nomark _) (ee_var 11 rfl) (ee_var 3 rfl)) (eqv_tups _ _)) (fun h => sb_one (sj_append (ρ0 := []) 7 ((ee_tup (xs := [.int u.2.1, .int (u.2.2.1 + 1)]) (ea_cons (ee_var 9 rfl) (ea_cons (ee_opD od_add (ee_var 10 rfl) ee_int) ea_nil))).wd ⟨_, rfl, by rw [List.length_map]; omega, ?_⟩) ⟨_, rfl⟩)) fun h => sb_nil ?_) ?_
    · have h := iN_inj (of_decide_eq_true h)
      show _ = en (st i ++ if _ then _ else _); rw [if_pos h]; simp only [en, List.map_append]; rfl
    · have h : ¬ u.2.2.2 = q.2 := fun z => of_decide_eq_false h (by rw [z])
      show _ = en (st i ++ if _ then _ else _); rw [if_neg h, List.append_nil]
    rintro _ rfl
    obtain ⟨u1, u2⟩ := u
    cases u1 with
    | none =>
      refine sb_one (sj_if (t := false) (ET.to (et_and2 (t := false) (u := false) (et_cmpD od_isNotN (nomark _) (ee_var 8 rfl) ee_non) fun h => nomatch h) rfl) (fun h => nomatch h) fun _ => sb_nil ⟨.d (prevD none), .d (.int u2.1), .d (.int u2.2.1), .d (rD (true, u2.2.2)), ?_⟩)
      rw [et]
      show en (st i ++ b1) = _
      unfold insStep
      simp [en, b1, prevD]
    | some pv =>
      have kp : IsRk L.length pv.2.2 := by
        have h1 := hmem.1
        rcases List.mem_cons.mp h1 with z | z
        · cases z
        · obtain ⟨s0, hs0, e⟩ := List.mem_map.mp z
          have e : s0 = pv := Option.some.inj e
          exact segs_rk hS.le (e ▸ hs0)
      refine sb_one (sj_if (t := betw L.length pv.2.2 u2.2.2 q.2) (ET.to (et_and2 (t := true) (et_cmpD od_isNotN (nomark _) (ee_var 8 rfl) ee_non) fun _ => et_val (ee_call (d_is_between T L.length (true, pv.2.2) (true, u2.2.2) q kp ks hq h8) hr (ea_cons (ee_ixT (i := 2) (xs := [.int pv.1, .int pv.2.1, rD (true, pv.2.2)]) (tb := false) (ee_var 8 rfl) ee_int rfl) (ea_cons (ee_var 11 rfl) (ea_cons (ee_var 3 rfl) ea_nil))))) (Bool.true_and _)) (fun h => sb_one (sj_append (ρ0 := []) 7 ((ee_tup (xs := [.int u2.1, .int u2.1]) (ea_cons (ee_var 9 rfl) (ea_cons (ee_var 9 rfl) ea_nil))).wd ⟨_, rfl, by rw [List.length_map, List.length_append]; omega, .d (prevD (some pv)), .d (.int u2.1), .d (.int u2.2.1), .d (rD (true, u2.2.2)), ?_⟩) ⟨_, rfl⟩)) fun h => sb_nil ⟨.d (prevD (some pv)), .d (.int u2.1), .d (.int u2.2.1), .d (rD (true, u2.2.2)), ?_⟩)
      · rw [et]
        unfold insStep
        simp only [h, if_true]
        rw [← List.append_assoc, List.map_append (l₂ := [_])]
        rfl
      · rw [et]
        unfold insStep
        simp only [h, Bool.false_eq_true, if_false, List.append_nil]
        rfl
  · obtain ⟨x, y, z, u, rfl⟩ := hI
    rw [List.length_map]
    have em : st pz.length = insRaw L low high q.2 := by
      show a1 ++ a2 ++ (pz.take pz.length).flatMap _ = _
      rw [List.take_length]
      show _ = a1 ++ a2 ++ insFrom L.length q.2 none sg
      rw [insFrom_zip]
    rw [em]
    exact sb_one (sj_ret (ee_call (d_merge_ranges T (insRaw L low high q.2) (by have := insRaw_len (L := L) hS q.2; omega)) hr (ea_cons (ee_froz 7 rfl) ea_nil)) rfl)
end
end TR
set_option Elab.async false
set_option linter.all false
set_option maxRecDepth 100000
set_option maxHeartbeats 2000000
/-! P13: the law's draws -/
namespace TR
open PySem PySem.Spec PyProof.Rows L2 DL
def nextR (N : Nat) (ds : List D) (post : D → Nat → Prop) : Prop := N ≤ 1000000 ∧ ∃ many : Int, ds = [.int many] ∧ 1 ≤ many ∧ many < 2 ^ 60 ∧ post = fun x N' => N' = N + 1 ∧ ∃ v : Nat, x = .int v ∧ (v : Int) < many
def oneR (N : Nat) (ds : List D) (post : D → Nat → Prop) : Prop := N ≤ 1000000 ∧ ∃ x xs, ds = [x] ∧ (x = .list xs ∨ ∃ tb, x = .tup tb xs) ∧ xs ≠ [] ∧ xs.length ≤ 1000 ∧ post = fun y N' => N' = N + 1 ∧ y ∈ xs
section
variable {P : Program} {w : World} {K : PySem.W.Frag} {mg : Str → Option Value} {base : Heap} (T : Tx K mg)
include T
theorem k_next : KFam P w K mg base 1 "_law_next" nextR := by
  refine fnKF T.a__law_next sc__law_next _ (fun M ds post h => by obtain ⟨_, many, rfl, _⟩ := h; rfl) (by decide) fun M ds post hR f cdv A outer s H E hr => ?_
  have nd := sc__law_next.nd
  obtain ⟨hM, many, rfl, hm1, hm2, rfl⟩ := hR
  refine sb_open 0 rfl fun bg cl j hd => ?_
  obtain ⟨hbg, hcl, hclb, hbl, hcll, hj⟩ := hd
  refine sb_cons (sj_while (fun m ρ => ∃ bg x, m = bg.length ∧ (∀ b ∈ bg, 0 ≤ b) ∧ bg.length ≤ 100 ∧ ρ = [.dk (dkX bg cl j), .d (.int many), x, .any, .any]) ⟨_, bg, .any, rfl, hbg, hbl, rfl⟩ fun m ρ hI => ?_)
  obtain ⟨bg, x, rfl, hbg, hbl, rfl⟩ := hI
  cases bg with
  | cons b0 bs =>
    refine (et_dk0ne 0 (units64 hr)).wtd ?_
    rw [show (!(b0 :: bs : List Int).isEmpty) = true from rfl, if_pos rfl]
    refine sb_cons (sj_set 2 (ee_dk00 0 rfl) (sb_cons (sj_if (t := decide (0 < b0)) (et_cmpD od_gt (nomark _) (ee_var 2 rfl) ee_int) (fun h => ?_) fun h => sb_nil (sb_one (sj_dk0pop 0 ⟨_, Nat.lt_succ_self _, bs, .d (.int b0), rfl, fun b hb => hbg b (List.mem_cons_of_mem _ hb), ?_, rfl⟩)))))
    · have h := of_decide_eq_true h
      refine sb_cons (sj_dk00 0 (ee_opD (od_div (wide_div (b := 60) (by omega) (by omega) (by decide) (by decide))) (ee_var 2 rfl) (ee_var 1 rfl)) (sb_one (sj_retK 0 (P' := dkN (M + 1)) (ee_opD (od_mod (by omega)) (ee_var 2 rfl) (ee_var 1 rfl)) rfl ?_ ⟨M + 1, rfl, rfl, (b0 % many).toNat, ?_, ?_⟩)))
      · rintro b c i ⟨rfl, rfl, rfl⟩
        refine ⟨fun b hb => ?_, hcl, hclb, hbl, hcll, by omega⟩
        rcases List.mem_cons.mp hb with rfl | hb
        · exact Int.ediv_nonneg (by omega) (by omega)
        · exact hbg b (List.mem_cons_of_mem _ hb)
      · rw [Int.toNat_of_nonneg (Int.emod_nonneg _ (by omega))]
      · rw [Int.toNat_of_nonneg (Int.emod_nonneg _ (by omega))]; exact Int.emod_lt_of_pos _ (by omega)
    · rw [List.length_cons] at hbl; omega
  | nil =>
    refine (et_dk0ne 0 (units64 hr)).wtd ?_
    rw [show (!([] : List Int).isEmpty) = false from rfl, if_neg Bool.false_ne_true]
    have hcp : 0 < cl.length := List.length_pos_iff.mpr hcl
    have hlt : (j + 1) % cl.length < cl.length := Nat.mod_lt _ hcp
    have hget : cl[(j + 1) % cl.length]? = some cl[(j + 1) % cl.length] := List.getElem?_eq_getElem hlt
    let c0 : Int := cl[(j + 1) % cl.length]
    let cell : Int := c0 % 2147483647
    have hc1 : 0 ≤ cell := Int.emod_nonneg _ (by decide)
    have hc2 : cell < 2147483647 := Int.emod_lt_of_pos _ (by decide)
    let mx : Int := cell * (69621 + 48271 * ((j + 1 : Nat) : Int)) + 30011 * ((j + 1 : Nat) : Int) * ((j + 1 : Nat) : Int) + 47
    let my : Int := mx % 2147483629
    have hy1 : 0 ≤ my := Int.emod_nonneg _ (by decide)
    have hy2 : my < 2147483629 := Int.emod_lt_of_pos _ (by decide)
    have hcp' : (0 : Int) < (cl.length : Nat) := by omega
    have hmp : (0 : Int) < many := by omega
    have m1 : ∀ z, CMul cell z := fun z => .inl ⟨by omega, by omega⟩
    have m2 : ∀ z, CMul my z := fun z => .inl ⟨by omega, by omega⟩
    have m3 : ∀ z, CMul z ((j + 1 : Nat) : Int) := fun z => .inr ⟨by omega, by omega⟩
    refine sb_cons (sj_dk2 0 (m := j + 1) (EE.to (ee_opD od_add (ee_dk2 0) ee_int) (by simp)) (sb_cons (sj_set 3 (x := .int cell) (ee_opD (od_mod (by decide)) (ee_dk1at 0 (t := (j + 1) % cl.length) (EE.to (ee_opD (od_mod hcp') (ee_dk2 0) (ee_dkLen1 0 T.b_len)) ?_) hget) ee_int) (sb_cons (sj_set 4 (x := .int mx) (ee_opD od_add (ee_opD od_add (ee_opD (od_mul (m1 _)) (ee_var 3 rfl) (ee_opD od_add ee_int (ee_opD (od_mul (.inl ⟨by decide, by decide⟩)) ee_int (ee_dk2 0)))) (ee_opD (od_mul (m3 _)) (ee_opD (od_mul (.inl ⟨by decide, by decide⟩)) ee_int (ee_dk2 0)) (ee_dk2 0))) ee_int) (sb_cons (sj_set 4 (x := .int my) (ee_opD (od_mod (by decide)) (ee_var 4 rfl) ee_int) (sb_one (sj_retK 0 (P' := dkN (M + 1)) (ee_opD (od_mod hmp) (ee_opD (od_div (wide_div (b := 60) (by decide) (by decide) (by decide) (by decide))) (ee_opD (od_mod (by decide)) (ee_opD (od_mul (m2 _)) (ee_var 4 rfl) (ee_var 4 rfl)) ee_int) ee_int) (ee_var 1 rfl)) rfl ?_ ⟨M + 1, rfl, rfl, (my * my % 2147483587 / 16 % many).toNat, ?_, ?_⟩)))))))))
    · rw [Int.natCast_emod]
    · rintro b c i ⟨rfl, rfl, rfl⟩
      exact ⟨fun b hb => (nomatch hb), hcl, hclb, by decide, hcll, by omega⟩
    · rw [Int.toNat_of_nonneg (Int.emod_nonneg _ (by omega))]
    · rw [Int.toNat_of_nonneg (Int.emod_nonneg _ (by omega))]; exact Int.emod_lt_of_pos _ (by omega)
end
end TR
set_option Elab.async false
set_option linter.all false
set_option maxRecDepth 100000
set_option maxHeartbeats 2000000
/-! P14: the law's draws, more -/
namespace TR
open PySem PySem.Spec PyProof.Rows L2 DL
def listR (N : Nat) (ds : List D) (post : D → Nat → Prop) : Prop := N ≤ 900000 ∧ ∃ d : Nat, ds = [.int d] ∧ 1 ≤ d ∧ d ≤ 8 ∧ post = fun x N' => N' ≤ N + 8 ∧ ∃ r, IsRk d r ∧ x = rD (true, r)
def exch (r : List Nat) (k : Nat) : List Nat := r.take k ++ (r.getD (k + 1) 0 :: r.getD k 0 :: r.drop (k + 2))
def exchR (ds : List D) (x : D) : Prop := ∃ (tb : Bool) (r : List Nat) (d k : Nat), ds = [rD (tb, r), .int k] ∧ IsRk d r ∧ d ≤ 8 ∧ k + 1 < d ∧ x = rD (false, exch r k)
def lineR (N : Nat) (ds : List D) (post : D → Nat → Prop) : Prop := N ≤ 900000 ∧ ds = [.int 8] ∧ post = fun x N' => N' ≤ N + 40 ∧ ∃ L, LineOk L ∧ x = lineD L
def meetR (N : Nat) (ds : List D) (post : D → Nat → Prop) : Prop := N ≤ 900000 ∧ ∃ L, LineOk L ∧ ds = [lineD L] ∧ post = fun x N' => N' ≤ N + 5 ∧ ∃ t : Int, 0 ≤ t ∧ t ≤ 10 ^ 12 ∧ x = .int t
theorem get_erase_perm {α : Type} : ∀ (l : List α) (v : Nat) (h : v < l.length), (l[v] :: l.eraseIdx v).Perm l
  | [], v, h => absurd h (Nat.not_lt_zero _)
  | a :: l, 0, h => by simp
  | a :: l, v + 1, h => by
    have h' : v < l.length := by rw [List.length_cons] at h; omega
    show (l[v] :: a :: l.eraseIdx v).Perm (a :: l)
    exact (List.Perm.swap _ _ _).trans ((get_erase_perm l v h').cons a)
theorem map_eraseI {α β : Type} (f : α → β) : ∀ (l : List α) (v : Nat), (l.map f).eraseIdx v = (l.eraseIdx v).map f
  | [], v => by simp
  | a :: l, 0 => by simp
  | a :: l, v + 1 => by
    show f a :: (l.map f).eraseIdx v = f a :: (l.eraseIdx v).map f
    rw [map_eraseI f l v]
theorem drop_two {r : List Nat} {k : Nat} (h : k + 1 < r.length) : r = r.take k ++ (r.getD k 0 :: r.getD (k + 1) 0 :: r.drop (k + 2)) := by
  conv => lhs; rw [← List.take_append_drop k r]
  congr 1
  rw [List.drop_eq_getElem_cons (show k < r.length by omega), List.drop_eq_getElem_cons h, List.getD_eq_getElem?_getD, List.getD_eq_getElem?_getD, List.getElem?_eq_getElem (show k < r.length by omega), List.getElem?_eq_getElem h]
  rfl
theorem exch_rk {d : Nat} {r : List Nat} {k : Nat} (h : IsRk d r) (hk : k + 1 < d) : IsRk d (exch r k) := by
  have hl := h.len
  have e := drop_two (r := r) (k := k) (by omega)
  refine List.Perm.trans ?_ h
  conv => rhs; rw [e]
  unfold exch
  exact (List.Perm.swap _ _ _).append_left _
section
variable {P : Program} {w : World} {K : PySem.W.Frag} {mg : Str → Option Value} {base : Heap} (T : Tx K mg)
include T
theorem k_one : KFam P w K mg base 2 "_law_one" oneR := by
  refine fnKF T.a__law_one sc__law_one _ (fun M ds post h => by obtain ⟨_, x, xs, rfl, _⟩ := h; rfl) (by decide) fun M ds post hR f cdv A outer s H E hr => ?_
  have nd := sc__law_one.nd
  obtain ⟨hM, x, xs, rfl, hx, hne, hl, rfl⟩ := hR
  have hpos : 0 < xs.length := List.length_pos_iff.mpr hne
  have fin : ∀ (ρ : List Sl) (y : D) (v : Nat), (v : Int) < (xs.length : Nat) → y = .int v → ∃ i z, y = .int i ∧ atI xs i = some z ∧ z ∈ xs := fun ρ y v hv e => ⟨v, xs[v]'(by omega), e, atI_nat (List.getElem?_eq_getElem _), List.getElem_mem _⟩
  rcases hx with rfl | ⟨tb, rfl⟩
  · refine sb_one (sj_retW (wd_ix (.inl rfl) (ee_var 1 rfl) (wd_callKW 0 (k_next T) hr ((ea_cons (ee_lenL T.b_len (ea_cons (ee_var 1 rfl) ea_nil)) ea_nil).wad ⟨M, _, ⟨by omega, (xs.length : Nat), rfl, by omega, by omega, rfl⟩, rfl, fun y N' hp => ?_⟩) ⟨_, rfl⟩)))
    obtain ⟨rfl, v, e, hv⟩ := hp
    obtain ⟨i, z, e1, e2, e3⟩ := fin [] y v hv e
    exact ⟨i, z, e1, e2, M + 1, rfl, rfl, e3⟩
  · refine sb_one (sj_retW (wd_ix (.inr ⟨tb, rfl⟩) (ee_var 1 rfl) (wd_callKW 0 (k_next T) hr ((ea_cons (ee_lenT T.b_len (ea_cons (ee_var 1 rfl) ea_nil)) ea_nil).wad ⟨M, _, ⟨by omega, (xs.length : Nat), rfl, by omega, by omega, rfl⟩, rfl, fun y N' hp => ?_⟩) ⟨_, rfl⟩)))
    obtain ⟨rfl, v, e, hv⟩ := hp
    obtain ⟨i, z, e1, e2, e3⟩ := fin [] y v hv e
    exact ⟨i, z, e1, e2, M + 1, rfl, rfl, e3⟩
theorem k_list : KFam P w K mg base 2 "_law_list" listR := by
  refine fnKF T.a__law_list sc__law_list _ (fun M ds post h => by obtain ⟨_, d, rfl, _⟩ := h; rfl) (by decide) fun M ds post hR f cdv A outer s H E hr => ?_
  have nd := sc__law_list.nd
  obtain ⟨hM, d, rfl, hd1, hd8, rfl⟩ := hR
  refine sb_cons (sj_parOO 2 3 (EO.to (eo_listRg1 T.b_list T.b_range (ee_var 1 rfl) (by omega) (by omega)) (show _ = (iN (List.range d)).map D.int from ?_)) (eo_lst ea_nil) (sb_cons (sj_while (fun m ρ => ∃ l g : List Nat, m = l.length ∧ (l ++ g).Perm (List.range d) ∧ ρ = [.dk (dkN (M + g.length)), .d (.int d), .own ((iN l).map .int), .own ((iN g).map .int)]) ⟨_, List.range d, [], rfl, by simp, rfl⟩ fun m ρ hI => ?_)))
  · unfold rangeD iN
    rw [Int.toNat_natCast, List.map_map]
    exact List.map_congr_left fun i _ => by show D.int (0 + (i : Int)) = D.int (i : Int); rw [Int.zero_add]
  · obtain ⟨l, g, rfl, hp, rfl⟩ := hI
    have hlen := hp.length_eq
    rw [List.length_append, List.length_range] at hlen
    have hok : SeqAt.shaped (toPy (.list ((iN l).map .int))) = true := (OkD.lst (n := 0) (ok_map fun x _ => .int)).sh
    refine (et_ownNe (units64 hr) 2 hok).wtd ?_
    cases l with
    | nil =>
      rw [show (!((iN []).map D.int).isEmpty) = false from rfl, if_neg Bool.false_ne_true]
      refine sb_one (sj_retW ((ee_tupP T.b_tuple (ea_cons (ee_froz 3 rfl) ea_nil)).wd ⟨M + g.length, rfl, ?_, g, hp, rfl⟩))
      rw [List.length_nil] at hlen
      omega
    | cons a l =>
      rw [show (!((iN (a :: l)).map D.int).isEmpty) = true from rfl, if_pos rfl]
      rw [List.length_cons] at hlen
      refine sb_one (sj_append (ρ0 := []) 3 (wd_popAt 2 (wd_callKW 0 (k_next T) hr ((ea_cons (EE.to (ee_lenO 2 T.b_len) (show D.int _ = .int (((a :: l).length : Nat) : Int) by simp [iN])) ea_nil).wad ⟨M + g.length, _, ⟨by omega, ((a :: l).length : Nat), rfl, by simp; omega, by simp; omega, rfl⟩, rfl, fun y N' hpost => ?_⟩) ⟨_, rfl⟩) ⟨_, rfl⟩) ⟨_, rfl⟩)
      obtain ⟨rfl, v, rfl, hv⟩ := hpost
      have hv' : v < (a :: l).length := by omega
      have hgv := List.getElem?_eq_getElem hv'
      refine ⟨v, _, .int ((a :: l)[v] : Nat), rfl, rfl, iND_get hgv, ?_, (iN g).map .int, rfl, ?_, (a :: l).length - 1, ?_, (a :: l).eraseIdx v, g ++ [(a :: l)[v]], ?_, ?_, ?_⟩
      · rw [List.length_cons] at hv'; omega
      · rw [List.length_map, iN_len]; omega
      · rw [List.length_cons]; omega
      · rw [List.length_eraseIdx_of_lt hv']
      · refine List.Perm.trans ?_ hp
        have h1 := get_erase_perm (a :: l) v hv'
        have e : (a :: l).eraseIdx v ++ (g ++ [(a :: l)[v]]) = (a :: l).eraseIdx v ++ g ++ [(a :: l)[v]] := (List.append_assoc _ _ _).symm
        rw [e]
        exact (List.perm_append_comm (l₂ := [(a :: l)[v]])).trans (h1.append_right g)
      · unfold iN
        rw [List.length_append, List.map_append, List.map_append, map_eraseI, map_eraseI]
        rfl
theorem k_exch : DFam P w K mg base 1 "_law_exchanged" exchR := by
  refine fnDF T.a__law_exchanged sc__law_exchanged _ (fun ds x h => by obtain ⟨tb, r, d, k, rfl, _⟩ := h; rfl) (by decide) fun ds x hR f cdv A outer s H E hr => ?_
  have nd := sc__law_exchanged.nd
  obtain ⟨tb, r, d, k, rfl, hrk, hd8, hk, rfl⟩ := hR
  have hl := hrk.len
  have hlD : ((iN r).map D.int).length = d := by rw [List.length_map, iN_len, hl]
  have g1 : ((iN r).map D.int)[k + 1]? = some (.int (r.getD (k + 1) 0 : Nat)) := iND_get (getD_get (by omega))
  have g0 : ((iN r).map D.int)[k]? = some (.int (r.getD k 0 : Nat)) := iND_get (getD_get (by omega))
  have e2 : cutD ((iN r).map D.int) (some ((k : Int) + 2)) none = ((iN r).map D.int).drop (k + 2) := by
    have := cutD_drop (xs := (iN r).map D.int) (k := k + 2) (by omega)
    rw [← this]
    congr 2
  have e1 := cutD_take (xs := (iN r).map D.int) (k := k) (by omega)
  refine sb_one (sj_ret (EE.to (ee_catT ?_ (ee_catT ?_ (ee_slTn (i := none) (j := some (k : Nat)) (ee_var 0 rfl) trivial (ee_var 1 rfl) ?_) (ee_tup (xs := [.int (r.getD (k + 1) 0 : Nat), .int (r.getD k 0 : Nat)]) (ea_cons (ee_ixT (i := ((k + 1 : Nat) : Int)) (ee_var 0 rfl) (ee_opD od_add (ee_var 1 rfl) ee_int) (atI_nat g1)) (ea_cons (ee_ixT (ee_var 0 rfl) (ee_var 1 rfl) (atI_nat g0)) ea_nil)))) (ee_slTn (i := some ((k : Int) + 2)) (j := none) (ee_var 0 rfl) (ee_opD od_add (ee_var 1 rfl) ee_int) trivial ?_)) ?_) rfl)
  · rw [e1, e2]; simp only [List.length_append, List.length_take, List.length_drop, hlD]; simp; omega
  · rw [e1]; simp only [List.length_take, hlD]; simp; omega
  · rw [hlD]
    rintro ⟨_, h⟩
    simp only [HT.sIx] at h
    rw [if_neg (by omega)] at h
    omega
  · rw [hlD]
    rintro ⟨h, _⟩
    simp only [HT.sIx] at h
    rw [if_neg (by omega)] at h
    omega
  · rw [e1, e2]
    unfold rD exch iN
    simp only [List.map_append, List.map_cons, List.map_take, List.map_drop, List.append_assoc, List.cons_append, List.nil_append]
end
end TR
set_option Elab.async false
set_option linter.all false
set_option maxRecDepth 100000
set_option maxHeartbeats 2000000
/-! P15: the law's lines -/
namespace TR
open PySem PySem.Spec PyProof.Rows L2 DL
def lpD (p : Int × Int) : D := .tuple [.int p.1, .int p.2]
theorem okLp (p : Int × Int) : OkD 1 (lpD p) := ok_pair
def okP' (p : Int × Int) : Prop := p.1.natAbs ≤ 10 ^ 12 ∧ p.2.natAbs ≤ 10 ^ 12
theorem pow10 (k : Nat) (h : k ≤ 1000000) : CPow 10 (k : Int) := ⟨by omega, by omega, by decide⟩
section
variable {P : Program} {w : World} {K : PySem.W.Frag} {mg : Str → Option Value} {base : Heap} (T : Tx K mg)
include T
theorem k_meeting : KFam P w K mg base 3 "_law_meeting" meetR := by
  refine fnKF T.a__law_meeting sc__law_meeting _ (fun M ds post h => by obtain ⟨_, L, _, rfl, _⟩ := h; rfl) (by decide) fun M ds post hR f cdv A outer s H E hr => ?_
  have nd := sc__law_meeting.nd
  obtain ⟨hM, L, hL, rfl, rfl⟩ := hR
  have hlo := hL.lo
  have h8 := hL.hi
  have hne : L.map lpD ≠ [] := fun e => by
    have := congrArg List.length e
    simp at this
    rw [this] at hlo
    simp at hlo
  have p12 : CPow 10 (12 : Int) := ⟨by decide, by decide, by decide⟩
  have q12 : (10 : Int) ^ (12 : Int).toNat = 1000000000000 := by decide
  refine sb_cons (sj_parW 2 3 (wd_callKW 0 (k_one T) hr ((ea_cons (ee_var 1 rfl) ea_nil).wad ⟨M, _, ⟨by omega, _, L.map lpD, rfl, .inr ⟨false, rfl⟩, hne, by simp; omega, rfl⟩, rfl, fun y N' hp => ?_⟩) ⟨_, rfl⟩))
  obtain ⟨rfl, hy⟩ := hp
  obtain ⟨p1, hp1, rfl⟩ := List.mem_map.mp hy
  refine wd_callKW 0 (k_one T) hr ((ea_cons (ee_var 1 rfl) ea_nil).wad ⟨M + 1, _, ⟨by omega, _, L.map lpD, rfl, .inr ⟨false, rfl⟩, hne, by simp; omega, rfl⟩, rfl, fun y N' hp => ?_⟩) ⟨_, rfl⟩
  obtain ⟨rfl, hy2⟩ := hp
  obtain ⟨p2, hp2, rfl⟩ := List.mem_map.mp hy2
  have b1 := hL.bd p1 hp1
  have b2 := hL.bd p2 hp2
  refine sb_cons (sj_ifW (wtd_w (ewd_or ((et_cmpD (t := decide (p1.2 = p2.2)) od_eqi (nomark _) (ee_ixT (i := 1) (xs := [.int p1.1, .int p1.2]) (tb := false) (ee_var 2 rfl) ee_int rfl) (ee_ixT (i := 1) (xs := [.int p2.1, .int p2.2]) (tb := false) (ee_var 3 rfl) ee_int rfl)).wtd ?_))))
  by_cases h : p1.2 = p2.2
  · rw [decide_eq_true h, if_pos rfl, if_pos rfl]
    refine sb_one (sj_retW (wd_callKW 0 (k_next T) hr ((ea_cons (ee_opD od_add (ee_opD (od_pow p12) ee_int ee_int) ee_int) ea_nil).wad ⟨M + 2, _, ⟨by omega, _, rfl, by rw [q12]; decide, by rw [q12]; decide, rfl⟩, rfl, fun y N' hp => ?_⟩) ⟨_, rfl⟩))
    obtain ⟨rfl, v, rfl, hv⟩ := hp
    rw [q12] at hv
    exact ⟨M + 3, rfl, by omega, v, by omega, by omega, rfl⟩
  · rw [decide_eq_false h, if_neg Bool.false_ne_true]
    refine ewd_or1 (wtd_cmp (nomark _) (wd_callKW 0 (k_next T) hr ((ea_cons ee_int ea_nil).wad ⟨M + 2, _, ⟨by omega, 4, rfl, by decide, by decide, rfl⟩, rfl, fun y N' hp => ?_⟩) ⟨_, rfl⟩))
    obtain ⟨rfl, v, rfl, hv⟩ := hp
    refine ee_int.wd ⟨_, od_eqi, ?_⟩
    by_cases h0 : (v : Int) = 0
    · rw [decide_eq_true h0, if_pos rfl]
      refine sb_one (sj_retW (wd_callKW 0 (k_next T) hr ((ea_cons (ee_opD od_add (ee_opD (od_pow p12) ee_int ee_int) ee_int) ea_nil).wad ⟨M + 3, _, ⟨by omega, _, rfl, by rw [q12]; decide, by rw [q12]; decide, rfl⟩, rfl, fun y N' hp => ?_⟩) ⟨_, rfl⟩))
      obtain ⟨rfl, v, rfl, hv⟩ := hp
      rw [q12] at hv
      exact ⟨M + 4, rfl, by omega, v, by omega, by omega, rfl⟩
    · rw [decide_eq_false h0, if_neg Bool.false_ne_true]
      have hlg : CDivWN (p2.1 - p1.1) (p1.2 - p2.2) := ⟨by omega, Nat.lt_of_lt_of_le (PySem.Flt.log2_lt_of (by decide) (Nat.lt_of_le_of_lt (show (p1.2 - p2.2).natAbs ≤ 2 * 10 ^ 12 by omega) (show 2 * 10 ^ 12 < 2 ^ 42 by decide))) (by decide)⟩
      refine sb_nil (sb_cons (sj_set 4 (x := .int ((p2.1 - p1.1).fdiv (p1.2 - p2.2))) (ee_opD (od_divN hlg) (ee_opD od_sub (ee_ixT (i := 0) (xs := [.int p2.1, .int p2.2]) (tb := false) (ee_var 3 rfl) ee_int rfl) (ee_ixT (i := 0) (xs := [.int p1.1, .int p1.2]) (tb := false) (ee_var 2 rfl) ee_int rfl)) (ee_opD od_sub (ee_ixT (i := 1) (xs := [.int p1.1, .int p1.2]) (tb := false) (ee_var 2 rfl) ee_int rfl) (ee_ixT (i := 1) (xs := [.int p2.1, .int p2.2]) (tb := false) (ee_var 3 rfl) ee_int rfl))) ?_))
      refine sb_one (sj_retW (wd_max2 T.b_max (wad_cons (ee_int.wd (wad_cons (wd_min2 T.b_min (wad_cons ((ee_opD (od_pow p12) ee_int ee_int).wd ?_))))))))
      refine wad_cons (wd_bin (wd_bin ((ee_var 4 rfl).wd ?_)))
      refine wd_callKW 0 (k_next T) hr ((ea_cons ee_int ea_nil).wad ⟨M + 3, _, ⟨by omega, 3, rfl, by decide, by decide, rfl⟩, rfl, fun y N' hp => ?_⟩) ⟨_, rfl⟩
      obtain ⟨rfl, v2, rfl, hv2⟩ := hp
      refine ⟨_, od_add, ee_int.wd ⟨_, od_sub, wad_nil ⟨_, _, rfl, wad_nil ⟨_, _, rfl, M + 4, rfl, by omega, _, ?_, ?_, rfl⟩⟩⟩⟩
      · omega
      · rw [q12]; omega
end
end TR
set_option Elab.async false
set_option linter.all false
set_option maxRecDepth 100000
set_option maxHeartbeats 2000000
/-! P16: the law's lines -/
namespace TR
open PySem PySem.Spec PyProof.Rows L2 DL
/-- a datum that leaves the environment, as a structure (so that its type stays closed) -/
structure EES (X : Cx) (ρ : List Sl) (e : Expr) (x : D) : Prop where
  h : EE X ρ e ρ x
section
variable {X : Cx} {ρ : List Sl} {e1 e2 e3 e4 e5 : Expr} {x1 x2 x3 x4 x5 : D} {pos : Pos}
theorem ees_two {i j : Int} {a b : Expr} {x0 : Nat} (h1 : EES X ρ a (.int i)) (h2 : EES X ρ b (.int j)) (hs1 : starEach [a, b] X.env = (false, eval a X.env) :: starEach [b] X.env := by rfl) (hs2 : starEach [b] X.env = (false, eval b X.env) :: starEach [] X.env := by rfl) : EES X ρ (.Tuple [a, b] x0 pos) (lpD (i, j)) :=
  ⟨ee_tup (xs := [.int i, .int j]) (ea_cons h1.h (ea_cons h2.h ea_nil hs2) hs1)⟩
theorem ees_five (h1 : EES X ρ e1 x1) (h2 : EES X ρ e2 x2) (h3 : EES X ρ e3 x3) (h4 : EES X ρ e4 x4) (h5 : EES X ρ e5 x5) (s1 : starEach [e1, e2, e3, e4, e5] X.env = (false, eval e1 X.env) :: starEach [e2, e3, e4, e5] X.env := by rfl) (s2 : starEach [e2, e3, e4, e5] X.env = (false, eval e2 X.env) :: starEach [e3, e4, e5] X.env := by rfl)
    (s3 : starEach [e3, e4, e5] X.env = (false, eval e3 X.env) :: starEach [e4, e5] X.env := by rfl) (s4 : starEach [e4, e5] X.env = (false, eval e4 X.env) :: starEach [e5] X.env := by rfl) (s5 : starEach [e5] X.env = (false, eval e5 X.env) :: starEach [] X.env := by rfl) : EES X ρ (.List [e1, e2, e3, e4, e5] pos) (.list [x1, x2, x3, x4, x5]) :=
  ⟨EE.of_o (eo_lst (ea_cons h1.h (ea_cons h2.h (ea_cons h3.h (ea_cons h4.h (ea_cons h5.h ea_nil s5) s4) s3) s2) s1))⟩
theorem sj_unpackK {n dn : Str} {p pd pos0 : Pos} {e : Expr} {tg : Expr} {x : D} {j k N : Nat} {R : Nat → List D → (D → Nat → Prop) → Prop} {post : D → Nat → Prop} {nx bk ct : List Sl → Prop} {rt : List Sl → D → Prop} (i : Nat) (F0 : KFam X.prog X.w X.K X.mg X.base j n R) (hr : Room k X.A) (ha : EES X ρ e x) (hR : R N [x] post) (q : ∀ y N', post y N' → ∃ vs ρ2, GJ X (ρ.set i (.dk (dkN N'))) tg y vs ρ2 ∧ nx ρ2) (hi : ρ[i]? = some (.dk (dkN N)) := by rfl) (hj : j ≤ k := by decide) (hg : Gl X n := by rfl) (hdb : (n == ("__debug__" : Str)) = false := by decide) (hN : X.N[i]? = some dn := by rfl)
    (hv : Vis X.env.scope dn := by first | exact Or.inl rfl | exact Or.inr (Or.inl rfl) | exact Or.inr (Or.inr rfl)) (hd : (dn == ("__debug__" : Str)) = false := by decide) (hcd : (dn == ("__classdict__" : Str)) = false := by decide)
    (he : starEach [.Name dn pd, e] X.env = (false, eval (.Name dn pd) X.env) :: starEach [e] X.env := by rfl) (he1 : starEach [e] X.env = (false, eval e X.env) :: starEach [] X.env := by rfl) (hpl : (backTo pos (starEach [e] X.env)).any (·.1) = false := by rfl)
    (hs : swapsWithSole [tg] (.Call (.Name n p) [.Name dn pd, e] [] pos) pos0.line X.env = pure false := by rfl) (hw : swappedStores [tg] (.Call (.Name n p) [.Name dn pd, e] [] pos) X.env = pure none := by rfl) (h1 : (assignEach [tg] X.env).map (·.2) = [assign tg X.env] := by rfl) : SJ X ρ (.Assign [tg] (.Call (.Name n p) [.Name dn pd, e] [] pos) pos0) nx rt bk ct :=
  sj_unpackW (wd_callKW i F0 hr ((ea_cons ha.h ea_nil he1).wad ⟨N, post, hR, hi, fun y N' hp => q y N' hp⟩) ⟨_, hi⟩ hj hg hdb hN hv hd hcd he hpl) hs hw h1
end
section
variable {P : Program} {w : World} {K : PySem.W.Frag} {mg : Str → Option Value} {base : Heap} (T : Tx K mg)
include T
theorem k_line : KFam P w K mg base 3 "_law_line" lineR := by
  refine fnKF T.a__law_line sc__law_line _ (fun M ds post h => by obtain ⟨_, rfl, _⟩ := h; rfl) (by decide) fun M ds post hR f cdv A outer s H E hr => ?_
  have nd := sc__law_line.nd
  obtain ⟨hM, rfl, rfl⟩ := hR
  obtain ⟨A, hA⟩ : ∃ A : Int, A = 10 ^ (12 : Int).toNat := ⟨_, rfl⟩
  obtain ⟨B, hB⟩ : ∃ B : Int, B = 10 ^ (6 : Int).toNat := ⟨_, rfl⟩
  have hA2 : A = 1000000000000 := by rw [hA]; decide
  have hB2 : B = 1000000 := by rw [hB]; decide
  have tA : ∀ (X : Cx) (ρ : List Sl) (a b c : Pos) (k1 k2 : Nat), EE X ρ (.BinOp (.Constant (.int 10) k1 a) .Pow (.Constant (.int 12) k2 b) c) ρ (.int A) := fun X ρ a b c k1 k2 => by
    rw [hA]
    exact ee_opD (od_pow ⟨by decide, by decide, by decide⟩) ee_int ee_int
  have tB : ∀ (X : Cx) (ρ : List Sl) (a b c : Pos) (k1 k2 : Nat), EE X ρ (.BinOp (.Constant (.int 10) k1 a) .Pow (.Constant (.int 6) k2 b) c) ρ (.int B) := fun X ρ a b c k1 k2 => by
    rw [hB]
    exact ee_opD (od_pow ⟨by decide, by decide, by decide⟩) ee_int ee_int
  clear hA hB
  refine sb_cons (sj_unpackK (N := M) 0 (k_one T) hr (ees_five (ees_two ⟨ee_int⟩ ⟨ee_int⟩) (ees_two ⟨ee_int⟩ ⟨ee_int⟩) (ees_two ⟨tB _ _ _ _ _ _ _⟩ ⟨ee_int⟩) (ees_two ⟨tA _ _ _ _ _ _ _⟩ ⟨ee_int⟩) (ees_two ⟨tA _ _ _ _ _ _ _⟩ ⟨tA _ _ _ _ _ _ _⟩)) ⟨by omega, _, _, rfl, .inl rfl, List.cons_ne_nil _ _, Nat.le_of_ble_eq_true rfl, rfl⟩ fun y N' hp => ?_)
  obtain ⟨rfl, hy⟩ := hp
  obtain ⟨hs, rfl, hb⟩ : ∃ hs : Int × Int, y = lpD hs ∧ (0 ≤ hs.1 ∧ hs.1 ≤ 10 ^ 12 ∧ 0 ≤ hs.2 ∧ hs.2 ≤ 10 ^ 12) := by
    rcases List.mem_cons.mp hy with rfl | hy
    · exact ⟨(6, 3), rfl, by decide⟩
    rcases List.mem_cons.mp hy with rfl | hy
    · exact ⟨(40, 9), rfl, by decide⟩
    rcases List.mem_cons.mp hy with rfl | hy
    · exact ⟨(B, 10), rfl, by dsimp only; omega⟩
    rcases List.mem_cons.mp hy with rfl | hy
    · exact ⟨(A, 1000), rfl, by dsimp only; omega⟩
    rcases List.mem_cons.mp hy with rfl | hy
    · exact ⟨(A, A), rfl, by dsimp only; omega⟩
    · cases hy
  refine ⟨[2, 3], [.dk (dkN (M + 1)), .d (.int 8), .d (.int hs.1), .d (.int hs.2), .any, .any, .any, .any], gj_tup (gjs_cons (gj_name 2) (gjs_cons (gj_name 3) gjs_nil)), ?_⟩
  refine sb_cons (sj_own 4 (xs := []) (eo_lst ea_nil) (sb_cons (sj_forW (eid_range1 T.b_range (wd_bin (ee_int.wd (wd_callKW 0 (k_next T) hr ((ea_cons (ee_var 1 rfl) ea_nil).wad ⟨M + 1, _, ⟨by omega, 8, rfl, by decide, by decide, rfl⟩, rfl, fun y N' hp => ?_⟩) ⟨_, rfl⟩)))))))
  obtain ⟨rfl, v, rfl, hv⟩ := hp
  refine ⟨.int (1 + v), od_add, 1 + (v : Int), rfl, by omega, ?_⟩
  have hlen : (rangeD 0 (1 + (v : Int)).toNat).length ≤ 8 := by rw [rangeD_len]; omega
  have hlen1 : 1 ≤ (rangeD 0 (1 + (v : Int)).toNat).length := by rw [rangeD_len]; omega
  let en : Nat → List (Int × Int) → Sl → Sl → Sl → List Sl := fun c L x y z => [.dk (dkN c), .d (.int 8), .d (.int hs.1), .d (.int hs.2), .own (L.map lpD), x, y, z]
  refine ⟨fun i ρ => ∃ c L x y z, c ≤ M + 2 + 4 * i ∧ L.length = i ∧ (∀ p ∈ L, okP' p) ∧ ρ = en c L x y z, ⟨M + 2, [], .any, .any, .any, by omega, rfl, (fun p h => nomatch h), rfl⟩, fun i y ρ hy hI => ?_, fun ρ hI => ?_⟩
  · obtain ⟨c, L, x, y', z, hc, hL, hok, rfl⟩ := hI
    have hi : i < 8 := by
      have := (List.getElem?_eq_some_iff.mp hy).1
      omega
    refine ⟨[5], en c L (.d y) y' z, gj_name 5, ?_⟩
    have hsh : SeqAt.shaped (toPy (.list (L.map lpD))) = true := (OkD.lst (ok_map fun x _ => okLp x)).sh
    -- the draws
    refine sb_cons (sj_parW 6 7 (wd_bin (wd_callKW 0 (k_next T) hr ((ea_cons (ee_opD od_add (ee_opD (od_mul (.inl ⟨by decide, by decide⟩)) ee_int (ee_var 2 rfl)) ee_int) ea_nil).wad ⟨c, _, ⟨by omega, 2 * hs.1 + 1, rfl, by omega, by omega, rfl⟩, rfl, fun y N' hp => ?_⟩) ⟨_, rfl⟩)))
    obtain ⟨rfl, v1, rfl, hv1⟩ := hp
    refine (ee_var 2 rfl).wd ⟨.int (v1 - hs.1), od_sub, wd_bin (wd_callKW 0 (k_next T) hr ((ea_cons (ee_opD od_add (ee_opD (od_mul (.inl ⟨by decide, by decide⟩)) ee_int (ee_var 3 rfl)) ee_int) ea_nil).wad ⟨c + 1, _, ⟨by omega, 2 * hs.2 + 1, rfl, by omega, by omega, rfl⟩, rfl, fun y N' hp => ?_⟩) ⟨_, rfl⟩)⟩
    obtain ⟨rfl, v2, rfl, hv2⟩ := hp
    refine (ee_var 3 rfl).wd ⟨.int (v2 - hs.2), od_sub, ?_⟩
    have a1 : ((v1 : Int) - hs.1).natAbs ≤ 10 ^ 12 := by omega
    have a2 : ((v2 : Int) - hs.2).natAbs ≤ 10 ^ 12 := by omega
    -- the first test
    refine sb_seq (I := fun ρ' => ∃ c' h2, c' ≤ c + 3 ∧ (h2 : Int).natAbs ≤ 10 ^ 12 ∧ ρ' = en c' L (.d y) (.d (.int (v1 - hs.1))) (.d (.int h2))) (sj_ifW (wtd_w (ewd_and ((et_ownNe (units64 hr) 4 hsh).wtd ?_)))) ?_
    · cases hLe : L.getLast? with
      | none =>
        have e := List.getLast?_eq_none_iff.mp hLe
        subst e
        rw [show (!(([] : List (Int × Int)).map lpD).isEmpty) = false from rfl, if_neg Bool.false_ne_true, if_neg Bool.false_ne_true]
        exact sb_nil ⟨c + 2, v2 - hs.2, by omega, a2, rfl⟩
      | some pl =>
        have hne : L ≠ [] := fun e => by rw [e] at hLe; cases hLe
        have e1 : (!(L.map lpD).isEmpty) = true := by cases L with
          | nil => exact absurd rfl hne
          | cons a b => rfl
        have hm := hok pl (List.mem_of_getLast? hLe)
        rw [e1, if_pos rfl]
        refine ewd_and1 (wtd_cmp (nomark _) (wd_callKW 0 (k_next T) hr ((ea_cons ee_int ea_nil).wad ⟨c + 2, _, ⟨by omega, 6, rfl, by decide, by decide, rfl⟩, rfl, fun y N' hp => ?_⟩) ⟨_, rfl⟩))
        obtain ⟨rfl, v3, rfl, hv3⟩ := hp
        refine ee_int.wd ⟨_, od_eqi, ?_⟩
        by_cases h : (v3 : Int) = 0
        · rw [decide_eq_true h, if_pos rfl]
          exact sb_one (sj_set 7 (ee_ixT (i := 1) (ee_ixO 4 (ee_neg ee_int) (atI_last (getLast_D (f := lpD) hLe))) ee_int rfl) ⟨c + 3, pl.2, by omega, hm.2, rfl⟩)
        · rw [decide_eq_false h, if_neg Bool.false_ne_true]
          exact sb_nil ⟨c + 3, v2 - hs.2, by omega, a2, rfl⟩
    rintro _ ⟨c', h2, hc', hb2, rfl⟩
    refine sb_seq (I := fun ρ' => ∃ c'' h1, c'' ≤ c' + 1 ∧ (h1 : Int).natAbs ≤ 10 ^ 12 ∧ ρ' = en c'' L (.d y) (.d (.int h1)) (.d (.int h2))) (sj_ifW (wtd_w (ewd_and ((et_ownNe (units64 hr) 4 hsh).wtd ?_)))) ?_
    · cases hLe : L.getLast? with
      | none =>
        have e := List.getLast?_eq_none_iff.mp hLe
        subst e
        rw [show (!(([] : List (Int × Int)).map lpD).isEmpty) = false from rfl, if_neg Bool.false_ne_true, if_neg Bool.false_ne_true]
        exact sb_nil ⟨c', v1 - hs.1, by omega, a1, rfl⟩
      | some pl =>
        have hne : L ≠ [] := fun e => by rw [e] at hLe; cases hLe
        have e1 : (!(L.map lpD).isEmpty) = true := by cases L with
          | nil => exact absurd rfl hne
          | cons a b => rfl
        have hm := hok pl (List.mem_of_getLast? hLe)
        rw [e1, if_pos rfl]
        refine ewd_and1 (wtd_cmp (nomark _) (wd_callKW 0 (k_next T) hr ((ea_cons ee_int ea_nil).wad ⟨c', _, ⟨by omega, 8, rfl, by decide, by decide, rfl⟩, rfl, fun y N' hp => ?_⟩) ⟨_, rfl⟩))
        obtain ⟨rfl, v3, rfl, hv3⟩ := hp
        refine ee_int.wd ⟨_, od_eqi, ?_⟩
        by_cases h : (v3 : Int) = 0
        · rw [decide_eq_true h, if_pos rfl]
          exact sb_one (sj_set 6 (ee_ixT (i := 0) (ee_ixO 4 (ee_neg ee_int) (atI_last (getLast_D (f := lpD) hLe))) ee_int rfl) ⟨c' + 1, pl.1, by omega, hm.1, rfl⟩)
        · rw [decide_eq_false h, if_neg Bool.false_ne_true]
          exact sb_nil ⟨c' + 1, v1 - hs.1, by omega, a1, rfl⟩
    rintro _ ⟨c'', h1, hc'', hb1, rfl⟩
    refine sb_one (sj_append (ρ0 := []) 4 ((ee_tup (xs := [.int h1, .int h2]) (ea_cons (ee_var 6 rfl) (ea_cons (ee_var 7 rfl) ea_nil))).wd ⟨L.map lpD, rfl, by rw [List.length_map]; omega, c'', L ++ [(h1, h2)], .d y, .d (.int h1), .d (.int h2), by omega, by simp; omega, fun p hp => ?_, ?_⟩) ⟨_, rfl⟩)
    · rcases List.mem_append.mp hp with z | z
      · exact hok p z
      · rw [List.mem_singleton.mp z]; exact ⟨hb1, hb2⟩
    · simp only [en, List.map_append]; rfl
  · obtain ⟨c, L, x, y, z, hc, hL, hok, rfl⟩ := hI
    refine sb_one (sj_retK 0 (P' := dkN c) (ee_tupL T.b_tuple (ea_cons (ee_froz 4 rfl) ea_nil)) rfl (fun _ _ _ h => h) ⟨c, rfl, by omega, L, ⟨by omega, by omega, hok⟩, rfl⟩)
end
end TR
set_option Elab.async false
set_option linter.all false
set_option maxRecDepth 100000
set_option maxHeartbeats 2000000
/-! P17: the law's comparisons -/
namespace TR
open PySem PySem.Spec PyProof.Rows L2 DL
theorem od_eqb {X : Cx} {i j : Bool} : OpD X (compareOp .Eq) (.bool i) (.bool j) (.bool (decide (i = j))) :=
  ⟨_, op_eq, fun v w H0 H Q _ r1 r2 q => by cases r1; cases r2; exact ⟨rfl, q _ (by rw [show decide (V.bl i = V.bl j) = decide (i = j) from by simp]; exact .bl _)⟩⟩
/-- the same data, whatever the tuples' flags -/
inductive Sm : Nat → D → D → Prop
  | int {n : Nat} {i : Int} : Sm n (.int i) (.int i)
  | tup {n : Nat} {b c : Bool} {xs ys : List D} : xs.length = ys.length → xs.length ≤ 1000 → (∀ (i : Nat) (x y : D), xs[i]? = some x → ys[i]? = some y → Sm n x y) → Sm (n + 1) (.tup b xs) (.tup c ys)
theorem Sm.mono {n m : Nat} {x y : D} (h : Sm n x y) (l : n ≤ m) : Sm m x y := by
  induction h generalizing m with
  | int => exact .int
  | tup h1 h2 _ ih =>
    obtain ⟨m, rfl⟩ : ∃ k, m = k + 1 := ⟨m - 1, by omega⟩
    exact .tup h1 h2 fun i x y hx hy => ih i x y hx hy (by omega)
theorem sm_ints (b c : Bool) (ns : List Int) (h : ns.length ≤ 1000) : Sm 1 (.tup b (ns.map .int)) (.tup c (ns.map .int)) := .tup rfl (by simpa using h) fun i x y hx hy => by
  rw [hx] at hy
  cases hy
  rw [List.getElem?_map] at hx
  obtain ⟨n, _, rfl⟩ := Option.map_eq_some_iff.mp hx
  exact .int
theorem okE : SeqAt.shaped (toPy (.list [])) = true := rfl
section
variable {P : Program} {w : World} {K : PySem.W.Frag} {mg : Str → Option Value} {base : Heap} (T : Tx K mg)
include T
theorem d_same : ∀ (n : Nat) (x y : D), Sm n x y → DFn P w K mg base (n + 1) "_law_same" [x, y] (.bool true) := fun n => by
  induction n with
  | zero =>
    intro x y h
    cases h with
    | @int n i =>
      refine fnD T.a__law_same sc__law_same _ _ rfl (by decide) fun f cdv A outer s H E hr => ?_
      have nd := sc__law_same.nd
      refine sb_cons (sj_if (t := false) (et_val (ee_isiTL (x := .int i) T.b_isinstance T.b_tuple T.b_list (ee_var 1 rfl) k_it fun _ => k_il)) (fun h => nomatch h) fun _ => sb_nil (sb_cons (sj_if (t := false) (et_val (ee_isi (x := .int i) T.b_isinstance T.b_dict (by decide +kernel) (ee_var 1 rfl) k_id)) (fun h => nomatch h) fun _ => sb_nil (sb_cons (sj_if (et_cmpD od_isN (nomark _) (ee_var 1 rfl) ee_non) (fun h => nomatch h) fun _ => sb_nil (sb_cons (sj_if (t := false) (et_val (ee_isi (x := .int i) T.b_isinstance T.b_str (by decide +kernel) (ee_var 1 rfl) k_is)) (fun h => nomatch h) fun _ => sb_nil ?_)))))))
      exact sb_one (sj_ret (EE.to (ee_and (t := true) (ee_isi (x := .int i) T.b_isinstance T.b_int boot_int (ee_var 0 rfl) k_ii) fun _ => ee_and (t := true) (EE.to (ee_cmpD od_eqb (nomark _) (ee_isi (x := .int i) T.b_isinstance T.b_bool boot_bool (ee_var 0 rfl) k_ib) (ee_isi (x := .int i) T.b_isinstance T.b_bool boot_bool (ee_var 1 rfl) k_ib)) rfl) fun _ => ee_one (ee_cmpD od_eqi (nomark _) (ee_var 0 rfl) (ee_var 1 rfl))) (by simp)) rfl)
  | succ n ih =>
    intro x y h
    cases h with
    | @int n' i => exact (ih (.int i) (.int i) .int).mono (by omega)
    | @tup n' b c xs ys h1 h2 h3 =>
      refine fnD T.a__law_same sc__law_same _ _ rfl (by decide) fun f cdv A outer s H E hr => ?_
      have nd := sc__law_same.nd
      refine sb_cons (sj_if (t := true) (et_val (ee_isiTL (x := .tup c ys) T.b_isinstance T.b_tuple T.b_list (ee_var 1 rfl) k_tt fun h => nomatch h)) (fun _ => ?_) fun h => nomatch h)
      refine sb_cons (sj_if (t := false) (ET.to (et_cmpD od_neb (nomark _) (ee_isi (x := .tup b xs) T.b_isinstance T.b_tuple boot_tuple (ee_var 0 rfl) k_tt) (ee_isi (x := .tup c ys) T.b_isinstance T.b_tuple boot_tuple (ee_var 1 rfl) k_tt)) rfl) (fun h => nomatch h) fun _ => sb_nil ?_)
      refine sb_cons (sj_if (t := false) (ET.to (et_cmpD od_neb (nomark _) (ee_isi (x := .tup b xs) T.b_isinstance T.b_list boot_list (ee_var 0 rfl) k_tl) (ee_isi (x := .tup c ys) T.b_isinstance T.b_list boot_list (ee_var 1 rfl) k_tl)) rfl) (fun h => nomatch h) fun _ => sb_nil ?_)
      refine sb_cons (sj_if (t := false) (ET.to (et_cmpD od_nei (nomark _) (ee_lenT T.b_len (ea_cons (ee_var 0 rfl) ea_nil)) (ee_lenT T.b_len (ea_cons (ee_var 1 rfl) ea_nil))) (by rw [h1]; simp)) (fun h => nomatch h) fun _ => sb_nil ?_)
      refine sb_one (sj_ret (EE.to (ee_cmpD (od_eq (x := .list []) (y := .list []) (units64 hr) okE okE) (nomark _) (EE.to (ee_lcf (own := [("_law_k", 2)]) (List.range ys.length) (fun k => .int (k : Nat)) (fun _ => false) (fun k => .int (k : Nat)) (EI.toL (ei_range1 T.b_range (ee_lenT T.b_len (ea_cons (ee_var 1 rfl) ea_nil))) ?_) rfl (by kernel_rfl) rfl (by simp; omega) fun k hk => ?_) ?_) (EE.of_o (eo_lst ea_nil))) ?_) rfl)
      · unfold rangeD
        rw [Int.toNat_natCast]
        exact List.map_congr_left fun i _ => by rw [Int.zero_add]
      · have hk := List.mem_range.mp hk
        have gx : xs[k]? = some xs[k] := List.getElem?_eq_getElem (by omega)
        have gy : ys[k]? = some ys[k] := List.getElem?_eq_getElem hk
        exact ⟨[.d (.tup b xs), .d (.tup c ys), .d (.int (k : Nat))], fun s H C cl fp => ⟨gj_name 2, rfl, et_not (et_val (t := true) (ee_call (ih _ _ (h3 k _ _ gx gy)) (by exact hr) (ea_cons (ee_ixT (ee_var 0 rfl) (ee_var 2 rfl) (atI_nat gx)) (ea_cons (ee_ixT (ee_var 1 rfl) (ee_var 2 rfl) (atI_nat gy)) ea_nil)) (Nat.le_refl _))), fun h => nomatch h⟩⟩
      · rw [List.filter_eq_nil_iff.mpr fun _ _ => Bool.false_ne_true]; rfl
      · simp [toPy, toPyA, PyData.eqv, PyData.eqvAll]
end
end TR
set_option Elab.async false
set_option linter.all false
set_option maxRecDepth 100000
set_option maxHeartbeats 2000000
/-! P18: the law's own changes and runs -/
namespace TR
open PySem PySem.Spec PyProof.Rows L2 DL
theorem runAdd_none {low : Int} {acc : List Seg} {q : Nat × List Nat} (h : acc = [] ∨ ∃ x, acc.getLast? = some x ∧ ¬ x.2.2 = q.2) : runAdd low acc q = acc ++ [(low + (q.1 : Nat), low + (q.1 : Nat), q.2)] := by
  unfold runAdd
  rcases h with rfl | ⟨x, hx, hne⟩
  · rfl
  · rw [hx]
    exact if_neg hne
theorem runAdd_some {low : Int} {acc : List Seg} {q : Nat × List Nat} {x : Seg} (h : acc.getLast? = some x) (he : x.2.2 = q.2) : runAdd low acc q = acc.dropLast ++ [(x.1, low + (q.1 : Nat), q.2)] := by
  unfold runAdd
  rw [h]
  exact if_pos he
theorem runAdd_len (low : Int) (acc : List Seg) (q : Nat × List Nat) : (runAdd low acc q).length ≤ acc.length + 1 := by
  unfold runAdd
  split
  · split
    · simp
    · simp
  · simp
theorem okSeg (s : Seg) : OkD 2 (segD s) := .tup fun y hy => by
  rcases List.mem_cons.mp hy with rfl | hy
  · exact .int
  rcases List.mem_cons.mp hy with rfl | hy
  · exact .int
  · rw [List.mem_singleton.mp hy]; exact (okRk _).mono (by decide)
section
variable {P : Program} {w : World} {K : PySem.W.Frag} {mg : Str → Option Value} {base : Heap} (T : Tx K mg)
include T
theorem d_law_changes (d : Nat) (R : List (List Nat)) (low : Int) (hR : RowsOk d (tt R)) : DFn P w K mg base 3 "_law_changes" [.tuple ((tt R).map rD), .int low] (.tuple (((rawT d R low).mergeSort leC).map cD)) := by
  refine fnD T.a__law_changes sc__law_changes _ _ rfl (by decide) fun f cdv A outer s H E hr => ?_
  have nd := sc__law_changes.nd
  have h17 : R.length ≤ 17 := by have := hR.hi; simpa using this
  have h1 : 1 ≤ R.length := by have := hR.lo; simpa using this
  have rk : ∀ r ∈ R, IsRk d r := fun r hr => hR.rk (true, r) (List.mem_map.mpr ⟨r, hr, rfl⟩)
  let blk : Nat → List Chg := fun i => (diffs d (R.getD i []) (R.getD (i + 1) [])).map fun p => (low + (1 + (i : Nat)), p)
  let st : Nat → List Chg := fun i => (List.range i).flatMap blk
  have hbl : ∀ i, (blk i).length ≤ 28 := fun i => by
    show ((diffs d (R.getD i []) (R.getD (i + 1) [])).map _).length ≤ 28
    rw [List.length_map]
    exact diffs_len hR.d8 _ _
  have hstl : ∀ i, (st i).length ≤ 28 * i := fun i => by
    have key : ∀ l : List Nat, (l.flatMap blk).length ≤ 28 * l.length := fun l => by
      induction l with
      | nil => exact Nat.le_refl _
      | cons a l ih =>
        rw [List.flatMap_cons, List.length_append, List.length_cons]
        have := hbl a
        omega
    have := key (List.range i)
    rw [List.length_range] at this
    exact this
  refine sb_cons (sj_own 2 (xs := []) (eo_lst ea_nil) (sb_cons (sj_for (EI.toL (ei_range2 T.b_range ee_int (EE.to (ee_lenT T.b_len (ea_cons (ee_var 0 rfl) ea_nil)) (show _ = D.int (R.length : Nat) by simp)) (by omega)) (show _ = rangeD 1 (R.length - 1) by congr 1; omega)) (fun i ρ => i ≤ R.length - 1 ∧ ∃ x, ρ = [.d (.tuple ((tt R).map rD)), .d (.int low), .own ((st i).map cD), x, .any]) ⟨by omega, .any, rfl⟩ (fun i y ρ hy hI => ?_) fun ρ hI => ?_)))
  · obtain ⟨hi0, x, rfl⟩ := hI
    have hi : i < R.length - 1 := by
      have := (List.getElem?_eq_some_iff.mp hy).1
      rw [rangeD_len] at this
      exact this
    rw [rangeD_get hi] at hy
    cases hy
    have ha := rk _ (getD_mem (x := []) (show i < R.length by omega))
    have hb := rk _ (getD_mem (x := []) (show i + 1 < R.length by omega))
    have ga := tt_get (R := R) (show i < R.length by omega)
    have gb := tt_get (R := R) (show i + 1 < R.length by omega)
    have hl := hstl i
    have hbi := hbl i
    refine ⟨[3], [.d (.tuple ((tt R).map rD)), .d (.int low), .own ((st i).map cD), .d (.int (1 + (i : Nat))), .any], gj_name 3, sb_one (sj_extend 2 (ys := (blk i).map cD) (EE.to (ee_lcm (own := [("_law_pair", 4)]) (diffs d (R.getD i []) (R.getD (i + 1) [])) pairD (fun p => cD (low + (1 + (i : Nat)), p)) (ei_tup (ee_call (d_differences T d (true, R.getD i []) (true, R.getD (i + 1) []) ha hb hR.d8) (by exact hr) (ea_cons (ee_ixT (i := (i : Nat)) (ee_var 0 rfl) (EE.to (ee_opD od_sub (ee_var 3 rfl) ee_int) (by congr 1; omega)) (atI_nat ga)) (ea_cons (ee_ixT (i := ((i + 1 : Nat) : Int)) (ee_var 0 rfl) (EE.to (ee_var 3 rfl) (by congr 1; omega)) (atI_nat gb)) ea_nil)))) rfl (by kernel_rfl) rfl ?_ fun p hp => ⟨[.d (.tuple ((tt R).map rD)), .d (.int low), .own ((st i).map cD), .d (.int (1 + (i : Nat))), .d (pairD p)], fun s H C cl fp => ⟨gj_name 4, rfl, ee_tup (xs := [.int (low + (1 + (i : Nat))), pairD p]) (ea_cons (ee_opD od_add (ee_var 1 rfl) (ee_var 3 rfl)) (ea_cons (ee_var 4 rfl) ea_nil))⟩⟩) ?_) ?_ ⟨by omega, .d (.int (1 + (i : Nat))), ?_⟩ ⟨_, rfl⟩)⟩
    · have := diffs_len hR.d8 (R.getD i []) (R.getD (i + 1) []); omega
    · rw [List.map_map]; rfl
    · rw [List.length_map, List.length_map]; omega
    · have e : st (i + 1) = st i ++ blk i := by
        show (List.range (i + 1)).flatMap blk = _
        rw [List.range_succ, List.flatMap_append]
        simp [st]
      rw [e, List.map_append]
      rfl
  · obtain ⟨_, x, rfl⟩ := hI
    rw [rangeD_len]
    refine sb_one (sj_ret (ee_tupL T.b_tuple (ea_cons (EE.of_o (eo_sorted cD (rawT d R low) leC T.b_sorted hr (ee_froz 2 rfl) leC_eq (alC _) (soC _) ?_ (fun b _ => ?_) fun b _ => (okC' b).clean)) ea_nil)) rfl)
    · have := hstl (R.length - 1)
      show (st (R.length - 1)).length ≤ 100000
      omega
    · have := (okC' b).depth; omega
theorem d_law_runs_of (d : Nat) (R : List (List Nat)) (low : Int) (hR : RowsOk d (tt R)) : DFn P w K mg base 1 "_law_runs_of" [.tuple ((tt R).map rD), .int low] (.tuple ((runs R low).map segD)) := by
  refine fnD T.a__law_runs_of sc__law_runs_of _ _ rfl (by decide) fun f cdv A outer s H E hr => ?_
  have nd := sc__law_runs_of.nd
  have h17 : R.length ≤ 17 := by have := hR.hi; simpa using this
  let Q := R.mapIdx fun i r => (i, r)
  have hQ : Q.length = R.length := by show (R.mapIdx fun i r => (i, r)).length = _; simp
  let st : Nat → List Seg := fun i => (Q.take i).foldl (runAdd low) []
  have hstl : ∀ i, (st i).length ≤ 17 := by
    have key : ∀ (l : List (Nat × List Nat)) (acc : List Seg), (l.foldl (runAdd low) acc).length ≤ acc.length + l.length := fun l => by
      induction l with
      | nil => intro acc; exact Nat.le_refl _
      | cons s l ih =>
        intro acc
        have h1 := ih (runAdd low acc s)
        have h2 := runAdd_len low acc s
        rw [List.foldl_cons, List.length_cons]
        omega
    intro i
    have := key (Q.take i) []
    rw [List.length_take, List.length_nil] at this
    show ((Q.take i).foldl (runAdd low) []).length ≤ 17
    omega
  refine sb_cons (sj_own 2 (xs := []) (eo_lst ea_nil) (sb_cons (sj_for (EI.toL (ei_enumT T.b_enumerate (ee_var 0 rfl)) (show _ = Q.map fun q => .tuple [.int (q.1 : Nat), rD (true, q.2)] from ?_)) (fun i ρ => ∃ x y, ρ = [.d (.tuple ((tt R).map rD)), .d (.int low), .own ((st i).map segD), x, y]) ⟨.any, .any, rfl⟩ (fun i y ρ hy hI => ?_) fun ρ hI => ?_)))
  · unfold enumD
    apply List.ext_getElem
    · simp [Q]
    · intro i h1 h2; simp [Q]
  · obtain ⟨x, y', rfl⟩ := hI
    rw [List.getElem?_map] at hy
    obtain ⟨q, hq, rfl⟩ := Option.map_eq_some_iff.mp hy
    have et : st (i + 1) = runAdd low (st i) q := by
      show (Q.take (i + 1)).foldl (runAdd low) [] = _
      rw [List.take_add_one, hq, Option.toList_some, List.foldl_append]
      rfl
    have hl := hstl i
    have hok : SeqAt.shaped (toPy (.list ((st i).map segD))) = true := (OkD.lst (ok_map fun x _ => okSeg x)).sh
    refine ⟨[3, 4], [.d (.tuple ((tt R).map rD)), .d (.int low), .own ((st i).map segD), .d (.int (q.1 : Nat)), .d (rD (true, q.2))], gj_tup (gjs_cons (gj_name 3) (gjs_cons (gj_name 4) gjs_nil)), ?_⟩
    rcases last_or (st i) with he | ⟨xl, hxl⟩
    · refine sb_one (sj_if (t := false) (ET.to (et_and2 (t := false) (u := false) (ET.to (et_ownNe (units64 hr) 2 hok) ?_) fun h => nomatch h) rfl) (fun h => nomatch h) fun _ => sb_one (sj_append (ρ0 := []) 2 ((ee_tup (xs := [.int (low + (q.1 : Nat)), .int (low + (q.1 : Nat)), rD (true, q.2)]) (ea_cons (ee_opD od_add (ee_var 1 rfl) (ee_var 3 rfl)) (ea_cons (ee_opD od_add (ee_var 1 rfl) (ee_var 3 rfl)) (ea_cons (ee_var 4 rfl) ea_nil)))).wd ⟨_, rfl, by rw [List.length_map]; omega, .d (.int (q.1 : Nat)), .d (rD (true, q.2)), ?_⟩) ⟨_, rfl⟩))
      · rw [he]; rfl
      · rw [et, runAdd_none (.inl he), List.map_append (l₂ := [_])]; rfl
    · have hne : st i ≠ [] := fun e => by rw [e] at hxl; cases hxl
      have hpos : 0 < ((st i).map segD).length := by rw [List.length_map]; exact List.length_pos_iff.mpr hne
      have hD := getLast_D (f := segD) hxl
      refine sb_one (sj_if (t := decide (iN xl.2.2 = iN q.2)) (ET.to (et_and2 (t := true) (ET.to (et_ownNe (units64 hr) 2 hok) ?_) fun _ => ET.to (et_cmpD (od_eq (units64 hr) (okRk (true, xl.2.2)).sh (okRk (true, q.2)).sh) (nomark _) (ee_ixT (i := 2) (xs := [.int xl.1, .int xl.2.1, rD (true, xl.2.2)]) (tb := false) (ee_ixO 2 (ee_neg ee_int) (atI_last hD)) ee_int rfl) (ee_var 4 rfl)) (eqv_tups _ _)) (Bool.true_and _)) (fun h => ?_) fun h => ?_)
      · cases e : st i with
        | nil => exact absurd e hne
        | cons a b => rfl
      · have h := iN_inj (of_decide_eq_true h)
        refine sb_one (sj_setAt 2 (ee_tup (xs := [.int xl.1, .int (low + (q.1 : Nat)), rD (true, q.2)]) (ea_cons (ee_ixT (i := 0) (xs := [.int xl.1, .int xl.2.1, rD (true, xl.2.2)]) (tb := false) (ee_ixO 2 (ee_neg ee_int) (atI_last hD)) ee_int rfl) (ea_cons (ee_opD od_add (ee_var 1 rfl) (ee_var 3 rfl)) (ea_cons (ee_var 4 rfl) ea_nil)))) (ee_neg ee_int) (ixN_last hpos) ⟨.d (.int (q.1 : Nat)), .d (rD (true, q.2)), ?_⟩)
        rw [set_last _ hpos, et, runAdd_some hxl h, List.map_append (l₂ := [_]), List.map_dropLast]
        rfl
      · have h : ¬ xl.2.2 = q.2 := fun z => of_decide_eq_false h (by rw [z])
        refine sb_one (sj_append (ρ0 := []) 2 ((ee_tup (xs := [.int (low + (q.1 : Nat)), .int (low + (q.1 : Nat)), rD (true, q.2)]) (ea_cons (ee_opD od_add (ee_var 1 rfl) (ee_var 3 rfl)) (ea_cons (ee_opD od_add (ee_var 1 rfl) (ee_var 3 rfl)) (ea_cons (ee_var 4 rfl) ea_nil)))).wd ⟨_, rfl, by rw [List.length_map]; omega, .d (.int (q.1 : Nat)), .d (rD (true, q.2)), ?_⟩) ⟨_, rfl⟩)
        rw [et, runAdd_none (.inr ⟨xl, hxl, h⟩), List.map_append (l₂ := [_])]; rfl
  · obtain ⟨x, y, rfl⟩ := hI
    rw [List.length_map]
    have em : st Q.length = runs R low := by
      show (Q.take Q.length).foldl (runAdd low) [] = _
      rw [List.take_length]
      rfl
    rw [em]
    exact sb_one (sj_ret (ee_tupL T.b_tuple (ea_cons (ee_froz 2 rfl) ea_nil)) rfl)
end
end TR
set_option Elab.async false
set_option linter.all false
set_option maxRecDepth 100000
set_option maxHeartbeats 2000000
/-! P19: menus and insert positions of a span -/
namespace TR
open PySem PySem.Spec PyProof.Rows L2 DL
/-- what the plain law says of a span and its table -/
structure Whole (L : Line) (low : Int) (n : Nat) : Prop where
  sg : segs L low (hiOf low n) = runs (rowsOf L low n) low
  ch : lchanges L low (hiOf low n) = (rawT L.length (rowsOf L low n) low).mergeSort leC
  di : (lchanges L low (hiOf low n)).length = dist L.length ((rowsOf L low n).getD 0 []) ((rowsOf L low n).getD (n - 1) [])
  se : Seat L.length (rowsOf L low n)
  md : lmedRaw L low (hiOf low n) = medRaw (medRows (rowsOf L low n) (ordG L.length (rowsOf L low n)))
  su : ∀ a b, a < L.length → b < L.length → a ≠ b → lsupport L low (hiOf low n) a b = (((rowsOf L low n).filter fun r => before r (a, b)).length : Nat)
  cp : ∀ m, MenuOk L.length m → ∀ x ∈ lchoices L low (hiOf low n) m, 0 ≤ x.2.2 - x.2.1 + 1 ∧ x.2.2 - x.2.1 + 1 ≤ 16
  cl : ∀ m, MenuOk L.length m → (lchoices L low (hiOf low n) m).length ≤ 16
  cho : ∀ m, MenuOk L.length m → ((lchoices L low (hiOf low n) m).flatMap fun x => List.replicate (x.2.2 - x.2.1 + 1).toNat x.1) = (rowsOf L low n).map fun r => best r m
  co : ∀ m, MenuOk L.length m → lcost L low (hiOf low n) m = (costF (rowsOf L low n) m : Nat)
  ip : ∀ r, IsRk L.length r → ∀ x ∈ insR L low (hiOf low n) r, low ≤ x.1 ∧ x.1 ≤ x.2 + 1 ∧ x.2 ≤ low + n
  il : ∀ r, IsRk L.length r → (insR L low (hiOf low n) r).length ≤ 40
  ins : ∀ r, IsRk L.length r → ((insR L low (hiOf low n) r).flatMap fun x => List.range' (x.1 - low).toNat (x.2 - x.1 + 1).toNat) = insPos L.length (rowsOf L low n) r
def menusR (N : Nat) (ds : List D) (post : D → Nat → Prop) : Prop := N ≤ 800000 ∧ ∃ L low n, LineOk L ∧ SpanOk low (hiOf low n) ∧ Whole L low n ∧ 1 ≤ n ∧ n ≤ 16 ∧ ds = [lineD L, .int low, .int (hiOf low n), tabD L.length (tt (rowsOf L low n))] ∧ post = fun x N' => N' ≤ N + 9 ∧ x = .bool true
theorem rowsOk_of {L : Line} (hL : LineOk L) (low : Int) {n : Nat} (h1 : 1 ≤ n) (h16 : n ≤ 16) : RowsOk L.length (tt (rowsOf L low n)) := ⟨by simp; omega, by simp; omega, hL.lo, hL.hi, fun q hq => by
  obtain ⟨r, hr, rfl⟩ := List.mem_map.mp hq
  obtain ⟨i, _, rfl⟩ := List.mem_map.mp hr
  exact rank_rk _ _⟩
section
variable {P : Program} {w : World} {K : PySem.W.Frag} {mg : Str → Option Value} {base : Heap} (T : Tx K mg)
include T
theorem k_menus : KFam P w K mg base 6 "_law_menus_right" menusR := by
  refine fnKF T.a__law_menus_right sc__law_menus_right _ (fun M ds post h => by obtain ⟨_, L, low, n, _, _, _, _, _, rfl, _⟩ := h; rfl) (by decide) fun M ds post hR f cdv A outer s H E hr => ?_
  have nd := sc__law_menus_right.nd
  obtain ⟨hM, L, low, n, hL, hS, hW, hn1, hn16, rfl, rfl⟩ := hR
  have h8 := hL.hi
  have hlo := hL.lo
  have hRk := rowsOk_of hL low hn1 hn16
  let en : Nat → List Sl := fun c => [.dk (dkN c), .d (lineD L), .d (.int low), .d (.int (hiOf low n)), .d (tabD L.length (tt (rowsOf L low n))), .any, .any, .any, .any, .any, .any]
  -- the rest, from any menu
  refine sb_seq (I := fun ρ' => ∃ c m, c ≤ M + 8 ∧ MenuOk L.length m ∧ ρ' = (en c).set 5 (.d (ntD m))) (sj_setW 5 (wd_orT (wd_tupL T.b_tuple (wd_lcW (own := [("_law_dish", 8)]) (EI.toL (ei_range1 T.b_range (EE.to (ee_lenT T.b_len (ea_cons (ee_var 1 rfl) ea_nil)) (show _ = D.int (L.length : Nat) by simp))) (show _ = rangeD 0 L.length by rw [Int.toNat_natCast])) (by kernel_rfl) (fun i ρ acc => ∃ c m, c ≤ M + i ∧ acc = (iN m).map D.int ∧ m.Pairwise (· < ·) ∧ (∀ x ∈ m, x < i) ∧ ρ = en c) ⟨M, [], by omega, rfl, .nil, (fun x h => nomatch h), rfl⟩ (by rw [rangeD_len]; omega) (fun i y ρ acc hy hI => ?_) fun ρ acc hI => ?_)))) ?_
  · obtain ⟨c, m, hc, rfl, hup, hlt, rfl⟩ := hI
    have hi : i < L.length := by
      have := (List.getElem?_eq_some_iff.mp hy).1
      rw [rangeD_len] at this
      exact this
    rw [rangeD_get hi] at hy
    cases hy
    refine ⟨(en c).set 8 (.d (.int (0 + (i : Nat)))), fun s H C cl fp => ⟨gj_name 8, wtsd_one (wtd_cmp (nomark _) (wd_callKW 0 (k_next T) (by exact hr) ((ea_cons ee_int ea_nil).wad ⟨c, _, ⟨by omega, 2, rfl, by decide, by decide, rfl⟩, rfl, fun y N' hp => ?_⟩) ⟨_, rfl⟩))⟩⟩
    obtain ⟨rfl, v, rfl, hv⟩ := hp
    refine ee_int.wd ⟨_, od_eqi, ?_⟩
    by_cases h : (v : Int) = 0
    · rw [decide_eq_true h, if_pos rfl]
      intro s H C cl fp
      refine (ee_var 8 rfl).wd ⟨c + 1, m ++ [i], by omega, ?_, ?_, fun x hx => ?_, rfl⟩
      · unfold iN
        rw [List.map_append, List.map_append, Int.zero_add]
        rfl
      · rw [List.pairwise_append]
        exact ⟨hup, List.pairwise_singleton _ _, fun a ha b hb => by rw [List.mem_singleton.mp hb]; exact hlt a ha⟩
      · rcases List.mem_append.mp hx with z | z
        · have := hlt x z; omega
        · rw [List.mem_singleton.mp z]; omega
    · rw [decide_eq_false h, if_neg Bool.false_ne_true]
      exact ⟨c + 1, m, by omega, rfl, hup, fun x hx => by have := hlt x hx; omega, rfl⟩
  · obtain ⟨c, m, hc, rfl, hup, hlt, rfl⟩ := hI
    rw [rangeD_len] at hc hlt
    refine ⟨_, rfl, false, _, rfl, fun hne => ⟨c, m, by omega, ⟨fun e => hne (by rw [e]; rfl), hup, hlt⟩, rfl⟩, fun he => wd_one ((ee_tup (xs := [.int 0]) (ea_cons ee_int ea_nil)).wd ⟨c, [0], by omega, ⟨by simp, List.pairwise_singleton _ _, fun x hx => by rw [List.mem_singleton.mp hx]; omega⟩, rfl⟩)⟩
  rintro _ ⟨c, m, hc, hm, rfl⟩
  have hcp := hW.cp m hm
  have hcl := hW.cl m hm
  let CH := lchoices L low (hiOf low n) m
  let st : Nat → List Nat := fun i => (CH.take i).flatMap fun x => List.replicate (x.2.2 - x.2.1 + 1).toNat x.1
  have hstl : ∀ i, (st i).length ≤ 16 * i := fun i => by
    have key : ∀ l : List (Nat × Int × Int), (∀ x ∈ l, x ∈ CH) → (l.flatMap fun x => List.replicate (x.2.2 - x.2.1 + 1).toNat x.1).length ≤ 16 * l.length := fun l => by
      induction l with
      | nil => intro _; exact Nat.le_refl _
      | cons a l ih =>
        intro hl
        have h1 := hcp a (hl a List.mem_cons_self)
        have h2 := ih fun x hx => hl x (List.mem_cons_of_mem _ hx)
        rw [List.flatMap_cons, List.length_append, List.length_cons, List.length_replicate]
        omega
    have := key (CH.take i) fun x hx => List.mem_of_mem_take hx
    rw [List.length_take] at this
    show ((CH.take i).flatMap fun x => List.replicate (x.2.2 - x.2.1 + 1).toNat x.1).length ≤ 16 * i
    omega
  refine sb_cons (sj_set 6 (ee_call (d_choices T L.length (tt (rowsOf L low n)) hRk m hm) hr (ea_cons (ee_var 4 rfl) (ea_cons (ee_var 5 rfl) ea_nil))) (sb_cons (sj_own 7 (xs := []) (eo_lst ea_nil) (sb_cons (sj_for (ei_tup (ee_call (d_line_choices T L hL low (hiOf low n) hS m hm) hr (ea_cons (ee_var 1 rfl) (ea_cons (ee_var 2 rfl) (ea_cons (ee_var 3 rfl) (ea_cons (ee_var 5 rfl) ea_nil)))))) (fun i ρ => i ≤ 16 ∧ ∃ x y z, ρ = [.dk (dkN c), .d (lineD L), .d (.int low), .d (.int (hiOf low n)), .d (tabD L.length (tt (rowsOf L low n))), .d (ntD m), .d (ntD ((tt (rowsOf L low n)).map fun q => best q.2 m)), .own ((iN (st i)).map .int), x, y, z]) ⟨by omega, .any, .any, .any, rfl⟩ (fun i y ρ hy hI => ?_) fun ρ hI => ?_)))))
  · obtain ⟨hi16, x, y', z, rfl⟩ := hI
    rw [List.getElem?_map] at hy
    obtain ⟨u, hu, rfl⟩ := Option.map_eq_some_iff.mp hy
    have hi : i < CH.length := (List.getElem?_eq_some_iff.mp hu).1
    have hcl' : CH.length ≤ 16 := hcl
    have hp := hcp u (List.mem_of_getElem? hu)
    have hl := hstl i
    refine ⟨[8, 9, 10], [.dk (dkN c), .d (lineD L), .d (.int low), .d (.int (hiOf low n)), .d (tabD L.length (tt (rowsOf L low n))), .d (ntD m), .d (ntD ((tt (rowsOf L low n)).map fun q => best q.2 m)), .own ((iN (st i)).map .int), .d (.int u.1), .d (.int u.2.1), .d (.int u.2.2)], gj_tup (gjs_cons (gj_name 8) (gjs_cons (gj_name 9) (gjs_cons (gj_name 10) gjs_nil))), sb_one (sj_extend 7 (ys := List.replicate (u.2.2 - u.2.1 + 1).toNat (.int u.1)) (EE.of_o (eo_rep (n := (u.2.2 - u.2.1 + 1).toNat) (by omega) (EE.of_o (eo_lst (ea_cons (ee_var 8 rfl) ea_nil))) (EE.to (ee_opD od_add (ee_opD od_sub (ee_var 10 rfl) (ee_var 9 rfl)) ee_int) (by congr 1; omega)))) ?_ ⟨by omega, .d (.int u.1), .d (.int u.2.1), .d (.int u.2.2), ?_⟩ ⟨_, rfl⟩)⟩
    · rw [List.length_map, iN_len, List.length_replicate]; omega
    · have e : st (i + 1) = st i ++ List.replicate (u.2.2 - u.2.1 + 1).toNat u.1 := by
        show (CH.take (i + 1)).flatMap _ = _
        rw [List.take_add_one, hu, Option.toList_some, List.flatMap_append]
        simp [st]
      rw [e]
      unfold iN
      rw [List.map_append, List.map_append, List.map_replicate, List.map_replicate]
      rfl
  · obtain ⟨_, x, y, z, rfl⟩ := hI
    rw [List.length_map]
    have em : st CH.length = (rowsOf L low n).map fun r => best r m := by
      show (CH.take CH.length).flatMap _ = _
      rw [List.take_length]
      exact hW.cho m hm
    have e2 : ((tt (rowsOf L low n)).map fun q => best q.2 m) = (rowsOf L low n).map fun r => best r m := by
      rw [List.map_map]
      rfl
    refine sb_one (sj_retK 0 (P' := dkN c) (ee_and2 (t := true) (u := true) (EE.to (ee_cmpD (od_eq (units64 hr) (okNt ((tt (rowsOf L low n)).map fun q => best q.2 m)).sh (okNt ((tt (rowsOf L low n)).map fun q => best q.2 m)).sh) (nomark _) (ee_var 6 rfl) (EE.to (ee_tupL T.b_tuple (ea_cons (ee_froz 7 rfl) ea_nil)) (by rw [em, e2]; rfl))) (by unfold ntD; rw [eqv_tups, decide_eq_true rfl])) fun _ => EE.to (ee_cmpD od_eqi (nomark _) (ee_call (d_line_cost T L hL low (hiOf low n) hS m hm) hr (ea_cons (ee_var 1 rfl) (ea_cons (ee_var 2 rfl) (ea_cons (ee_var 3 rfl) (ea_cons (ee_var 5 rfl) ea_nil))))) (ee_call (d_cost T L.length (tt (rowsOf L low n)) hRk (fun q hq => by obtain ⟨r, _, rfl⟩ := List.mem_map.mp hq; rfl) m hm) hr (ea_cons (ee_var 4 rfl) (ea_cons (ee_var 5 rfl) ea_nil)))) ?_) rfl (fun _ _ _ h => h) ⟨c, rfl, by omega, rfl⟩)
    rw [rws_tt, hW.co m hm, decide_eq_true rfl]
end
end TR
set_option Elab.async false
set_option linter.all false
set_option maxRecDepth 100000
set_option maxHeartbeats 2000000
/-! P20: insert positions of a span -/
namespace TR
open PySem PySem.Spec PyProof.Rows L2 DL
section
variable {P : Program} {w : World} {K : PySem.W.Frag} {mg : Str → Option Value} {base : Heap} (T : Tx K mg)
include T
theorem k_inserts : KFam P w K mg base 9 "_law_inserts_right" (fun N ds post => N ≤ 800000 ∧ ∃ L low n, LineOk L ∧ SpanOk low (hiOf low n) ∧ Whole L low n ∧ 1 ≤ n ∧ n ≤ 16 ∧ ds = [lineD L, .int low, tabD L.length (tt (rowsOf L low n))] ∧ post = fun x N' => N' ≤ N + 12 ∧ x = .bool true) := by
  refine fnKF T.a__law_inserts_right sc__law_inserts_right _ (fun M ds post h => by obtain ⟨_, L, low, n, _, _, _, _, _, rfl, _⟩ := h; rfl) (by decide) fun M ds post hR f cdv A outer s H E hr => ?_
  have nd := sc__law_inserts_right.nd
  obtain ⟨hM, L, low, n, hL, hS, hW, hn1, hn16, rfl, rfl⟩ := hR
  have h8 := hL.hi
  have hlo := hL.lo
  have hRk := rowsOk_of hL low hn1 hn16
  let RD : List D := (tt (rowsOf L low n)).map rD
  have hRDl : RD.length = n := by show ((tt (rowsOf L low n)).map rD).length = n; simp
  let en : Nat → Sl → List Sl := fun c r => [.dk (dkN c), .d (lineD L), .d (.int low), .d (tabD L.length (tt (rowsOf L low n))), .d (.tuple RD), r, .any, .any, .any, .any]
  refine sb_cons (sj_set 4 (ee_call (d_rankings_of T (.int (L.length : Nat)) (tt (rowsOf L low n)) (by simp; omega)) hr (ea_cons (ee_var 3 rfl) ea_nil)) ?_)
  refine sb_seq (I := fun ρ' => ∃ c q, c ≤ M + 9 ∧ IsRk L.length (Prod.snd q) ∧ ρ' = en c (.d (rD q))) (sj_setW 5 (wd_callKW 0 (k_one T) hr (wad_cons ((wo_cat (xs := []) ((EE.of_o (eo_listT T.b_list (ea_cons (ee_var 4 rfl) ea_nil))).wd ⟨RD, rfl, (wo_lst (wad_cons (wd_callKW 0 (k_list T) hr ((ea_cons (EE.to (ee_lenT T.b_len (ea_cons (ee_var 1 rfl) ea_nil)) (show _ = D.int (L.length : Nat) by simp)) ea_nil).wad ⟨M, _, ⟨by omega, L.length, rfl, hlo, h8, rfl⟩, rfl, fun y N' hp => ?_⟩) ⟨_, rfl⟩))).wd⟩)).wd)) ⟨_, rfl⟩)) ?_
  · obtain ⟨hN', r, hr', rfl⟩ := hp
    refine wad_nil ⟨Nat.le_of_ble_eq_true rfl, _, rfl, by rw [hRDl]; simp; omega, wad_nil ⟨N', _, ⟨by omega, _, RD ++ [rD (true, r)], rfl, .inl rfl, by simp, by rw [List.length_append, hRDl]; simp; omega, rfl⟩, rfl, fun z N2 hz => ?_⟩⟩
    obtain ⟨rfl, hz⟩ := hz
    rcases List.mem_append.mp hz with hz | hz
    · obtain ⟨q, hq, rfl⟩ := List.mem_map.mp hz
      exact ⟨N' + 1, q, by omega, hRk.rk q hq, rfl⟩
    · rw [List.mem_singleton.mp hz]
      exact ⟨N' + 1, (true, r), by omega, hr', rfl⟩
  rintro _ ⟨c, q, hc, hq, rfl⟩
  refine sb_seq (I := fun ρ' => ∃ c q, c ≤ M + 11 ∧ IsRk L.length (Prod.snd q) ∧ ρ' = en c (.d (rD q))) (sj_ifW (wtd_w (ewd_and ((et_cmpD (t := decide (1 < ((L.length : Nat) : Int))) od_gt (nomark _) (EE.to (ee_lenT T.b_len (ea_cons (ee_var 1 rfl) ea_nil)) (show _ = D.int (L.length : Nat) by simp)) ee_int).wtd ?_)))) ?_
  · by_cases h : 1 < ((L.length : Nat) : Int)
    · rw [decide_eq_true h, if_pos rfl]
      refine ewd_and1 (wtd_cmp (nomark _) (wd_callKW 0 (k_next T) hr ((ea_cons ee_int ea_nil).wad ⟨c, _, ⟨by omega, 2, rfl, by decide, by decide, rfl⟩, rfl, fun y N' hp => ?_⟩) ⟨_, rfl⟩))
      obtain ⟨rfl, v, rfl, hv⟩ := hp
      refine ee_int.wd ⟨_, od_eqi, ?_⟩
      by_cases h0 : (v : Int) = 0
      · rw [decide_eq_true h0, if_pos rfl]
        refine sb_one (sj_setW 5 (wd_call (k_exch T) hr (wad_cons ((ee_var 5 rfl).wd (wad_cons (wd_callKW 0 (k_next T) hr ((ea_cons (ee_opD od_sub (EE.to (ee_lenT T.b_len (ea_cons (ee_var 1 rfl) ea_nil)) (show _ = D.int (L.length : Nat) by simp)) ee_int) ea_nil).wad ⟨c + 1, _, ⟨by omega, ((L.length : Nat) : Int) - 1, rfl, by omega, by omega, rfl⟩, rfl, fun y N' hp => ?_⟩) ⟨_, rfl⟩))))))
        obtain ⟨rfl, k, rfl, hk⟩ := hp
        have hk1 : k + 1 < L.length := by omega
        exact wad_nil ⟨_, ⟨q.1, q.2, L.length, k, rfl, hq, h8, hk1, rfl⟩, c + 2, (false, exch q.2 k), by omega, exch_rk hq hk1, rfl⟩
      · rw [decide_eq_false h0, if_neg Bool.false_ne_true]
        exact sb_nil ⟨c + 1, q, by omega, hq, rfl⟩
    · rw [decide_eq_false h, if_neg Bool.false_ne_true, if_neg Bool.false_ne_true]
      exact sb_nil ⟨c, q, by omega, hq, rfl⟩
  rintro _ ⟨c, q, hc, hq, rfl⟩
  have hip := hW.ip q.2 hq
  have hil := hW.il q.2 hq
  let IR := insR L low (hiOf low n) q.2
  let pc : Int × Int → List Nat := fun x => List.range' (x.1 - low).toNat (x.2 - x.1 + 1).toNat
  let st : Nat → List Nat := fun i => (IR.take i).flatMap pc
  have hstl : ∀ i, (st i).length ≤ 18 * i := fun i => by
    have key : ∀ l : List (Int × Int), (∀ x ∈ l, x ∈ IR) → (l.flatMap pc).length ≤ 18 * l.length := fun l => by
      induction l with
      | nil => intro _; exact Nat.le_refl _
      | cons a l ih =>
        intro hl
        have h1 := hip a (hl a List.mem_cons_self)
        have h2 := ih fun x hx => hl x (List.mem_cons_of_mem _ hx)
        rw [List.flatMap_cons, List.length_append, List.length_cons]
        have : (pc a).length = (a.2 - a.1 + 1).toNat := by show (List.range' _ _).length = _; simp
        omega
    have := key (IR.take i) fun x hx => List.mem_of_mem_take hx
    rw [List.length_take] at this
    show ((IR.take i).flatMap pc).length ≤ 18 * i
    omega
  refine sb_cons (sj_own 6 (xs := []) (eo_lst ea_nil) (sb_cons (sj_for (ei_tup (ee_call (d_line_insert_ranges T L hL low (hiOf low n) hS q hq) hr (ea_cons (ee_var 1 rfl) (ea_cons (ee_var 2 rfl) (ea_cons (EE.to (ee_opD od_sub (ee_opD od_add (ee_var 2 rfl) (EE.to (ee_lenT T.b_len (ea_cons (ee_var 4 rfl) ea_nil)) (show _ = D.int (n : Nat) by rw [hRDl]))) ee_int) rfl) (ea_cons (ee_var 5 rfl) ea_nil)))))) (fun i ρ => i ≤ 40 ∧ ∃ x y, ρ = [.dk (dkN c), .d (lineD L), .d (.int low), .d (tabD L.length (tt (rowsOf L low n))), .d (.tuple RD), .d (rD q), .own ((iN (st i)).map .int), x, y, .any]) ⟨by omega, .any, .any, rfl⟩ (fun i y ρ hy hI => ?_) fun ρ hI => ?_)))
  · obtain ⟨hi40, x, y', rfl⟩ := hI
    rw [List.getElem?_map] at hy
    obtain ⟨u, hu, rfl⟩ := Option.map_eq_some_iff.mp hy
    have hi : i < IR.length := (List.getElem?_eq_some_iff.mp hu).1
    have hil' : IR.length ≤ 40 := hil
    have hp := hip u (List.mem_of_getElem? hu)
    have hl := hstl i
    have hb1 := hS.lo
    have hb2 := hS.hi
    have hhi : hiOf low n = low + n - 1 := rfl
    have hpl : (pc u).length = (u.2 - u.1 + 1).toNat := by show (List.range' _ _).length = _; simp
    refine ⟨[7, 8], [.dk (dkN c), .d (lineD L), .d (.int low), .d (tabD L.length (tt (rowsOf L low n))), .d (.tuple RD), .d (rD q), .own ((iN (st i)).map .int), .d (.int u.1), .d (.int u.2), .any], gj_tup (gjs_cons (gj_name 7) (gjs_cons (gj_name 8) gjs_nil)), sb_one (sj_extend 6 (ys := (iN (pc u)).map .int) (EE.to (ee_lcm (own := [("_law_t", 9)]) (List.range (u.2 - u.1 + 1).toNat) (fun i => .int (u.1 + (i : Nat))) (fun i => .int (u.1 + (i : Nat) - low)) (ei_range2 T.b_range (ee_var 7 rfl) (ee_opD od_add (ee_var 8 rfl) ee_int) (by omega)) ?_ (by kernel_rfl) rfl (by simp; omega) fun t ht => ⟨[.dk (dkN c), .d (lineD L), .d (.int low), .d (tabD L.length (tt (rowsOf L low n))), .d (.tuple RD), .d (rD q), .own ((iN (st i)).map .int), .d (.int u.1), .d (.int u.2), .d (.int (u.1 + (t : Nat)))], fun s H C cl fp => ⟨gj_name 9, rfl, ee_opD od_sub (ee_var 9 rfl) (ee_var 2 rfl)⟩⟩) ?_) ?_ ⟨by omega, .d (.int u.1), .d (.int u.2), ?_⟩ ⟨_, rfl⟩)⟩
    · unfold rangeD
      rw [show u.2 + 1 - u.1 = u.2 - u.1 + 1 from by omega]
    · show D.list _ = .list ((iN (List.range' (u.1 - low).toNat (u.2 - u.1 + 1).toNat)).map .int)
      rw [List.range'_eq_map_range]
      unfold iN
      rw [List.map_map, List.map_map]
      congr 1
      exact List.map_congr_left fun t _ => by show D.int _ = D.int _; congr 1; simp; omega
    · rw [List.length_map, List.length_map, iN_len, iN_len]; omega
    · have e : st (i + 1) = st i ++ pc u := by
        show (IR.take (i + 1)).flatMap pc = _
        rw [List.take_add_one, hu, Option.toList_some, List.flatMap_append]
        simp [st]
      rw [e]
      unfold iN
      rw [List.map_append, List.map_append]
      rfl
  · obtain ⟨_, x, y, rfl⟩ := hI
    rw [List.length_map]
    have em : st IR.length = insPos L.length (rowsOf L low n) q.2 := by
      show (IR.take IR.length).flatMap pc = _
      rw [List.take_length]
      exact hW.ins q.2 hq
    refine sb_one (sj_retK 0 (P' := dkN c) (EE.to (ee_cmpD (od_eq (units64 hr) (okNt (insPos L.length (rowsOf L low n) q.2)).sh (okNt (insPos L.length (rowsOf L low n) q.2)).sh) (nomark _) (EE.to (ee_tupL T.b_tuple (ea_cons (ee_froz 6 rfl) ea_nil)) (by rw [em]; rfl)) (ee_call (d_insert_positions T L.length (rowsOf L low n) hRk (by simp; omega) hW.se q hq) hr (ea_cons (ee_var 3 rfl) (ea_cons (ee_var 5 rfl) ea_nil)))) (by unfold ntD; rw [eqv_tups, decide_eq_true rfl])) rfl (fun _ _ _ h => h) ⟨c, rfl, by omega, rfl⟩)
end
end TR
set_option Elab.async false
set_option linter.all false
set_option maxRecDepth 100000
set_option maxHeartbeats 2000000
/-! P21: the deck is laid -/
namespace TR
open PySem PySem.Spec PyProof.Rows L2 DL
theorem sqL_same {K : PySem.W.Frag} {H H' : Hp} {a : Addr} {xs : List V} (h : SqL K H a xs) (e : Same H H') : SqL K H' a xs := by
  rcases h with h | h
  · rcases h with h | ⟨o, h⟩
    · exact .inl (.inl (e _ _ h))
    · exact .inl (.inr ⟨o, e _ _ h⟩)
  · exact .inr h
theorem isIt_sq {K : PySem.W.Frag} {H0 : Hp} {a : Addr} {ns : List Int} (h : SqL K H0 a (ns.map V.int)) : IsIt (Itl K a) H0 (ns.map D.int) where
  go := fun i H l e => ⟨_, (ns.map V.int)[i]'(by simpa using l), sqL_same h e, List.getElem?_eq_getElem _⟩
  yld := fun i H v H' y e q hy => by
    obtain ⟨e1, e2⟩ := q
    have e3 := e2 _ (sqL_same h e)
    rw [List.getElem?_map] at e3 hy
    cases q : ns[i]? with
    | none => rw [q] at hy; cases hy
    | some n =>
      rw [q] at e3 hy
      cases e3; cases hy
      exact .inl ⟨e1, .int _⟩
  stop := fun H e => ⟨_, sqL_same h e, by rw [List.length_map, List.length_map]; exact Nat.le_refl _⟩
/-- a new list of two own lists and 0 -/
theorem ret_deck {X : Cx} {ρ ρ1 ρ2 : List Sl} {e1 e2 : Expr} {bg cl : List Int} {p1 p2 p3 : Pos} {k0 : Nat} {F : Fm} {σ : L2.St} {H0 H : Hp} {D : Ends} (h1 : EO X ρ e1 ρ1 (bg.map .int)) (h2 : EO X ρ1 e2 ρ2 (cl.map .int)) (r : Rel F ρ σ H0 H) (hdk : F.dk = [])
    (k : ∀ a p q H', Same F.He H' → F.He a = none → F.He p = none → F.He q = none → a ≠ p → a ≠ q → p ≠ q → DeckOk H' a p q (dkX bg cl 0) → D.rt (.ref a) H')
    (hs1 : starEach [e1, e2, .Constant (.int 0) k0 p1] X.env = (false, eval e1 X.env) :: starEach [e2, .Constant (.int 0) k0 p1] X.env := by rfl) (hs2 : starEach [e2, .Constant (.int 0) k0 p1] X.env = (false, eval e2 X.env) :: starEach [.Constant (.int 0) k0 p1] X.env := by rfl) (hs3 : starEach [.Constant (.int 0) k0 p1] X.env = (false, eval (.Constant (.int 0) k0 p1) X.env) :: starEach [] X.env := by rfl) :
    WS X (.Return (some (.List [e1, e2, .Constant (.int 0) k0 p1] p2)) p3) D σ H := by
  refine WS.of (ps_ret (pe_lst (pa_cons pe_we (pa_cons pe_we (pa_cons pe_int pa_nil hs3) hs2) hs1))) ?_
  refine h1 F σ H0 H _ r fun p vs H01 H1 s1 he1 hd1 r1 ra1 => ?_
  refine h2 _ σ H01 H1 _ r1 fun q ws H02 H2 s2 he2 hd2 r2 ra2 => ?_
  have hqp : q ≠ p := fun z => by
    subst z
    have : (F.pin q (.lst vs)).He q = some (.lst vs) := upd_same
    rw [this] at he2; cases he2
  have heq : F.He q = none := by
    have : (F.pin p (.lst vs)).He q = F.He q := upd_ne hqp
    rw [this] at he2; exact he2
  obtain ⟨r3, hq2, -, -⟩ := r2.unpinned he2 hd2
  obtain ⟨r4, hp2, -, -⟩ := r3.unpinned he1 hd1
  refine ⟨by show 3 ≤ sizeLine; decide, fun l hl => ?_⟩
  have hlp : l ≠ p := fun z => by subst z; rw [hp2] at hl; cases hl
  have hlq : l ≠ q := fun z => by subst z; rw [hq2] at hl; cases hl
  have e1 := ra1.ints
  have e2 := ra2.ints
  refine k l p q _ (fun b o hb => ?_) (r4.he_none hl) he1 heq hlp hlq hqp.symm ⟨bg, cl, 0, upd_same, by rw [upd_ne (Ne.symm hlp), hp2, e1], by rw [upd_ne (Ne.symm hlq), hq2, e2], rfl, rfl, rfl⟩
  have := r4.fr b o hb (by rw [hdk]; exact fun z => nomatch z)
  rw [upd_ne (ne_of_none this hl)]; exact this
end TR
set_option Elab.async false
set_option linter.all false
set_option maxRecDepth 100000
set_option maxHeartbeats 2000000
/-! P22: the deck's def -/
namespace TR
open PySem PySem.Spec PyProof.Rows L2 DL
/-- the deck's promise: a list of ints gives a deck at new addresses -/
def spDeck (K : PySem.W.Frag) : Sp := fun vs H Q _ => ∃ (a0 : Addr) (ns : List Int), vs = [.ref a0] ∧ SqL K H a0 (ns.map V.int) ∧ ns.length ≤ 63 ∧
  ∀ a p q H', Same H H' → H a = none → H p = none → H q = none → a ≠ p → a ≠ q → p ≠ q → DeckOk H' a p q (dkN 0) → Q (.ref a) H'
section
variable {P : Program} {w : World} {K : PySem.W.Frag} {mg : Str → Option Value} {base : Heap} (T : Tx K mg)
include T
theorem k_deck : ∃ f fd ps, FnOk P w K mg base CX0 1 f fd ps (spDeck K) ∧ mg "_law_deck" = some (.ref f) ∧ PySem.W.keepIn K (.ref f) = true ∧ Binds K fd ps [] := by
  obtain ⟨f0, fd, F, hm, hb⟩ := T.a__law_deck.ex
  have S := sc__law_deck
  have nd := S.nd
  refine ⟨f0, fd, _, F.ok S (fun vs H Q E h => ?_) (fun cdv A outer s H vs Q E hr h => ?_), hm, F.kp, hb⟩
  · obtain ⟨a, ns, rfl, _⟩ := h; rfl
  · obtain ⟨a0, ns, rfl, hs, hn, q⟩ := h
    refine ⟨_, pss_wss, ?_⟩
    obtain ⟨A18, hA⟩ : ∃ A : Int, A = 10 ^ (18 : Int).toNat := ⟨_, rfl⟩
    let cs : List Int := ns.map fun x => (if x < 0 then -x else x)
    let X : Cx := (cxOf CX0 P w K mg base ["_law_script", "_law_cells", "_law_cell"] "_law_deck" (defScope s__law_deck) f0 cdv A outer s H E).nox
    have hany : ∀ (i : Nat) (s1 : Sl), ([.any, .any, .any] : List Sl)[i]? = some s1 → s1 = .any ∧ i < 3 := fun i s1 h => by
      match i, h with
      | 0, h => cases h; exact ⟨rfl, by omega⟩
      | 1, h => cases h; exact ⟨rfl, by omega⟩
      | 2, h => cases h; exact ⟨rfl, by omega⟩
    have r0 : Rel ⟨H, H, []⟩ [.any, .any, .any] (start ["_law_script", "_law_cells", "_law_cell"] [.ref a0]) H H :=
      { ex := Same.refl _, fr := fun b o h _ => h, al := fun b h => h, ad := (fun b h => nomatch h), ba := fun b o _ => rfl, len := rfl
        sl := fun i sl hsl => by
          obtain ⟨rfl, hi⟩ := hany i sl hsl
          have hi' : i < (start ["_law_script", "_law_cells", "_law_cell"] [V.ref a0]).length := hi
          exact ⟨_, List.getElem?_eq_getElem hi'⟩
        ne := fun i j s1 s2 p h1 h2 o1 o2 e1 e2 => by
          rw [(hany i s1 h1).1] at o1; cases o1
        nd := fun i j N1 M1 h1 h2 => by
          cases (hany i _ h1).1 }
    refine WSs.of (pss_cons ps_ws pss_wss) ?_
    refine WS.of (ps_setLc (X := X) (i := 1) (own := [("_law_cell", 2)]) rfl nd rfl rfl (sw_true rfl rfl rfl (by decide +kernel)) pi_wi (blkOk_by (by kernel_rfl)) pg_B pts_B pe_B (by intro _; rfl)) ?_
    refine lcD0 (X := X) (ρ1 := [.any, .any, .any]) (F := ⟨H, H, []⟩) (H0 := H) (ys := ns.map .int) (fun R k => WI.of (pi_list pe_we) (WE.of (pe_var (i := 0) rfl (.inl rfl) (by decide) (by decide)) ⟨.ref a0, rfl, a0, rfl, ⟨_, hs⟩, k _ H H (Same.refl _) r0 (isIt_sq hs)⟩))
      (fun i ρ acc => ρ = [.any, .any, .any] ∧ acc = ((ns.take i).filter fun _ => true).map fun x => .int (if x < 0 then -x else x)) ⟨rfl, by simp⟩ (by simp; omega) ?_ ?_
    · refine lc_inv (X := X) (ρ1 := [.any, .any, .any]) ns .int (fun _ => true) (fun x => .int (if x < 0 then -x else x)) rfl fun x hx => ?_
      refine ⟨[.any, .any, .d (.int x)], fun s H C cl fp => ⟨gj_name 2, rfl, ets_nil, fun _ => ?_⟩⟩
      exact ee_abs T.b_abs (ea_cons (ee_var 2 rfl) ea_nil)
    rintro pp vs H0' H' ρ' acc ⟨rfl, rfl⟩ s1 he hdk rp ra
    obtain ⟨r2, s2⟩ := rp.unpinD he hdk
    have ec : ((ns.take (ns.map D.int).length).filter fun _ => true).map (fun x => D.int (if x < 0 then -x else x)) = cs.map .int := by
      rw [List.length_map, List.take_length, List.filter_eq_self.mpr (fun _ _ => rfl), List.map_map]; rfl
    rw [ec] at ra
    have r3 := r2.setD (i := 1) (x := .list (cs.map .int)) (.lst upd_same (ra.mono s2))
    have tA : ∀ (X : Cx) (ρ : List Sl) (a b c : Pos) (k1 k2 : Nat), EE X ρ (.BinOp (.Constant (.int 10) k1 a) .Pow (.Constant (.int 18) k2 b) c) ρ (.int A18) := fun X ρ a b c k1 k2 => by
      rw [hA]
      exact ee_opD (od_pow ⟨by decide, by decide, by decide⟩) ee_int ee_int
    have hcl : cs.length = ns.length := List.length_map _
    refine WSs.of (pss_one ps_ws) ?_
    refine ret_deck (ρ1 := [.any, .d (.list (cs.map .int)), .any]) (ρ2 := [.any, .d (.list (cs.map .int)), .any]) (bg := cs.filter fun x => decide (A18 ≤ x)) (cl := cs ++ [((cs.length : Nat) : Int) + 5]) ?_ ?_ r3 rfl ?_
    · refine eo_lc (own := [("_law_cell", 2)]) cs .int (fun x => decide (A18 ≤ x)) .int (ei_list (ee_var 1 rfl)) (by kernel_rfl) rfl (by omega) fun x hx => ⟨[.any, .d (.list (cs.map .int)), .d (.int x)], fun s H C cl fp => ⟨gj_name 2, rfl, ets_one ?_, fun _ => ee_var 2 rfl⟩⟩
      exact et_cmpD od_ge (nomark _) (ee_var 2 rfl) (tA _ _ _ _ _ _ _)
    · rw [List.map_append]
      exact eo_cat (by simp; omega) (ee_var 1 rfl) (EE.of_o (eo_lst (ea_cons (ee_opD od_add (EE.to (ee_lenL T.b_len (ea_cons (ee_var 1 rfl) ea_nil)) (show _ = D.int (cs.length : Nat) by simp)) ee_int) ea_nil)))
    · intro a p q' H' h1 h2 h3 h4 h5 h6 h7 dk
      exact q a p q' H' h1 h2 h3 h4 h5 h6 h7 (dk.le fun b c j ⟨hb, hc, hj⟩ => by
        subst hb hc hj
        have h0 : ∀ b ∈ cs, 0 ≤ b := fun b hb => by
          obtain ⟨x, _, rfl⟩ := List.mem_map.mp hb
          split <;> omega
        refine ⟨fun b hb => h0 b (List.mem_filter.mp hb).1, by simp, fun b hb => ?_, ?_, ?_, Nat.le_refl _⟩
        · rcases List.mem_append.mp hb with hb | hb
          · exact h0 b hb
          · rw [List.mem_singleton.mp hb]; omega
        · have := List.length_filter_le (fun x => decide (A18 ≤ x)) cs
          omega
        · simp; omega)
end
end TR
set_option Elab.async false
set_option linter.all false
set_option maxRecDepth 100000
set_option maxHeartbeats 2000000
/-! P23: a span and its table agree in everything -/
namespace TR
open PySem PySem.Spec PyProof.Rows L2 DL
theorem ordG_grp (L : Line) {low : Int} (hl : 0 ≤ low) (n : Nat) : ordG L.length (rowsOf L low n) = grp (rowsOf L low n) := by
  unfold ordG
  refine List.mergeSort_of_pairwise ?_
  have hS : ∀ m, m ∈ splS L.length (rowsOf L low n) ↔ m ∈ splK L.length (rowsOf L low n) := fun m => List.mem_mergeSort
  refine (grp_offs hl hS).imp fun {g h} hlt => ?_
  rw [PySem.W.dataLe_eq]
  show (!PySem.W.dataLt (toPy (plD _ _ h)) (toPy (plD _ _ g))) = true
  rw [plD_py, plD_py, PySem.W.dataLt_pair (by rfl) (show PySem.W.alike (.tuple ((iN h).map .int)) (.tuple ((iN g).map .int)) = true from PySem.W.alike_ints _ _), PySem.W.dataLt_int]
  have e : PyData.eqv (.int (offs (h.headD 0) (splS L.length (rowsOf L low n)) (largestF (splS L.length (rowsOf L low n))))) (.int (offs (g.headD 0) (splS L.length (rowsOf L low n)) (largestF (splS L.length (rowsOf L low n))))) = false := by
    simp only [PyData.eqv, beq_eq_false_iff_ne]
    omega
  rw [e, if_neg Bool.false_ne_true, decide_eq_false (by omega)]
  rfl
theorem whole_ok {L : Line} (hL : LineOk L) {low : Int} {n : Nat} (hS : SpanOk low (hiOf low n)) (hn : 1 ≤ n) : Whole L low n := by
  have hl := hS.lo
  have h8 := hL.hi
  have hf : low + (n : Nat) - 1 < low + 16 := hS.few
  have hn16 : n ≤ 16 := by omega
  exact {
    sg := sg_ok L hl hn
    ch := ch_ok h8 hl hn
    di := di_ok hl hn
    se := ⟨by rw [ordG_grp L hl, rowsOf_len]; exact grp_flat L hl n, on_ok h8 hl hn⟩
    md := by rw [ordG_grp L hl]; exact md_ok L hl hn
    su := fun a b _ _ _ => su_ok L hl hn a b
    cp := fun m _ x hx => by have := (cho_all L hl hn m).1 x hx; omega
    cl := fun m _ => Nat.le_trans (cho_all L hl hn m).2.2 hn16
    cho := fun m _ => (cho_all L hl hn m).2.1
    co := fun m _ => co_ok L hl hn m
    ip := fun r hr x hx => by have := (ins_all h8 hl hn hr).1 x hx; omega
    il := fun r hr => Nat.le_trans (ins_all h8 hl hn hr).2.1 (by omega)
    ins := fun r hr => (ins_all h8 hl hn hr).2.2 }
end TR
set_option Elab.async false
set_option linter.all false
set_option maxRecDepth 100000
set_option maxHeartbeats 4000000
/-! P24: the law's turn, the questions -/
namespace TR
open PySem PySem.Spec PyProof.Rows L2 DL
section
variable {X : Cx} {ρ ρ1 : List Sl} {e a : Expr} {pos : Pos} {Qb : List Sl → Bool → Prop}
theorem wtd_val (h : WD X ρ e fun ρ1 x => ∃ t, x = .bool t ∧ Qb ρ1 t) (he : ∀ whole, isTrue e X.env whole = (do let v ← whole; standAt e.pos; holding [v] (truthy v)) := by intro _; rfl) : WTD X ρ e Qb := fun F σ H0 H Q r k =>
  WT.of (pt_val pe_we he) (h F σ H0 H _ r fun v H0' H' ρ' x s r' p q => by
    obtain ⟨t, rfl, q⟩ := q
    cases p
    exact ⟨t, rfl, k t _ _ _ s r' q⟩)
theorem wtd_not (h : WTD X ρ a fun ρ1 t => Qb ρ1 (!t)) : WTD X ρ (.UnaryOp .Not a pos) Qb := fun F σ H0 H Q r k =>
  WT.of (pt_not pt_wt) (h F σ H0 H _ r fun t H0' H' ρ' s r' q => k _ _ _ _ s r' q)
end
/-- data of ints and tuples -/
inductive Pl : Nat → D → Prop
  | int {n : Nat} {i : Int} : Pl n (.int i)
  | tup {n : Nat} {b : Bool} {xs : List D} : xs.length ≤ 1000 → (∀ x ∈ xs, Pl n x) → Pl (n + 1) (.tup b xs)
theorem Pl.sm {n : Nat} {x : D} (h : Pl n x) : Sm n x x := by
  induction h with
  | int => exact .int
  | tup h1 _ ih =>
    refine .tup rfl h1 fun i x y hx hy => ?_
    rw [hx] at hy
    cases hy
    exact ih _ (List.mem_of_getElem? hx)
theorem pl_map {α : Type} {n : Nat} {xs : List α} {f : α → D} (hl : xs.length ≤ 1000) (h : ∀ a ∈ xs, Pl n (f a)) : Pl (n + 1) (.tuple (xs.map f)) := .tup (by rw [List.length_map]; exact hl) fun x hx => by
  obtain ⟨a, ha, rfl⟩ := List.mem_map.mp hx
  exact h a ha
theorem pl_rD {d : Nat} {q : Row} (h : IsRk d q.2) (hd : d ≤ 8) : Pl 1 (rD q) := .tup (by rw [List.length_map, iN_len, h.len]; omega) fun x hx => by
  obtain ⟨i, _, rfl⟩ := List.mem_map.mp hx
  exact .int
theorem pl_seg {d : Nat} {s : Seg} (h : IsRk d s.2.2) (hd : d ≤ 8) : Pl 2 (segD s) := .tup (Nat.le_of_ble_eq_true rfl) fun x hx => by
  rcases List.mem_cons.mp hx with rfl | hx
  · exact .int
  rcases List.mem_cons.mp hx with rfl | hx
  · exact .int
  · rw [List.mem_singleton.mp hx]; exact pl_rD (q := (true, s.2.2)) h hd
theorem pl_chg (x : Chg) : Pl 2 (cD x) := .tup (Nat.le_of_ble_eq_true rfl) fun y hy => by
  rcases List.mem_cons.mp hy with rfl | hy
  · exact .int
  · rw [List.mem_singleton.mp hy]
    refine .tup (Nat.le_of_ble_eq_true rfl) fun z hz => ?_
    rcases List.mem_cons.mp hz with rfl | hz
    · exact .int
    · rw [List.mem_singleton.mp hz]; exact .int
def forBody : Stmt → List Stmt
  | .For _ _ b _ _ => b
  | _ => []
def turnB : List Stmt := forBody ((defBody s_law).getD 1 (.Pass ⟨0, 0, 0, 0⟩))
section
variable {P : Program} {w : World} {K : PySem.W.Frag} {mg : Str → Option Value} {base : Heap} (T : Tx K mg)
include T
theorem sb_checks {f : Addr} {cdv : Value} {A : Around} {outer : List Env} {s : Shared} {H : Hp} {E : XK} (hr : Room 10 (cxOf CX0 P w K mg base ["_law_script", "_law_deck_here", "_law_turn", "_law_line_here", "_law_many", "_law_low", "_law_high", "_law_table", "_law_rows", "_law_one_here", "_law_other"] "law" (defScope s_law) f cdv A outer s H E).nox.A)
    {L : Line} {low : Int} {n : Nat} (hL : LineOk L) (hS : SpanOk low (hiOf low n)) (hn1 : 1 ≤ n) (hn16 : n ≤ 16) {c : Nat} (hc : c ≤ 700000) {x2 x9 x10 : Sl} {nx bk ct : List Sl → Prop} {rt : List Sl → D → Prop}
    (hnx : ∀ c' x9 x10, c' ≤ c + 23 → nx [.any, .dk (dkN c'), x2, .d (lineD L), .d (.int n), .d (.int low), .d (.int (hiOf low n)), .d (tabD L.length (tt (rowsOf L low n))), .d (.tuple ((tt (rowsOf L low n)).map rD)), x9, x10]) :
    SB (cxOf CX0 P w K mg base ["_law_script", "_law_deck_here", "_law_turn", "_law_line_here", "_law_many", "_law_low", "_law_high", "_law_table", "_law_rows", "_law_one_here", "_law_other"] "law" (defScope s_law) f cdv A outer s H E).nox
      [.any, .dk (dkN c), x2, .d (lineD L), .d (.int n), .d (.int low), .d (.int (hiOf low n)), .d (tabD L.length (tt (rowsOf L low n))), .d (.tuple ((tt (rowsOf L low n)).map rD)), x9, x10] (turnB.drop 7) nx rt bk ct := by
  have nd := sc_law.nd
  have hW := whole_ok hL hS hn1
  have h8 := hL.hi
  have hlo := hL.lo
  have hRk := rowsOk_of hL low hn1 hn16
  have hsl : (segs L low (hiOf low n)).length ≤ 1000 := by
    rw [segs_len]
    have := times_len (L := L) low (hiOf low n)
    have : hiOf low n = low + n - 1 := rfl
    omega
  have hml : (lmedRaw L low (hiOf low n)).length ≤ 1000 := by
    unfold lmedRaw
    rw [List.length_map]
    exact Nat.le_trans (List.length_filter_le _ _) hsl
  have hmr : ∀ r ∈ lmedRaw L low (hiOf low n), IsRk L.length r := fun r hr => by
    obtain ⟨s, hs, rfl⟩ := List.mem_map.mp hr
    exact segs_rk hS.le (List.mem_filter.mp hs).1
  have s1 : Sm 3 (.tuple ((segs L low (hiOf low n)).map segD)) (.tuple ((runs (rowsOf L low n) low).map segD)) := by
    rw [← hW.sg]
    exact (pl_map hsl fun s hs => pl_seg (segs_rk hS.le hs) h8).sm
  have s2 : Sm 3 (.tuple ((lchanges L low (hiOf low n)).map cD)) (.tuple (((rawT L.length (rowsOf L low n) low).mergeSort leC).map cD)) := by
    rw [← hW.ch]
    exact (pl_map (Nat.le_trans (lchanges_len h8 _ _) (by decide)) fun x _ => pl_chg x).sm
  have s3 : Sm 2 (.tuple (((lmedRaw L low (hiOf low n)).mergeSort leR).map fun r => rD (true, r))) (.tuple (((medRaw (medRows (rowsOf L low n) (ordG L.length (rowsOf L low n)))).mergeSort leR).map fun r => rD (true, r))) := by
    rw [← hW.md]
    exact (pl_map (by rw [List.length_mergeSort]; exact hml) fun r hr => pl_rD (q := (true, r)) (hmr r (List.mem_mergeSort.mp hr)) h8).sm
  have hRl : (rowsOf L low n).length = n := rowsOf_len L low n
  have g0 := tt_get (R := rowsOf L low n) (i := 0) (by omega)
  have gl := tt_get (R := rowsOf L low n) (i := n - 1) (by omega)
  have glast : atI ((tt (rowsOf L low n)).map rD) (-1) = some (rD (true, (rowsOf L low n).getD (n - 1) [])) := atI_last (by
    rw [List.getLast?_eq_getElem?, List.length_map, List.length_map, hRl]; exact gl)
  have rk : ∀ i, i < n → IsRk L.length ((rowsOf L low n).getD i []) := fun i hi => by rw [rowsOf_getD hi]; exact rank_rk _ _
  -- segments
  refine sb_cons (sj_if (t := false) (et_not (et_val (t := true) (ee_call (d_same T 3 _ _ s1) hr (ea_cons (ee_call (d_line_segments T L hL low (hiOf low n) hS) hr (ea_cons (ee_var 3 rfl) (ea_cons (ee_var 5 rfl) (ea_cons (ee_var 6 rfl) ea_nil)))) (ea_cons (ee_call (d_law_runs_of T L.length (rowsOf L low n) low hRk) hr (ea_cons (ee_var 8 rfl) (ea_cons (ee_var 5 rfl) ea_nil))) ea_nil))))) (fun h => nomatch h) fun _ => sb_nil ?_)
  -- changes
  refine sb_cons (sj_if (t := false) (et_not (et_val (t := true) (ee_call (d_same T 3 _ _ s2) hr (ea_cons (ee_call (d_line_changes T L hL low (hiOf low n) hS) hr (ea_cons (ee_var 3 rfl) (ea_cons (ee_var 5 rfl) (ea_cons (ee_var 6 rfl) ea_nil)))) (ea_cons (ee_call (d_law_changes T L.length (rowsOf L low n) low hRk) hr (ea_cons (ee_var 8 rfl) (ea_cons (ee_var 5 rfl) ea_nil))) ea_nil))))) (fun h => nomatch h) fun _ => sb_nil ?_)
  -- distance
  refine sb_cons (sj_if (t := false) (ET.to (et_cmpD od_nei (nomark _) (ee_call (d_line_distance T L hL low (hiOf low n) hS) hr (ea_cons (ee_var 3 rfl) (ea_cons (ee_var 5 rfl) (ea_cons (ee_var 6 rfl) ea_nil)))) (ee_call (d_distance T L.length (true, (rowsOf L low n).getD 0 []) (true, (rowsOf L low n).getD (n - 1) []) (rk 0 (by omega)) (rk (n - 1) (by omega)) h8) hr (ea_cons (ee_ixT (i := 0) (ee_var 8 rfl) ee_int (atI_nat (n := 0) g0)) (ea_cons (ee_ixT (ee_var 8 rfl) (ee_neg ee_int) glast) ea_nil)))) (by rw [hW.di]; simp)) (fun h => nomatch h) fun _ => sb_nil ?_)
  -- seating
  refine sb_cons (sj_if (t := false) (ET.to (et_cmpD od_isNotB (nomark _) (ee_call ((d_is_seating T L.length (tt (rowsOf L low n)) hRk (List.range n) (by rw [List.length_map, hRl])).to rfl (show D.bool (once L.length (rws (tt (rowsOf L low n))) (List.range n)) = .bool true by rw [rws_tt]; have := hW.se.on; rw [hRl] at this; rw [this])) hr (ea_cons (ee_var 7 rfl) (ea_cons (EE.to (ee_tupRg1 T.b_tuple T.b_range (ee_var 4 rfl) (by omega) (by omega)) (show _ = ntD (List.range n) from ?_)) ea_nil))) ee_bl) rfl) (fun h => nomatch h) fun _ => sb_nil ?_)
  · unfold rangeD ntD iN
    rw [Int.toNat_natCast, List.map_map]
    congr 1
    exact List.map_congr_left fun i _ => by show D.int (0 + (i : Int)) = D.int (i : Int); rw [Int.zero_add]
  -- medians
  refine sb_cons (sj_if (t := false) (et_not (et_val (t := true) (ee_call (d_same T 2 _ _ s3) hr (ea_cons (ee_call (d_line_medians T L hL low (hiOf low n) hS) hr (ea_cons (ee_var 3 rfl) (ea_cons (ee_var 5 rfl) (ea_cons (ee_var 6 rfl) ea_nil)))) (ea_cons (ee_call (d_medians T L.length (rowsOf L low n) hRk hW.se) hr (ea_cons (ee_var 7 rfl) ea_nil)) ea_nil))))) (fun h => nomatch h) fun _ => sb_nil ?_)
  -- two dishes
  refine sb_cons (sj_parW 9 10 (wd_callKW 1 (k_next T) hr ((ea_cons (EE.to (ee_lenT T.b_len (ea_cons (ee_var 3 rfl) ea_nil)) (show _ = D.int (L.length : Nat) by simp)) ea_nil).wad ⟨c, _, ⟨by omega, (L.length : Nat), rfl, by omega, by omega, rfl⟩, rfl, fun y N' hp => ?_⟩) ⟨_, rfl⟩))
  obtain ⟨rfl, a, rfl, ha⟩ := hp
  refine wd_callKW 1 (k_next T) hr ((ea_cons (EE.to (ee_lenT T.b_len (ea_cons (ee_var 3 rfl) ea_nil)) (show _ = D.int (L.length : Nat) by simp)) ea_nil).wad ⟨c + 1, _, ⟨by omega, (L.length : Nat), rfl, by omega, by omega, rfl⟩, rfl, fun y N' hp => ?_⟩) ⟨_, rfl⟩
  obtain ⟨rfl, b, rfl, hb⟩ := hp
  -- support
  refine sb_seq (I := fun ρ' => ρ' = [.any, .dk (dkN (c + 2)), x2, .d (lineD L), .d (.int n), .d (.int low), .d (.int (hiOf low n)), .d (tabD L.length (tt (rowsOf L low n))), .d (.tuple ((tt (rowsOf L low n)).map rD)), .d (.int a), .d (.int b)]) (sj_if (et_cmpD od_nei (nomark _) (ee_var 9 rfl) (ee_var 10 rfl)) (fun h => ?_) fun _ => sb_nil rfl) ?_
  · have hne : a ≠ b := fun e => by rw [e] at h; simp at h
    refine sb_one (sj_if (t := false) (ET.to (et_cmpD od_nei (nomark _) (ee_call (d_line_support T L hL low (hiOf low n) hS a b (by omega) (by omega) hne) hr (ea_cons (ee_var 3 rfl) (ea_cons (ee_var 5 rfl) (ea_cons (ee_var 6 rfl) (ea_cons (ee_var 9 rfl) (ea_cons (ee_var 10 rfl) ea_nil)))))) (ee_call (d_support T L.length (tt (rowsOf L low n)) hRk (fun q hq => by obtain ⟨r, _, rfl⟩ := List.mem_map.mp hq; rfl) a b (by omega) (by omega) (Ne.symm hne)) hr (ea_cons (ee_var 7 rfl) (ea_cons (ee_var 9 rfl) (ea_cons (ee_var 10 rfl) ea_nil))))) ?_) (fun h => nomatch h) fun _ => sb_nil rfl)
    rw [hW.su a b (by omega) (by omega) hne, rws_tt]; simp
  rintro _ rfl
  -- menus, insert positions
  refine sb_one (sj_ifW (wtd_w (ewd_or (wtd_not (wtd_val (wd_callKW 1 (k_menus T) hr ((ea_cons (ee_var 3 rfl) (ea_cons (ee_var 5 rfl) (ea_cons (ee_var 6 rfl) (ea_cons (ee_var 7 rfl) ea_nil)))).wad ⟨c + 2, _, ⟨by omega, L, low, n, hL, hS, hW, hn1, hn16, rfl, rfl⟩, rfl, fun y N' hp => ?_⟩) ⟨_, rfl⟩))))))
  obtain ⟨hN', rfl⟩ := hp
  refine ⟨true, rfl, ?_⟩
  rw [Bool.not_true, if_neg Bool.false_ne_true]
  refine ewd_or1 (wtd_not (wtd_val (wd_callKW 1 (k_inserts T) hr ((ea_cons (ee_var 3 rfl) (ea_cons (ee_var 5 rfl) (ea_cons (ee_var 7 rfl) ea_nil))).wad ⟨N', _, ⟨by omega, L, low, n, hL, hS, hW, hn1, hn16, rfl, rfl⟩, rfl, fun y N2 hp => ?_⟩) ⟨_, rfl⟩)))
  obtain ⟨hN2, rfl⟩ := hp
  refine ⟨true, rfl, ?_⟩
  rw [Bool.not_true, if_neg Bool.false_ne_true]
  exact sb_nil (hnx _ _ _ (by omega))
end
end TR
set_option Elab.async false
set_option linter.all false
set_option maxRecDepth 100000
set_option maxHeartbeats 4000000
/-! P25: the law's turn, the draws -/
namespace TR
open PySem PySem.Spec PyProof.Rows L2 DL
section
variable {P : Program} {w : World} {K : PySem.W.Frag} {mg : Str → Option Value} {base : Heap} (T : Tx K mg)
include T
theorem sb_turn {f : Addr} {cdv : Value} {A : Around} {outer : List Env} {s : Shared} {H : Hp} {E : XK} (hr : Room 10 (cxOf CX0 P w K mg base ["_law_script", "_law_deck_here", "_law_turn", "_law_line_here", "_law_many", "_law_low", "_law_high", "_law_table", "_law_rows", "_law_one_here", "_law_other"] "law" (defScope s_law) f cdv A outer s H E).nox.A)
    {c : Nat} (hc : c ≤ 600000) {x2 x3 x4 x5 x6 x7 x8 x9 x10 : Sl} {nx bk ct : List Sl → Prop} {rt : List Sl → D → Prop}
    (hnx : ∀ c' x3 x4 x5 x6 x7 x8 x9 x10, c' ≤ c + 100 → nx [.any, .dk (dkN c'), x2, x3, x4, x5, x6, x7, x8, x9, x10]) :
    SB (cxOf CX0 P w K mg base ["_law_script", "_law_deck_here", "_law_turn", "_law_line_here", "_law_many", "_law_low", "_law_high", "_law_table", "_law_rows", "_law_one_here", "_law_other"] "law" (defScope s_law) f cdv A outer s H E).nox
      [.any, .dk (dkN c), x2, x3, x4, x5, x6, x7, x8, x9, x10] turnB nx rt bk ct := by
  have nd := sc_law.nd
  have p12 : CPow 10 (12 : Int) := ⟨by decide, by decide, by decide⟩
  have q12 : (10 : Int) ^ (12 : Int).toNat = 1000000000000 := by decide
  -- the line
  refine sb_seq (I := fun ρ' => ∃ c1 L, c1 ≤ c + 40 ∧ LineOk L ∧ ρ' = [.any, .dk (dkN c1), x2, .d (lineD L), x4, x5, x6, x7, x8, x9, x10]) (sj_setW 3 (wd_callKW 1 (k_line T) hr ((ea_cons ee_int ea_nil).wad ⟨c, _, ⟨by omega, rfl, rfl⟩, rfl, fun y N' hp => ?_⟩) ⟨_, rfl⟩)) ?_
  · obtain ⟨hN, L, hL, rfl⟩ := hp
    exact ⟨N', L, hN, hL, rfl⟩
  rintro _ ⟨c1, L, hc1, hL, rfl⟩
  -- how many
  refine sb_seq (I := fun ρ' => ∃ n : Nat, 1 ≤ n ∧ n ≤ 16 ∧ ρ' = [.any, .dk (dkN (c1 + 1)), x2, .d (lineD L), .d (.int n), x5, x6, x7, x8, x9, x10]) (sj_setW 4 (wd_bin (ee_int.wd (wd_callKW 1 (k_next T) hr ((ea_cons ee_int ea_nil).wad ⟨c1, _, ⟨by omega, 16, rfl, by decide, by decide, rfl⟩, rfl, fun y N' hp => ?_⟩) ⟨_, rfl⟩)))) ?_
  · obtain ⟨rfl, v, rfl, hv⟩ := hp
    refine ⟨_, od_add, v + 1, by omega, by omega, ?_⟩
    have e : (1 : Int) + (v : Int) = ((v + 1 : Nat) : Int) := by omega
    rw [e]
    rfl
  rintro _ ⟨n, hn1, hn16, rfl⟩
  -- where
  refine sb_seq (I := fun ρ' => ∃ c2 t, c2 ≤ c1 + 7 ∧ ρ' = [.any, .dk (dkN c2), x2, .d (lineD L), .d (.int n), .d (.int t), x6, x7, x8, x9, x10]) (sj_setW 5 (wd_bin (wd_callKW 1 (k_meeting T) hr ((ea_cons (ee_var 3 rfl) ea_nil).wad ⟨c1 + 1, _, ⟨by omega, L, hL, rfl, rfl⟩, rfl, fun y N' hp => ?_⟩) ⟨_, rfl⟩))) ?_
  · obtain ⟨hN, t, ht0, ht1, rfl⟩ := hp
    refine wd_callKW 1 (k_next T) hr ((ea_cons (ee_var 4 rfl) ea_nil).wad ⟨N', _, ⟨by omega, (n : Nat), rfl, by omega, by omega, rfl⟩, rfl, fun y N2 hp => ?_⟩) ⟨_, rfl⟩
    obtain ⟨rfl, u, rfl, hu⟩ := hp
    exact ⟨_, od_sub, N' + 1, t - u, by omega, rfl⟩
  rintro _ ⟨c2, t, hc2, rfl⟩
  refine sb_seq (I := fun ρ' => ∃ low : Int, 0 ≤ low ∧ low + n - 1 ≤ 1000000000000 ∧ ρ' = [.any, .dk (dkN c2), x2, .d (lineD L), .d (.int n), .d (.int low), x6, x7, x8, x9, x10]) (sj_set 5 (ee_max2 T.b_max (ea_cons ee_int (ea_cons (ee_min2 T.b_min (ea_cons (ee_var 5 rfl) (ea_cons (ee_opD od_sub (ee_opD od_add (ee_opD (od_pow p12) ee_int ee_int) ee_int) (ee_var 4 rfl)) ea_nil))) ea_nil))) ⟨_, ?_, ?_, rfl⟩) ?_
  · exact Int.le_max_left _ _
  · rw [q12]; omega
  rintro _ ⟨low, hl0, hl1, rfl⟩
  have hS : SpanOk low (hiOf low n) := ⟨hl0, by show low ≤ low + n - 1; omega, by show low + n - 1 ≤ 10 ^ 12; omega, by show low + n - 1 < low + 16; omega⟩
  have ets : ∀ k : Nat, rangeD low k = ((List.range k).map fun i => low + (i : Nat)).map D.int := fun k => by
    unfold rangeD
    rw [List.map_map]
    rfl
  -- the end, the table, its rows
  refine sb_cons (sj_set 6 (x := .int (hiOf low n)) (ee_opD od_sub (ee_opD od_add (ee_var 5 rfl) (ee_var 4 rfl)) ee_int) ?_)
  refine sb_cons (sj_set 7 (x := tabD L.length (tt (rowsOf L low n))) (EE.to (ee_call (d_line_table T L hL ((List.range n).map fun i => low + (i : Nat)) (by simpa using hn1) (by simpa using hn16) (fun t ht => ?_) ?_) hr (ea_cons (ee_var 3 rfl) (ea_cons (EE.to (ee_tupRg2 T.b_tuple T.b_range (ee_var 5 rfl) (ee_opD od_add (ee_var 6 rfl) ee_int) ?_) (show _ = D.tuple (((List.range n).map fun i => low + (i : Nat)).map D.int) from ?_)) ea_nil))) ?_) ?_)
  · obtain ⟨i, hi, rfl⟩ := List.mem_map.mp ht
    have := List.mem_range.mp hi
    omega
  · unfold ascI
    rw [List.all_eq_true]
    intro q hq
    have hpw : ((List.range n).map fun i : Nat => low + (i : Int)).Pairwise (· < ·) := List.Pairwise.map _ (fun a b h => by show low + (a : Int) < low + (b : Int); omega) List.pairwise_lt_range
    refine decide_eq_true ?_
    obtain ⟨i, hi, e⟩ := List.getElem_of_mem hq
    have hl := hi
    rw [List.length_zip, List.length_tail] at hl
    rw [List.getElem_zip] at e
    subst e
    simp only [List.getElem_tail]
    exact (List.pairwise_iff_getElem.mp hpw) i (i + 1) (by omega) (by omega) (by omega)
  · have : hiOf low n = low + n - 1 := rfl
    exact ⟨by omega, by omega, by omega, by omega, by omega⟩
  · rw [← ets]
    congr 1
    congr 1
    show (low + n - 1 + 1 - low).toNat = n
    omega
  · rw [List.map_map]
    rfl
  refine sb_cons (sj_set 8 (x := .tuple ((tt (rowsOf L low n)).map rD)) (ee_call (d_rankings_of T (.int (L.length : Nat)) (tt (rowsOf L low n)) (by simp; omega)) hr (ea_cons (ee_var 7 rfl) ea_nil)) ?_)
  exact sb_checks T hr hL hS hn1 hn16 (c := c2) (by omega) fun c' x9 x10 hc' => hnx c' _ _ _ _ _ _ _ _ (by omega)
theorem sb_law {f : Addr} {cdv : Value} {A : Around} {outer : List Env} {s : Shared} {H : Hp} {E : XK} (hr : Room 10 (cxOf CX0 P w K mg base ["_law_script", "_law_deck_here", "_law_turn", "_law_line_here", "_law_many", "_law_low", "_law_high", "_law_table", "_law_rows", "_law_one_here", "_law_other"] "law" (defScope s_law) f cdv A outer s H E).nox.A) :
    SB (cxOf CX0 P w K mg base ["_law_script", "_law_deck_here", "_law_turn", "_law_line_here", "_law_many", "_law_low", "_law_high", "_law_table", "_law_rows", "_law_one_here", "_law_other"] "law" (defScope s_law) f cdv A outer s H E).nox
      [.any, .dk (dkN 0), .any, .any, .any, .any, .any, .any, .any, .any, .any] (defBody s_law).tail (fun _ => False) (fun _ y => y = .bool true) (fun _ => False) (fun _ => False) := by
  have nd := sc_law.nd
  refine sb_cons (sj_for (ei_range1 T.b_range ee_int) (fun i ρ => ∃ c x2 x3 x4 x5 x6 x7 x8 x9 x10, c ≤ 100 * i ∧ ρ = [.any, .dk (dkN c), x2, x3, x4, x5, x6, x7, x8, x9, x10]) ⟨0, .any, .any, .any, .any, .any, .any, .any, .any, .any, Nat.le_refl _, rfl⟩ (fun i y ρ hy hI => ?_) fun ρ hI => sb_one (sj_ret ee_bl rfl))
  obtain ⟨c, x2, x3, x4, x5, x6, x7, x8, x9, x10, hc, rfl⟩ := hI
  have hi : i < 3 := by
    have := (List.getElem?_eq_some_iff.mp hy).1
    rw [rangeD_len] at this
    exact this
  exact ⟨[2], [.any, .dk (dkN c), .d y, x3, x4, x5, x6, x7, x8, x9, x10], gj_name 2, sb_turn T hr (by omega) fun c' x3 x4 x5 x6 x7 x8 x9 x10 hc' => ⟨c', _, x3, x4, x5, x6, x7, x8, x9, x10, by omega, rfl⟩⟩
end
end TR
set_option Elab.async false
set_option linter.all false
set_option maxRecDepth 100000
set_option maxHeartbeats 4000000
/-! P26: the law's promise -/
namespace TR
open PySem PySem.Spec PyProof.Rows L2 DL
/-- the law's promise: of a list of at most 63 ints it says True -/
def spLaw (K : PySem.W.Frag) : Sp := fun vs H Q _ => ∃ (a0 : Addr) (ns : List Int), vs = [.ref a0] ∧ SqL K H a0 (ns.map V.int) ∧ ns.length ≤ 63 ∧ ∀ H', Q (.bl true) H'
section
variable {P : Program} {w : World} {K : PySem.W.Frag} {mg : Str → Option Value} {base : Heap} (T : Tx K mg)
include T
theorem ok_law {f0 : Addr} {fd : FuncData} (F : Fun K "law" "law" s_law f0 fd) : FnOk P w K mg base CX0 11 f0 fd ["_law_script"] (spLaw K) := by
  have nd := sc_law.nd
  refine F.ok sc_law (fun vs H Q E h => ?_) (fun cdv A outer s H vs Q E hr h => ?_)
  · obtain ⟨a, ns, rfl, _⟩ := h; rfl
  · obtain ⟨a0, ns, rfl, hs, hn, q⟩ := h
    refine ⟨_, pss_wss, ?_⟩
    obtain ⟨fD, fdD, psD, GD, hmD, hkD, hbD⟩ := k_deck T (P := P) (w := w) (base := base)
    refine WSs.of (pss_cons ps_ws pss_wss) ?_
    refine WS.of (ps_set (i := 1) nd rfl (.inl rfl) (pe_call GD (hr.mono (by decide)) (by rfl) hmD hkD hbD .nil pass0 (pa_cons (pe_var (i := 0) rfl (.inl rfl) (by decide) (by decide)) pa_nil))) ?_
    refine ⟨.ref a0, rfl, a0, ns, rfl, hs, hn, fun a p q' H' s1 h1 h2 h3 h4 h5 h6 dk => ?_⟩
    have hany : ∀ (i : Nat) (sl : Sl), ([.any, .dk (dkN 0), .any, .any, .any, .any, .any, .any, .any, .any, .any] : List Sl)[i]? = some sl → sl = .any ∧ i < 11 ∨ (i = 1 ∧ sl = .dk (dkN 0)) := fun i sl h => by
      match i, h with
      | 0, h => cases h; exact .inl ⟨rfl, by omega⟩
      | 1, h => cases h; exact .inr ⟨rfl, rfl⟩
      | 2, h => cases h; exact .inl ⟨rfl, by omega⟩
      | 3, h => cases h; exact .inl ⟨rfl, by omega⟩
      | 4, h => cases h; exact .inl ⟨rfl, by omega⟩
      | 5, h => cases h; exact .inl ⟨rfl, by omega⟩
      | 6, h => cases h; exact .inl ⟨rfl, by omega⟩
      | 7, h => cases h; exact .inl ⟨rfl, by omega⟩
      | 8, h => cases h; exact .inl ⟨rfl, by omega⟩
      | 9, h => cases h; exact .inl ⟨rfl, by omega⟩
      | 10, h => cases h; exact .inl ⟨rfl, by omega⟩
    obtain ⟨bg, cl, j, d1, d2, d3, d4⟩ := id dk
    refine sb_law T hr ⟨H, H, [a, p, q']⟩ _ H H' _
      { ex := s1, fr := fun b o h _ => s1 _ _ h
        al := fun b h z => by
          cases e : H b with
          | none => exact h e
          | some o => rw [s1 _ _ e] at z; cases z
        ad := fun b h z => by
          rcases List.mem_cons.mp h with rfl | h
          · rw [d1] at z; cases z
          rcases List.mem_cons.mp h with rfl | h
          · rw [d2] at z; cases z
          · rw [List.mem_singleton.mp h] at z; rw [d3] at z; cases z
        ba := fun b o _ => rfl, len := rfl
        sl := fun i sl hsl => by
          rcases hany i sl hsl with ⟨rfl, hi⟩ | ⟨rfl, rfl⟩
          · have hi' : i < ((start ["_law_script", "_law_deck_here", "_law_turn", "_law_line_here", "_law_many", "_law_low", "_law_high", "_law_table", "_law_rows", "_law_one_here", "_law_other"] [V.ref a0]).set 1 (some (.ref a))).length := hi
            exact ⟨_, List.getElem?_eq_getElem hi'⟩
          · exact ⟨a, p, q', rfl, rfl, h1, h2, h3, h4, h5, h6, dk⟩
        ne := fun i j s1 s2 p h1 h2 o1 o2 e1 e2 => by
          rcases hany i s1 h1 with ⟨rfl, _⟩ | ⟨_, rfl⟩ <;> cases o1
        nd := fun i j N1 M1 h1 h2 => by
          rcases hany i _ h1 with ⟨z, _⟩ | ⟨z, _⟩
          · cases z
          · rcases hany j _ h2 with ⟨z2, _⟩ | ⟨z2, _⟩
            · cases z2
            · rw [z, z2] } (fun _ _ _ _ _ _ z => z.elim) (fun v x _ _ _ H2 _ _ pv hx => ?_) (fun _ _ _ _ _ _ z => z.elim) (fun _ _ _ _ _ _ z => z.elim)
    subst hx
    cases pv
    exact q _
end
end TR
set_option Elab.async false
set_option linter.all false
set_option maxRecDepth 100000
set_option maxHeartbeats 0
/-! P27: the head, facts by names (printed by genh.py) -/
namespace TR
open PySem PySem.Spec PyProof.Rows L2 DL
def dD (n : Str) (st : Stmt) : He.DefD := ⟨(n, none), n, n, defArgs st, defBody st, defScope st, [], []⟩
def hFn0 : List He.DefD := [dD "is_integer_in" s_is_integer_in, dD "is_ascending" s_is_ascending, dD "is_ranking" s_is_ranking, dD "all_pairs" s_all_pairs, dD "prefers" s_prefers, dD "positions_of" s_positions_of, dD "differences" s_differences, dD "distance" s_distance, dD "is_between" s_is_between, dD "ranking_of_place" s_ranking_of_place, dD "check_span" s_check_span, dD "change_of" s_change_of, dD "line_changes" s_line_changes, dD "line_distance" s_line_distance, dD "line_segments" s_line_segments, dD "rankings_of" s_rankings_of, dD "groups" s_groups, dD "is_menu_of" s_is_menu_of, dD "check_menu" s_check_menu, dD "is_order_of" s_is_order_of, dD "changes_once" s_changes_once, dD "is_seating" s_is_seating, dD "splits_with_pairs" s_splits_with_pairs, dD "splits" s_splits, dD "largest" s_largest, dD "offset_of" s_offset_of, dD "candidate_order" s_candidate_order, dD "flatten" s_flatten, dD "find_seating" s_find_seating, dD "first_seating" s_first_seating]
def hFn1 : List He.DefD := [dD "best_dish" s_best_dish, dD "choices" s_choices, dD "cost" s_cost, dD "line_support" s_line_support, dD "line_medians" s_line_medians, dD "line_choices" s_line_choices, dD "line_cost" s_line_cost, dD "merge_ranges" s_merge_ranges, dD "line_insert_ranges" s_line_insert_ranges, dD "line_table" s_line_table, dD "extend" s_extend, dD "positions" s_positions, dD "insert_positions" s_insert_positions, dD "group_order" s_group_order, dD "check_dishes" s_check_dishes, dD "support" s_support, dD "medians_of" s_medians_of, dD "medians" s_medians, dD "_law_deck" s__law_deck, dD "_law_next" s__law_next, dD "_law_one" s__law_one, dD "_law_same" s__law_same, dD "_law_list" s__law_list, dD "_law_exchanged" s__law_exchanged, dD "_law_line" s__law_line, dD "_law_meeting" s__law_meeting, dD "_law_changes" s__law_changes, dD "_law_runs_of" s__law_runs_of, dD "_law_menus_right" s__law_menus_right, dD "_law_inserts_right" s__law_inserts_right]
def hFn2 : List He.DefD := [dD "law" s_law]
def hFn : List He.DefD := hFn0 ++ hFn1 ++ hFn2
def hFa0 : List He.Fa := [.glo "is_integer_in", .glo "is_ascending", .glo "is_ranking", .glo "all_pairs", .glo "prefers", .glo "positions_of", .glo "differences", .glo "distance", .glo "is_between", .glo "ranking_of_place", .glo "check_span", .glo "change_of", .glo "line_changes", .glo "line_distance", .glo "line_segments", .glo "rankings_of", .glo "groups", .glo "is_menu_of", .glo "check_menu", .glo "is_order_of", .glo "changes_once", .glo "is_seating", .glo "splits_with_pairs", .glo "splits", .glo "largest", .glo "offset_of", .glo "candidate_order", .glo "flatten", .glo "find_seating", .glo "first_seating"]
def hFa1 : List He.Fa := [.glo "best_dish", .glo "choices", .glo "cost", .glo "line_support", .glo "line_medians", .glo "line_choices", .glo "line_cost", .glo "merge_ranges", .glo "line_insert_ranges", .glo "line_table", .glo "extend", .glo "positions", .glo "insert_positions", .glo "group_order", .glo "check_dishes", .glo "support", .glo "medians_of", .glo "medians", .glo "_law_deck", .glo "_law_next", .glo "_law_one", .glo "_law_same", .glo "_law_list", .glo "_law_exchanged", .glo "_law_line", .glo "_law_meeting", .glo "_law_changes", .glo "_law_runs_of", .glo "_law_menus_right", .glo "_law_inserts_right"]
def hFa2 : List He.Fa := [.glo "law", .free "len", .free "isinstance", .free "all", .free "zip", .free "range", .free "enumerate", .free "sorted", .free "tuple", .free "set", .free "list", .free "min", .free "max", .free "abs", .free "sum", .free "int", .free "bool", .free "dict", .free "str", .int "MAX_WEIGHT" 1000000000000, .int "MAX_TASTERS" 16]
def hFa : List He.Fa := hFa0 ++ hFa1 ++ hFa2
def hLo0 : List Str := ["__name__", "TasteError", "NoRanking", "NoTaster", "NoDish", "NotSeatable", "NoMenu", "NoSpan", "NoPlaces", "MAX_TASTERS", "MAX_WEIGHT", "is_integer_in", "is_ascending", "is_ranking", "all_pairs", "prefers", "positions_of", "differences", "distance", "is_between", "ranking_of_place", "check_span", "change_of", "line_changes", "line_distance", "line_segments", "rankings_of", "groups", "is_menu_of", "check_menu"]
def hLo1 : List Str := ["is_order_of", "changes_once", "is_seating", "splits_with_pairs", "splits", "largest", "offset_of", "candidate_order", "flatten", "find_seating", "TRIPLE", "QUADRUPLE", "lone_pair", "triple_of", "quadruple_of", "find_quadruple", "find_triple", "subsets_of", "find_obstruction", "first_seating", "best_dish", "choices", "cost", "line_support", "line_medians", "line_choices", "line_cost", "merge_ranges", "line_insert_ranges", "line_table"]
def hLo2 : List Str := ["extend", "positions", "insert_positions", "group_order", "check_dishes", "support", "medians_of", "medians", "_law_deck", "_law_next", "_law_one", "_law_same", "_law_list", "_law_exchanged", "_law_line", "_law_meeting", "_law_changes", "_law_runs_of", "_law_menus_right", "_law_inserts_right"]
def hLo : List Str := hLo0 ++ hLo1 ++ hLo2
abbrev hR : PySem.W.OpenRow := PySem.W.OpenLaw.row PySem.Challenge.rw_tasterow_k83_whole_spans_as_tables
abbrev hK : PySem.W.Hook := He.hookD 4 hFa hFn
def hOb (s : PySem.W.SharedT) : He.AlD := He.obsDG 4 hFa hFn (HandSHeadRun.getT s)
theorem hOb_eq (s : PySem.W.SharedT) : hOb s = hK.obs s.abs := He.obsDG_eq (HandSHeadRun.getT_eq s)
theorem hRun (w : World) : HandSHeadRun.RunEq hR (PySem.W.view hR.prog [92]) hK hOb 12000 hLo w := by
  intro os
  kernel_rfl
end TR
set_option Elab.async false
set_option linter.all false
set_option maxRecDepth 100000
set_option maxHeartbeats 0
/-! P28: the end (printed by genf.py) -/
namespace TR
open PySem PySem.Spec PyProof.Rows L2 DL
theorem fun_of {K : PySem.W.Frag} {n : Str} {st : Stmt} {f : Addr} {fd : FuncData} (F : FunD K n n (defArgs st) (defBody st) (defScope st) [] [] f fd) : Fun K n n st f fd := by
  obtain ⟨oc, od, dV, kV, doc, pm, an, cdv, ct, osl, e, lk, hcd, hD, hK⟩ := F.ex
  rcases hD with ⟨_, e2⟩ | ⟨e2, _⟩
  · subst e2
    exact ⟨⟨oc, od, kV, doc, pm, an, cdv, ct, osl, e, lk, hcd⟩, F.kp⟩
  · exact absurd rfl e2
theorem at_of {K : PySem.W.Frag} {h : Heap} {mg : Str → Option Value} (X : K.In h) (G : h.Ns mainGlobals mg) (c : He.SaysD hFa hFn K) {n : Str} {st : Stmt} {ps : List Str} (i : Nat) (h1 : hFn[i]? = some (dD n st)) (h2 : hFa[i]? = some (.glo n))
    (hb : ∀ (kV doc pm : Value) (an : Option Addr) (cdv ct : Value) (us : List Value), us.length = ps.length → bindArgs (PySem.W.fnOf n n (defArgs st) (defBody st) (defScope st) .none kV doc pm an cdv ct) ⟨us, []⟩ = pure (ps.zip us)) : At K mg n st ps := by
  obtain ⟨fd, F⟩ := c.def_ i h1
  exact ⟨_, fd, fun_of F, He.glo_ok X G (c.fact i h2), FunD.bindsN (x := n) (qual := n) F hb⟩
theorem free_of {K : PySem.W.Frag} {h : Heap} {mg : Str → Option Value} (X : K.In h) (G : h.Ns mainGlobals mg) (c : He.SaysD hFa hFn K) {n : Str} (i : Nat) (h2 : hFa[i]? = some (.free n)) : mg n = none := He.free_ok X G (c.fact i h2)
theorem tx_of {K : PySem.W.Frag} {h : Heap} {mg : Str → Option Value} (X : K.In h) (G : h.Ns mainGlobals mg) (c : He.SaysD hFa hFn K) : Tx K mg where
  a_is_integer_in := at_of X G c 0 rfl rfl fun _ _ _ _ _ _ us hl => match us, hl with | [_, _, _], _ => rfl
  a_is_ascending := at_of X G c 1 rfl rfl fun _ _ _ _ _ _ us hl => match us, hl with | [_], _ => rfl
  a_is_ranking := at_of X G c 2 rfl rfl fun _ _ _ _ _ _ us hl => match us, hl with | [_, _], _ => rfl
  a_all_pairs := at_of X G c 3 rfl rfl fun _ _ _ _ _ _ us hl => match us, hl with | [_], _ => rfl
  a_prefers := at_of X G c 4 rfl rfl fun _ _ _ _ _ _ us hl => match us, hl with | [_, _, _], _ => rfl
  a_positions_of := at_of X G c 5 rfl rfl fun _ _ _ _ _ _ us hl => match us, hl with | [_], _ => rfl
  a_differences := at_of X G c 6 rfl rfl fun _ _ _ _ _ _ us hl => match us, hl with | [_, _], _ => rfl
  a_distance := at_of X G c 7 rfl rfl fun _ _ _ _ _ _ us hl => match us, hl with | [_, _], _ => rfl
  a_is_between := at_of X G c 8 rfl rfl fun _ _ _ _ _ _ us hl => match us, hl with | [_, _, _], _ => rfl
  a_ranking_of_place := at_of X G c 9 rfl rfl fun _ _ _ _ _ _ us hl => match us, hl with | [_, _], _ => rfl
  a_check_span := at_of X G c 10 rfl rfl fun _ _ _ _ _ _ us hl => match us, hl with | [_, _], _ => rfl
  a_change_of := at_of X G c 11 rfl rfl fun _ _ _ _ _ _ us hl => match us, hl with | [_, _], _ => rfl
  a_line_changes := at_of X G c 12 rfl rfl fun _ _ _ _ _ _ us hl => match us, hl with | [_, _, _], _ => rfl
  a_line_distance := at_of X G c 13 rfl rfl fun _ _ _ _ _ _ us hl => match us, hl with | [_, _, _], _ => rfl
  a_line_segments := at_of X G c 14 rfl rfl fun _ _ _ _ _ _ us hl => match us, hl with | [_, _, _], _ => rfl
  a_rankings_of := at_of X G c 15 rfl rfl fun _ _ _ _ _ _ us hl => match us, hl with | [_], _ => rfl
  a_groups := at_of X G c 16 rfl rfl fun _ _ _ _ _ _ us hl => match us, hl with | [_], _ => rfl
  a_is_menu_of := at_of X G c 17 rfl rfl fun _ _ _ _ _ _ us hl => match us, hl with | [_, _], _ => rfl
  a_check_menu := at_of X G c 18 rfl rfl fun _ _ _ _ _ _ us hl => match us, hl with | [_, _], _ => rfl
  a_is_order_of := at_of X G c 19 rfl rfl fun _ _ _ _ _ _ us hl => match us, hl with | [_, _], _ => rfl
  a_changes_once := at_of X G c 20 rfl rfl fun _ _ _ _ _ _ us hl => match us, hl with | [_, _], _ => rfl
  a_is_seating := at_of X G c 21 rfl rfl fun _ _ _ _ _ _ us hl => match us, hl with | [_, _], _ => rfl
  a_splits_with_pairs := at_of X G c 22 rfl rfl fun _ _ _ _ _ _ us hl => match us, hl with | [_, _], _ => rfl
  a_splits := at_of X G c 23 rfl rfl fun _ _ _ _ _ _ us hl => match us, hl with | [_, _], _ => rfl
  a_largest := at_of X G c 24 rfl rfl fun _ _ _ _ _ _ us hl => match us, hl with | [_], _ => rfl
  a_offset_of := at_of X G c 25 rfl rfl fun _ _ _ _ _ _ us hl => match us, hl with | [_, _, _], _ => rfl
  a_candidate_order := at_of X G c 26 rfl rfl fun _ _ _ _ _ _ us hl => match us, hl with | [_], _ => rfl
  a_flatten := at_of X G c 27 rfl rfl fun _ _ _ _ _ _ us hl => match us, hl with | [_], _ => rfl
  a_find_seating := at_of X G c 28 rfl rfl fun _ _ _ _ _ _ us hl => match us, hl with | [_], _ => rfl
  a_first_seating := at_of X G c 29 rfl rfl fun _ _ _ _ _ _ us hl => match us, hl with | [_], _ => rfl
  a_best_dish := at_of X G c 30 rfl rfl fun _ _ _ _ _ _ us hl => match us, hl with | [_, _], _ => rfl
  a_choices := at_of X G c 31 rfl rfl fun _ _ _ _ _ _ us hl => match us, hl with | [_, _], _ => rfl
  a_cost := at_of X G c 32 rfl rfl fun _ _ _ _ _ _ us hl => match us, hl with | [_, _], _ => rfl
  a_line_support := at_of X G c 33 rfl rfl fun _ _ _ _ _ _ us hl => match us, hl with | [_, _, _, _, _], _ => rfl
  a_line_medians := at_of X G c 34 rfl rfl fun _ _ _ _ _ _ us hl => match us, hl with | [_, _, _], _ => rfl
  a_line_choices := at_of X G c 35 rfl rfl fun _ _ _ _ _ _ us hl => match us, hl with | [_, _, _, _], _ => rfl
  a_line_cost := at_of X G c 36 rfl rfl fun _ _ _ _ _ _ us hl => match us, hl with | [_, _, _, _], _ => rfl
  a_merge_ranges := at_of X G c 37 rfl rfl fun _ _ _ _ _ _ us hl => match us, hl with | [_], _ => rfl
  a_line_insert_ranges := at_of X G c 38 rfl rfl fun _ _ _ _ _ _ us hl => match us, hl with | [_, _, _, _], _ => rfl
  a_line_table := at_of X G c 39 rfl rfl fun _ _ _ _ _ _ us hl => match us, hl with | [_, _], _ => rfl
  a_extend := at_of X G c 40 rfl rfl fun _ _ _ _ _ _ us hl => match us, hl with | [_, _], _ => rfl
  a_positions := at_of X G c 41 rfl rfl fun _ _ _ _ _ _ us hl => match us, hl with | [_, _, _], _ => rfl
  a_insert_positions := at_of X G c 42 rfl rfl fun _ _ _ _ _ _ us hl => match us, hl with | [_, _], _ => rfl
  a_group_order := at_of X G c 43 rfl rfl fun _ _ _ _ _ _ us hl => match us, hl with | [_], _ => rfl
  a_check_dishes := at_of X G c 44 rfl rfl fun _ _ _ _ _ _ us hl => match us, hl with | [_, _, _], _ => rfl
  a_support := at_of X G c 45 rfl rfl fun _ _ _ _ _ _ us hl => match us, hl with | [_, _, _], _ => rfl
  a_medians_of := at_of X G c 46 rfl rfl fun _ _ _ _ _ _ us hl => match us, hl with | [_], _ => rfl
  a_medians := at_of X G c 47 rfl rfl fun _ _ _ _ _ _ us hl => match us, hl with | [_], _ => rfl
  a__law_deck := at_of X G c 48 rfl rfl fun _ _ _ _ _ _ us hl => match us, hl with | [_], _ => rfl
  a__law_next := at_of X G c 49 rfl rfl fun _ _ _ _ _ _ us hl => match us, hl with | [_, _], _ => rfl
  a__law_one := at_of X G c 50 rfl rfl fun _ _ _ _ _ _ us hl => match us, hl with | [_, _], _ => rfl
  a__law_same := at_of X G c 51 rfl rfl fun _ _ _ _ _ _ us hl => match us, hl with | [_, _], _ => rfl
  a__law_list := at_of X G c 52 rfl rfl fun _ _ _ _ _ _ us hl => match us, hl with | [_, _], _ => rfl
  a__law_exchanged := at_of X G c 53 rfl rfl fun _ _ _ _ _ _ us hl => match us, hl with | [_, _], _ => rfl
  a__law_line := at_of X G c 54 rfl rfl fun _ _ _ _ _ _ us hl => match us, hl with | [_, _], _ => rfl
  a__law_meeting := at_of X G c 55 rfl rfl fun _ _ _ _ _ _ us hl => match us, hl with | [_, _], _ => rfl
  a__law_changes := at_of X G c 56 rfl rfl fun _ _ _ _ _ _ us hl => match us, hl with | [_, _], _ => rfl
  a__law_runs_of := at_of X G c 57 rfl rfl fun _ _ _ _ _ _ us hl => match us, hl with | [_, _], _ => rfl
  a__law_menus_right := at_of X G c 58 rfl rfl fun _ _ _ _ _ _ us hl => match us, hl with | [_, _, _, _, _], _ => rfl
  a__law_inserts_right := at_of X G c 59 rfl rfl fun _ _ _ _ _ _ us hl => match us, hl with | [_, _, _, _], _ => rfl
  a_law := at_of X G c 60 rfl rfl fun _ _ _ _ _ _ us hl => match us, hl with | [_], _ => rfl
  b_len := free_of X G c 61 rfl
  b_isinstance := free_of X G c 62 rfl
  b_all := free_of X G c 63 rfl
  b_zip := free_of X G c 64 rfl
  b_range := free_of X G c 65 rfl
  b_enumerate := free_of X G c 66 rfl
  b_sorted := free_of X G c 67 rfl
  b_tuple := free_of X G c 68 rfl
  b_set := free_of X G c 69 rfl
  b_list := free_of X G c 70 rfl
  b_min := free_of X G c 71 rfl
  b_max := free_of X G c 72 rfl
  b_abs := free_of X G c 73 rfl
  b_sum := free_of X G c 74 rfl
  b_int := free_of X G c 75 rfl
  b_bool := free_of X G c 76 rfl
  b_dict := free_of X G c 77 rfl
  b_str := free_of X G c 78 rfl
  c_MW := He.int_ok X G (c.fact 79 (f := .int "MAX_WEIGHT" 1000000000000) rfl)
  c_MT := He.int_ok X G (c.fact 80 (f := .int "MAX_TASTERS" 16) rfl)
theorem facts {P : Program} {w : World} {K : PySem.W.Frag} {h : Heap} {mg : Str → Option Value} {f : Addr} (X : K.In h) (G : h.Ns mainGlobals mg) (hfa : mg ("law" : Str) = some (.ref f)) (c : He.SaysD hFa hFn K) :
    ∃ fd : FuncData, (∀ (s : Shared) (v : Value), BindsTo s fd ⟨[v], []⟩ [("_law_script", v)]) ∧ ∀ base : Heap, K.In base → base.Ns mainGlobals mg → FnOk P w K mg base CX0 11 f fd ["_law_script"] (spLaw K) := by
  obtain ⟨fd, F⟩ := c.def_ 60 (d := dD "law" s_law) rfl
  have e := hfa.symm.trans (He.glo_ok X G (c.fact 60 (f := .glo "law") rfl))
  cases e
  have b := FunD.bindsA (x := "law") (qual := "law") (ps := ["_law_script"]) F fun _ _ _ _ _ _ us hl => match us, hl with | [_], _ => rfl
  exact ⟨fd, fun s v => b s [v] rfl, fun base _ _ => ok_law (tx_of X G c) (fun_of F)⟩
end TR
open PySem PySem.W PySem.Calls PyProof.Rows
theorem PySem.Challenge.cw_tasterow_k83_whole_spans_as_tables_holds : PySem.Challenge.rw_tasterow_k83_whole_spans_as_tables.Holds := by
  w_on; o_law
  refine HandSHeadRun.head_any (r := OpenLaw.row PySem.Challenge.rw_tasterow_k83_whole_spans_as_tables) (q := view (OpenLaw.row PySem.Challenge.rw_tasterow_k83_whole_spans_as_tables).prog [92]) (H := TR.hK) (ob := TR.hOb) (M := 12000) (loose := TR.hLo) (d := HandSHeadRun.topDef (OpenLaw.row PySem.Challenge.rw_tasterow_k83_whole_spans_as_tables).prog 92) (kwd := []) TR.hOb_eq
    (by kernel_rfl) (fun s => by kernel_rfl) TR.hRun (by kernel_rfl) (by kernel_rfl) (by kernel_rfl) (by rfl) (by first | assumption | decide +kernel) (by decide +kernel) ⟨rfl, rfl, rfl, rfl, rfl, by decide +kernel⟩ ?hw ?hc
  case hw => w_witness2
  case hc =>
    refine L2.walk_ofE (l := PySem.Challenge.rw_tasterow_k83_whole_spans_as_tables) (n := 63) (k := 11) (x := "_law_script") (CX := L2.CX0) rfl (by decide) (by kernel_rfl) ⟨rfl, by decide, by decide⟩ ?F (fun _ _ _ _ z => z)
    intro w mg fa h Y G hmg0
    obtain ⟨K, KX, c⟩ := Y
    have hmg : mg ("law" : PySem.Str) = some (.ref fa) := by
      have e : (HandSHeadRun.topDef (OpenLaw.row PySem.Challenge.rw_tasterow_k83_whole_spans_as_tables).prog 92).name = ("law" : PySem.Str) := by kernel_rfl
      rw [← e]
      exact hmg0
    obtain ⟨fd, hb, hF⟩ := TR.facts (P := (PySem.Challenge.rw_tasterow_k83_whole_spans_as_tables).prog) (w := w) KX G hmg c
    exact ⟨K, fd, TR.spLaw K, KX, hb, fun H a ns hl _ hS => ⟨a, ns, rfl, hS, hl, fun _ => rfl⟩, hF⟩
