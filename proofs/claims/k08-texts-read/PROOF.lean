import PyProof.Rows.All
import Wide.All
import OpenK.AllK
import Wide.FinOn
import HandS.ForMost
import HandS.ForExc
import HandS.IsInst
import HandS.Evl
import HandS.ExcIs
import KE.DataFind
import HandS.Text
import KE.GoesRaise
import HandS.ExcCtx
import HandS.SuiteRaise
import PySem.Challenge.RW_firetree_k08_texts_read
set_option Elab.async false
set_option linter.all false
set_option maxRecDepth 100000
set_option maxHeartbeats 4000000
/-! The mathematics: trees as lists of elders and worths. No program here. -/
namespace Fm
def draw (ns : List Int) (k : Int) : Int := (ns.getD (k % 61).toNat 0 + 7919 * k) * (48271 + 2 * k) % 2147483647
theorem draw_lo (ns : List Int) (k : Int) : 0 ≤ draw ns k := Int.emod_nonneg _ (by decide)
theorem draw_hi (ns : List Int) (k : Int) : draw ns k < 2147483647 := Int.emod_lt_of_pos _ (by decide)
/-- an elder by the four ways -/
def elderAt (way k cell : Int) : Int :=
  if way = 0 then cell % (k + 1) else if way = 1 then k - cell % (k + 1) / 2 else if way = 2 then cell % (if 3 < k + 1 then 3 else k + 1) else (k + cell % 2) / 2
theorem elderAt_lo {way k cell : Int} (hk : 0 ≤ k) : 0 ≤ elderAt way k cell := by
  have h1 := Int.emod_nonneg cell (show k + 1 ≠ 0 by omega)
  have h2 := Int.emod_lt_of_pos cell (show 0 < k + 1 by omega)
  unfold elderAt
  split
  · exact h1
  · split
    · omega
    · split
      · split
        · omega
        · exact Int.emod_nonneg cell (show k + 1 ≠ 0 by omega)
      · omega
theorem elderAt_hi {way k cell : Int} (hk : 0 ≤ k) : elderAt way k cell ≤ k := by
  have h1 := Int.emod_nonneg cell (show k + 1 ≠ 0 by omega)
  have h2 := Int.emod_lt_of_pos cell (show 0 < k + 1 by omega)
  unfold elderAt
  split
  · omega
  · split
    · omega
    · split
      · split
        · omega
        · omega
      · omega
/-- the elders of m + 1 things, drawn -/
def elders (ns : List Int) (m : Nat) : List Nat := (List.range m).map fun (k : Nat) => (elderAt (draw ns 2 % 4) (k : Int) (draw ns (10 + (k : Int)))).toNat
def topOf (ns : List Int) : Int := if draw ns 3 % 3 = 0 then 10 else if draw ns 3 % 3 = 1 then 2 else 1001
def worths (ns : List Int) (n : Nat) : List Nat := (List.range n).map fun (k : Nat) => (draw ns (30 + (k : Int)) % topOf ns).toNat
def count (ns : List Int) (most : Int) : Nat := (1 + draw ns 1 % most).toNat
theorem count_lo (ns : List Int) {most : Int} (h : 1 ≤ most) : 1 ≤ count ns most := by
  have := Int.emod_nonneg (draw ns 1) (show most ≠ 0 by omega)
  unfold count
  omega
theorem count_hi (ns : List Int) {most : Int} (h : 1 ≤ most) : (count ns most : Int) ≤ most := by
  have := Int.emod_nonneg (draw ns 1) (show most ≠ 0 by omega)
  have := Int.emod_lt_of_pos (draw ns 1) (show 0 < most by omega)
  unfold count
  omega
theorem count_eq (ns : List Int) {most : Int} (h : 1 ≤ most) : 1 + draw ns 1 % most = (count ns most : Int) := by
  have := Int.emod_nonneg (draw ns 1) (show most ≠ 0 by omega)
  unfold count
  omega
theorem elders_len (ns : List Int) (m : Nat) : (elders ns m).length = m := by simp [elders]
theorem worths_len (ns : List Int) (m : Nat) : (worths ns m).length = m := by simp [worths]
theorem elders_succ (ns : List Int) (m : Nat) : elders ns (m + 1) = elders ns m ++ [(elderAt (draw ns 2 % 4) (m : Int) (draw ns (10 + (m : Int)))).toNat] := by
  unfold elders
  rw [List.range_succ, List.map_append]
  rfl
theorem topOf_pos (ns : List Int) : 0 < topOf ns := by
  unfold topOf
  split
  · decide
  · split <;> decide
theorem topOf_le (ns : List Int) : topOf ns ≤ 1001 := by
  unfold topOf
  split
  · decide
  · split <;> decide
structure OkT (es ws : List Nat) : Prop where
  len : es.length + 1 = ws.length
  most : ws.length ≤ 14
  up : ∀ (k v : Nat), es[k]? = some v → v ≤ k
  wt : ∀ v ∈ ws, v ≤ 1000
theorem ok_drawn (ns : List Int) {n : Nat} (h : 1 ≤ n) (h2 : n ≤ 14) : OkT (elders ns (n - 1)) (worths ns n) where
  len := by rw [elders_len, worths_len]; omega
  most := by rw [worths_len]; exact h2
  up := fun k v e => by
    unfold elders at e
    rw [List.getElem?_map] at e
    cases q : (List.range (n - 1))[k]? with
    | none => rw [q] at e; cases e
    | some j =>
      rw [q] at e
      obtain ⟨h3, h4⟩ := List.getElem?_eq_some_iff.mp q
      rw [List.getElem_range] at h4
      subst h4
      have e2 : (elderAt (draw ns 2 % 4) (k : Int) (draw ns (10 + (k : Int)))).toNat = v := Option.some.inj e
      have h5 := elderAt_hi (way := draw ns 2 % 4) (cell := draw ns (10 + (k : Int))) (show (0 : Int) ≤ (k : Int) by omega)
      omega
  wt := fun v e => by
    unfold worths at e
    obtain ⟨k, _, rfl⟩ := List.mem_map.mp e
    have h5 := Int.emod_lt_of_pos (draw ns (30 + (k : Int))) (topOf_pos ns)
    have h6 := topOf_le ns
    omega
theorem OkT.pos {es ws : List Nat} (o : OkT es ws) : 0 < ws.length := by have := o.len; omega
/-- the elder of a thing that is not the first -/
def eld (es : List Nat) (t : Nat) : Nat := es.getD (t - 1) 0
theorem eld_lt {es : List Nat} (up : ∀ (k v : Nat), es[k]? = some v → v ≤ k) {t : Nat} (h : 0 < t) : eld es t < t := by
  unfold eld
  rw [List.getD_eq_getElem?_getD]
  cases e : es[t - 1]? with
  | none => exact h
  | some v =>
    have := up _ _ e
    show v < t
    omega
theorem eld_get {es : List Nat} {t : Nat} (h : 0 < t) (h2 : t < es.length + 1) : es[t - 1]? = some (eld es t) := by
  unfold eld
  rw [List.getD_eq_getElem?_getD, List.getElem?_eq_getElem (by omega)]
  rfl
/-! ### depth -/
def depF (es : List Nat) : Nat → Nat → Nat
  | 0, _ => 0
  | f + 1, t => if t = 0 then 0 else depF es f (eld es t) + 1
def depth (es : List Nat) (t : Nat) : Nat := depF es t t
section
variable {es : List Nat} (up : ∀ (k v : Nat), es[k]? = some v → v ≤ k)
include up
theorem depF_fuel : ∀ (f g t : Nat), t ≤ f → t ≤ g → depF es f t = depF es g t
  | 0, 0, t, _, _ => rfl
  | 0, g + 1, t, h, _ => by
    have : t = 0 := by omega
    subst this
    rfl
  | f + 1, 0, t, _, h => by
    have : t = 0 := by omega
    subst this
    rfl
  | f + 1, g + 1, t, h1, h2 => by
    unfold depF
    by_cases h : t = 0
    · rw [if_pos h, if_pos h]
    · rw [if_neg h, if_neg h]
      have := eld_lt up (t := t) (by omega)
      rw [depF_fuel f g (eld es t) (by omega) (by omega)]
theorem depth_zero : depth es 0 = 0 := rfl
theorem depth_step {t : Nat} (h : 0 < t) : depth es t = depth es (eld es t) + 1 := by
  have hl := eld_lt up h
  unfold depth
  obtain ⟨n, rfl⟩ : ∃ n, t = n + 1 := ⟨t - 1, by omega⟩
  rw [show depF es (n + 1) (n + 1) = depF es n (eld es (n + 1)) + 1 from by rw [depF, if_neg (by omega)]]
  rw [depF_fuel up n (eld es (n + 1)) (eld es (n + 1)) (by omega) (Nat.le_refl _)]
theorem depth_le (t : Nat) : depth es t ≤ t := by
  induction t using Nat.strongRecOn with
  | ind t ih =>
    by_cases h : t = 0
    · subst h; exact Nat.le_refl _
    · have hl := eld_lt up (t := t) (by omega)
      have := ih _ hl
      rw [depth_step up (by omega)]
      omega
theorem depth_pos {t : Nat} (h : 0 < t) : 0 < depth es t := by
  rw [depth_step up h]
  omega
end
/-! ### below -/
def climbF (es : List Nat) (t : Nat) : Nat → Nat → Nat
  | 0, h => h
  | f + 1, h => if t < h then climbF es t f (eld es h) else h
def climb (es : List Nat) (t h : Nat) : Nat := climbF es t h h
def isBelow (es : List Nat) (t o : Nat) : Bool := climb es t o == t
def below (es : List Nat) (t : Nat) : List Nat := (List.range (es.length + 1)).filter (isBelow es t)
def worth (es ws : List Nat) (t : Nat) : Nat := ((below es t).map fun o => ws.getD o 0).sum
section
variable {es : List Nat} (up : ∀ (k v : Nat), es[k]? = some v → v ≤ k)
include up
theorem climbF_fuel (t : Nat) : ∀ (f g h : Nat), h ≤ f → h ≤ g → climbF es t f h = climbF es t g h
  | 0, 0, h, _, _ => rfl
  | 0, g + 1, h, h1, _ => by
    have : h = 0 := by omega
    subst this
    rw [climbF, climbF, if_neg (by omega)]
  | f + 1, 0, h, _, h1 => by
    have : h = 0 := by omega
    subst this
    rw [climbF, climbF, if_neg (by omega)]
  | f + 1, g + 1, h, h1, h2 => by
    rw [climbF, climbF]
    by_cases c : t < h
    · rw [if_pos c, if_pos c]
      have := eld_lt up (t := h) (by omega)
      exact climbF_fuel t f g (eld es h) (by omega) (by omega)
    · rw [if_neg c, if_neg c]
theorem climb_step {t h : Nat} (c : t < h) : climb es t h = climb es t (eld es h) := by
  have hl := eld_lt up (t := h) (by omega)
  unfold climb
  obtain ⟨n, rfl⟩ : ∃ n, h = n + 1 := ⟨h - 1, by omega⟩
  rw [climbF, if_pos c]
  exact climbF_fuel up t n (eld es (n + 1)) (eld es (n + 1)) (by omega) (Nat.le_refl _)
omit up in
theorem climb_end {t h : Nat} (c : ¬ t < h) : climb es t h = h := by
  unfold climb
  cases h with
  | zero => rfl
  | succ n => rw [climbF, if_neg c]
theorem isBelow_step {t o : Nat} (c : t < o) : isBelow es t o = isBelow es t (eld es o) := by
  unfold isBelow
  rw [climb_step up c]
omit up in
theorem isBelow_self {t : Nat} : isBelow es t t = true := by
  unfold isBelow
  rw [climb_end (Nat.lt_irrefl t)]
  exact beq_self_eq_true t
omit up in
theorem isBelow_lt {t o : Nat} (c : o < t) : isBelow es t o = false := by
  unfold isBelow
  rw [climb_end (by omega)]
  exact beq_eq_false_iff_ne.mpr (by omega)
end
theorem mem_below {es : List Nat} {t o : Nat} : o ∈ below es t ↔ o < es.length + 1 ∧ isBelow es t o = true := by
  unfold below
  rw [List.mem_filter, List.mem_range]
theorem below_len (es : List Nat) (t : Nat) : (below es t).length ≤ es.length + 1 := by
  have := List.length_filter_le (isBelow es t) (List.range (es.length + 1))
  rw [List.length_range] at this
  exact this
/-- what the program's loop has found ahead of m -/
def belowTo (es : List Nat) (t m : Nat) : List Nat := (List.range m).filter (isBelow es t)
theorem belowTo_start {es : List Nat} (t : Nat) : belowTo es t (t + 1) = [t] := by
  unfold belowTo
  rw [List.range_succ, List.filter_append]
  have h : (List.range t).filter (isBelow es t) = [] := by
    rw [List.filter_eq_nil_iff]
    intro a ha
    rw [isBelow_lt (List.mem_range.mp ha)]
    decide
  rw [h, List.filter_cons, if_pos isBelow_self]
  rfl
theorem belowTo_succ {es : List Nat} (t m : Nat) : belowTo es t (m + 1) = if isBelow es t m = true then belowTo es t m ++ [m] else belowTo es t m := by
  unfold belowTo
  rw [List.range_succ, List.filter_append, List.filter_cons]
  by_cases h : isBelow es t m = true
  · rw [if_pos h, if_pos h]; rfl
  · rw [if_neg h, if_neg h]; exact List.append_nil _
theorem belowTo_end {es : List Nat} (t : Nat) : belowTo es t (es.length + 1) = below es t := rfl
theorem mem_belowTo {es : List Nat} {t m o : Nat} : o ∈ belowTo es t m ↔ o < m ∧ isBelow es t o = true := by
  unfold belowTo
  rw [List.mem_filter, List.mem_range]
theorem belowTo_len (es : List Nat) (t m : Nat) : (belowTo es t m).length ≤ m := by
  have := List.length_filter_le (isBelow es t) (List.range m)
  rw [List.length_range] at this
  exact this
end Fm
/-! The mathematics of fires. No program here. -/
namespace Fm
theorem nodup_len : ∀ (n : Nat) (l : List Nat), l.Nodup → (∀ x ∈ l, x < n) → l.length ≤ n
  | 0, l, _, h => by
    cases l with
    | nil => exact Nat.le_refl _
    | cons a r => exact absurd (h a List.mem_cons_self) (Nat.not_lt_zero _)
  | n + 1, l, nd, h => by
    by_cases hn : n ∈ l
    · have e := List.length_erase_of_mem hn
      have ih := nodup_len n (l.erase n) (nd.erase n) fun x hx => by
        have h1 := (nd.mem_erase_iff.mp hx)
        have h2 := h x h1.2
        have h3 := h1.1
        omega
      have : 0 < l.length := List.length_pos_of_mem hn
      omega
    · have ih := nodup_len n l nd fun x hx => by
        have h2 := h x hx
        have h3 : x ≠ n := fun e => hn (e ▸ hx)
        omega
      omega
/-- what catches fire in a minute -/
def fresh (es b s : List Nat) : List Nat := (List.range' 1 es.length).filter fun t => decide (eld es t ∈ b) && !decide (t ∈ b) && !decide (t ∈ s)
theorem mem_fresh {es b s : List Nat} {t : Nat} : t ∈ fresh es b s ↔ (1 ≤ t ∧ t < es.length + 1) ∧ eld es t ∈ b ∧ t ∉ b ∧ t ∉ s := by
  unfold fresh
  rw [List.mem_filter, List.mem_range'_1]
  simp only [Bool.and_eq_true, decide_eq_true_eq, Bool.not_eq_true', decide_eq_false_iff_not]
  constructor
  · rintro ⟨⟨a1, a2⟩, ⟨a3, a4⟩, a5⟩; exact ⟨⟨a1, by omega⟩, a3, a4, a5⟩
  · rintro ⟨⟨a1, a2⟩, a3, a4, a5⟩; exact ⟨⟨a1, by omega⟩, ⟨a3, a4⟩, a5⟩
theorem fresh_nodup (es b s : List Nat) : (fresh es b s).Nodup := (by exact List.Nodup.sublist List.filter_sublist List.nodup_range')
/-- what the loop over the things has found ahead of thing m + 1 -/
def freshTo (es b s : List Nat) (m : Nat) : List Nat := (List.range' 1 m).filter fun t => decide (eld es t ∈ b) && !decide (t ∈ b) && !decide (t ∈ s)
theorem freshTo_succ (es b s : List Nat) (m : Nat) : freshTo es b s (m + 1) = if (decide (eld es (m + 1) ∈ b) && !decide (m + 1 ∈ b) && !decide (m + 1 ∈ s)) = true then freshTo es b s m ++ [m + 1] else freshTo es b s m := by
  unfold freshTo
  rw [List.range'_concat, List.filter_append, List.filter_cons, show 1 + 1 * m = m + 1 by omega]
  by_cases h : (decide (eld es (m + 1) ∈ b) && !decide (m + 1 ∈ b) && !decide (m + 1 ∈ s)) = true
  · rw [if_pos h, if_pos h]; rfl
  · rw [if_neg h, if_neg h]; exact List.append_nil _
theorem freshTo_len (es b s : List Nat) (m : Nat) : (freshTo es b s m).length ≤ m := by
  have := List.length_filter_le (fun t => decide (eld es t ∈ b) && !decide (t ∈ b) && !decide (t ∈ s)) (List.range' 1 m)
  rw [List.length_range'] at this
  exact this
/-- the shutting off of a minute: a fault (1: no thing, 2: it burns, or is shut off), or what is shut off -/
def shutStep (n : Nat) (o : Option (Option Int)) (b s : List Nat) : Except Nat (List Nat) :=
  match o with
  | some (some z) => if 0 ≤ z ∧ z < (n : Int) then (if z.toNat ∈ b ∨ z.toNat ∈ s then .error 2 else .ok (s ++ [z.toNat])) else .error 1
  | _ => .ok s
/-- so many minutes -/
def run (es : List Nat) (plan : List (Option Int)) : Nat → Except Nat (List (List Nat) × List Nat × List Nat)
  | 0 => .ok ([[0]], [0], [])
  | m + 1 => match run es plan m with
    | .error c => .error c
    | .ok (r, b, s) => match shutStep (es.length + 1) plan[m]? b s with
      | .error c => .error c
      | .ok s' => .ok (r ++ [fresh es b s'], b ++ fresh es b s', s')
theorem run_step {es : List Nat} {plan : List (Option Int)} {m : Nat} {r : List (List Nat)} {b s s' : List Nat} (h : run es plan m = .ok (r, b, s)) (h2 : shutStep (es.length + 1) plan[m]? b s = .ok s') :
    run es plan (m + 1) = .ok (r ++ [fresh es b s'], b ++ fresh es b s', s') := by
  rw [run, h]
  simp only
  rw [h2]
theorem run_fail {es : List Nat} {plan : List (Option Int)} {m c : Nat} {r : List (List Nat)} {b s : List Nat} (h : run es plan m = .ok (r, b, s)) (h2 : shutStep (es.length + 1) plan[m]? b s = .error c) : run es plan (m + 1) = .error c := by
  rw [run, h]
  simp only
  rw [h2]
theorem run_error {es : List Nat} {plan : List (Option Int)} {m c : Nat} (h : run es plan m = .error c) : ∀ k, run es plan (m + k) = .error c
  | 0 => h
  | k + 1 => by
    rw [Nat.add_succ, run, run_error h k]
/-- what holds of every state -/
structure Good (es : List Nat) (r : List (List Nat)) (b s : List Nat) (m : Nat) : Prop where
  len : r.length = m + 1
  nd : b.Nodup
  lt : ∀ x ∈ b, x < es.length + 1
  root : 0 ∈ b
  slt : ∀ x ∈ s, x < es.length + 1
  sum : b.length = (r.map List.length).sum
  head : r[0]? = some [0]
  rlt : ∀ row ∈ r, ∀ x ∈ row, x < es.length + 1
  rln : ∀ row ∈ r, row.length ≤ es.length + 1
  sln : s.length ≤ m
theorem shut_slt {n : Nat} {o : Option (Option Int)} {b s s' : List Nat} (h : shutStep n o b s = .ok s') (hs : ∀ x ∈ s, x < n) : ∀ x ∈ s', x < n := by
  unfold shutStep at h
  split at h
  · split at h
    · split at h
      · cases h
      · cases h
        intro x hx
        rcases List.mem_append.mp hx with hx | hx
        · exact hs x hx
        · have := List.mem_singleton.mp hx
          omega
    · cases h
  · cases h
    exact hs
theorem shut_len {n : Nat} {o : Option (Option Int)} {b s s' : List Nat} (h : shutStep n o b s = .ok s') : s'.length ≤ s.length + 1 := by
  unfold shutStep at h
  split at h
  · split at h
    · split at h
      · cases h
      · cases h
        rw [List.length_append]
        exact Nat.le_refl _
    · cases h
  · cases h
    exact Nat.le_succ _
theorem good_zero (es : List Nat) : Good es [[0]] [0] [] 0 := ⟨rfl, by simp, by simp, by simp, by simp, rfl, rfl, by simp, by simp, Nat.le_refl _⟩
theorem good_step {es : List Nat} {r : List (List Nat)} {b s s' : List Nat} {m : Nat} (g : Good es r b s m) (hs : ∀ x ∈ s', x < es.length + 1) (hl : s'.length ≤ s.length + 1) : Good es (r ++ [fresh es b s']) (b ++ fresh es b s') s' (m + 1) where
  len := by rw [List.length_append, g.len]; rfl
  nd := List.nodup_append.mpr ⟨g.nd, fresh_nodup es b s', fun a ha c hc e => (mem_fresh.mp hc).2.2.1 (e ▸ ha)⟩
  lt := fun x hx => by
    rcases List.mem_append.mp hx with hx | hx
    · exact g.lt x hx
    · exact (mem_fresh.mp hx).1.2
  root := List.mem_append_left _ g.root
  slt := hs
  sum := by simp [g.sum]
  head := by
    have := g.head
    rw [List.getElem?_append_left (by rw [g.len]; omega)]
    exact this
  rlt := fun row hrow x hx => by
    rcases List.mem_append.mp hrow with hrow | hrow
    · exact g.rlt row hrow x hx
    · rw [List.mem_singleton.mp hrow] at hx
      exact (mem_fresh.mp hx).1.2
  rln := fun row hrow => by
    rcases List.mem_append.mp hrow with hrow | hrow
    · exact g.rln row hrow
    · rw [List.mem_singleton.mp hrow]
      exact nodup_len _ _ (fresh_nodup es b s') fun x hx => (mem_fresh.mp hx).1.2
  sln := by have := g.sln; omega
theorem good_run {es : List Nat} {plan : List (Option Int)} : ∀ {m : Nat} {r : List (List Nat)} {b s : List Nat}, run es plan m = .ok (r, b, s) → Good es r b s m
  | 0, r, b, s, h => by
    cases h
    exact good_zero es
  | m + 1, r, b, s, h => by
    rw [run] at h
    cases e : run es plan m with
    | error c => rw [e] at h; cases h
    | ok v =>
      obtain ⟨r0, b0, s0⟩ := v
      rw [e] at h
      simp only at h
      cases e2 : shutStep (es.length + 1) plan[m]? b0 s0 with
      | error c => rw [e2] at h; cases h
      | ok s1 =>
        rw [e2] at h
        cases h
        have g := good_run e
        exact good_step g (shut_slt e2 g.slt) (shut_len e2)
theorem Good.blen {es : List Nat} {r : List (List Nat)} {b s : List Nat} {m : Nat} (g : Good es r b s m) : b.length ≤ es.length + 1 := nodup_len _ b g.nd g.lt
/-- behind the plan nothing is shut off -/
theorem shut_behind {n : Nat} {plan : List (Option Int)} {m : Nat} {b s : List Nat} (h : plan.length ≤ m) : shutStep n plan[m]? b s = .ok s := by
  rw [List.getElem?_eq_none h]
  rfl
/-- the fire is over: nothing more happens -/
theorem run_over {es : List Nat} {plan : List (Option Int)} {m : Nat} {r : List (List Nat)} {b s : List Nat} (h : run es plan m = .ok (r, b, s)) (hm : plan.length ≤ m) (hf : fresh es b s = []) : ∀ k, run es plan (m + k) = .ok (r ++ List.replicate k [], b, s)
  | 0 => by rw [List.replicate_zero, List.append_nil]; exact h
  | k + 1 => by
    have ih := run_over h hm hf k
    rw [Nat.add_succ, run_step ih (shut_behind (by omega)), hf, List.append_nil, List.append_assoc, List.replicate_succ']
/-- if the last minute brought nothing, the fire is over -/
theorem over_of {es : List Nat} {plan : List (Option Int)} {m : Nat} {r : List (List Nat)} {b s : List Nat} (h : run es plan m = .ok (r, b, s)) (hl : r.getLast? = some []) : fresh es b s = [] := by
  cases m with
  | zero => cases h; cases hl
  | succ m =>
    rw [run] at h
    cases e : run es plan m with
    | error c => rw [e] at h; cases h
    | ok v =>
      obtain ⟨r0, b0, s0⟩ := v
      rw [e] at h
      simp only at h
      cases e2 : shutStep (es.length + 1) plan[m]? b0 s0 with
      | error c => rw [e2] at h; cases h
      | ok s1 =>
        rw [e2] at h
        cases h
        rw [List.getLast?_append] at hl
        have hf : fresh es b0 s = [] := by simpa using hl
        rw [hf, List.append_nil]
        exact hf
/-- the last row, where there is one ahead of it -/
theorem last_row {es : List Nat} {plan : List (Option Int)} {m : Nat} {r : List (List Nat)} {b s : List Nat} (h : run es plan m = .ok (r, b, s)) : ∃ x, r.getLast? = some x := by
  have g := good_run h
  have : r ≠ [] := fun e => by have := g.len; rw [e] at this; cases this
  exact ⟨_, List.getLast?_eq_some_getLast this⟩
/-- either over by the minute plan.length + j, or j things more burn -/
theorem over_or {es : List Nat} {plan : List (Option Int)} : ∀ {j : Nat} {r : List (List Nat)} {b s : List Nat}, run es plan (plan.length + j) = .ok (r, b, s) → fresh es b s = [] ∨ j < b.length
  | 0, r, b, s, h => .inr (List.length_pos_of_mem (good_run h).root)
  | j + 1, r, b, s, h => by
    have h0 := h
    rw [Nat.add_succ, run] at h
    cases e : run es plan (plan.length + j) with
    | error c => rw [e] at h; cases h
    | ok v =>
      obtain ⟨r0, b0, s0⟩ := v
      rw [e] at h
      simp only at h
      rw [shut_behind (by omega)] at h
      cases h
      rcases over_or e with h1 | h1
      · left
        rw [h1, List.append_nil]
        exact h1
      · by_cases hf : fresh es b0 s = []
        · left
          rw [hf, List.append_nil]
          exact hf
        · right
          rw [List.length_append]
          have : 0 < (fresh es b0 s).length := List.length_pos_iff.mpr hf
          omega
/-- the whole fire -/
def fire (es : List Nat) (plan : List (Option Int)) : Except Nat (List (List Nat) × List Nat × List Nat) := run es plan (plan.length + (es.length + 1))
theorem fire_over {es : List Nat} {plan : List (Option Int)} {r : List (List Nat)} {b s : List Nat} (h : fire es plan = .ok (r, b, s)) : fresh es b s = [] := by
  rcases over_or h with h1 | h1
  · exact h1
  · have := (good_run h).blen
    omega
/-! ### rows without the empty ones behind -/
def trim (l : List (List Nat)) : List (List Nat) := (l.reverse.dropWhile fun x => x == []).reverse
theorem trim_snoc_nil (l : List (List Nat)) : trim (l ++ [[]]) = trim l := by
  unfold trim
  rw [List.reverse_append, List.reverse_singleton, List.singleton_append, List.dropWhile_cons, if_pos (show (([] : List Nat) == []) = true from rfl)]
theorem trim_snoc {x : List Nat} (l : List (List Nat)) (h : x ≠ []) : trim (l ++ [x]) = l ++ [x] := by
  unfold trim
  rw [List.reverse_append, List.reverse_singleton, List.singleton_append, List.dropWhile_cons, if_neg (by simpa using h)]
  rw [List.reverse_cons, List.reverse_reverse]
theorem trim_rep (l : List (List Nat)) : ∀ k, trim (l ++ List.replicate k []) = trim l
  | 0 => by rw [List.replicate_zero, List.append_nil]
  | k + 1 => by rw [List.replicate_succ', ← List.append_assoc, trim_snoc_nil, trim_rep l k]
theorem dropWhile_nil {α : Type} {p : α → Bool} : ∀ {l : List α}, l.dropWhile p = [] → ∀ x ∈ l, p x = true
  | [], _, x, hx => by cases hx
  | a :: r, h, x, hx => by
    rw [List.dropWhile_cons] at h
    by_cases ha : p a = true
    · rw [if_pos ha] at h
      rcases List.mem_cons.mp hx with e | e
      · rw [e]; exact ha
      · exact dropWhile_nil h x e
    · rw [if_neg ha] at h; cases h
theorem trim_ne {l : List (List Nat)} (h : l[0]? = some [0]) : trim l ≠ [] := by
  cases l with
  | nil => cases h
  | cons a r =>
    have ha : a = [0] := Option.some.inj h
    subst ha
    unfold trim
    rw [List.reverse_cons]
    intro e
    have e2 := congrArg List.reverse e
    rw [List.reverse_reverse, List.reverse_nil] at e2
    have h3 := dropWhile_nil e2
    have := h3 [0] (by simp)
    cases this
/-- the program's fire, at whatever minute it stops -/
theorem run_fire {es : List Nat} {plan : List (Option Int)} {m : Nat} {r : List (List Nat)} {b s : List Nat} (h : run es plan m = .ok (r, b, s)) (hm : plan.length ≤ m) (hl : r.getLast? = some []) : ∃ r', fire es plan = .ok (r', b, s) ∧ trim r' = trim r := by
  have hf := over_of h hl
  by_cases c : m ≤ plan.length + (es.length + 1)
  · obtain ⟨k, hk⟩ : ∃ k, plan.length + (es.length + 1) = m + k := ⟨_, (Nat.add_sub_cancel' c).symm⟩
    refine ⟨r ++ List.replicate k [], ?_, trim_rep r k⟩
    unfold fire
    rw [hk]
    exact run_over h hm hf k
  · obtain ⟨k, hk⟩ : ∃ k, m = plan.length + (es.length + 1) + k := ⟨_, (Nat.add_sub_cancel' (by omega)).symm⟩
    cases e : fire es plan with
    | error c => 
      have := run_error e k
      rw [← hk, h] at this
      cases this
    | ok v =>
      obtain ⟨r', b', s'⟩ := v
      have := run_over e (by omega) (fire_over e) k
      rw [← hk, h] at this
      cases this
      exact ⟨r', rfl, (trim_rep r' k).symm⟩
theorem run_fire_error {es : List Nat} {plan : List (Option Int)} {m c : Nat} (h : run es plan m = .error c) (hm : m ≤ plan.length) : fire es plan = .error c := by
  obtain ⟨k, hk⟩ : ∃ k, plan.length + (es.length + 1) = m + k := ⟨_, (Nat.add_sub_cancel' (by omega)).symm⟩
  unfold fire
  rw [hk]
  exact run_error h k
/-- what a plan saves: the worths of what never burns -/
def saved (ws b : List Nat) : Nat := (((List.range ws.length).filter fun t => !decide (t ∈ b)).map fun t => ws.getD t 0).sum
theorem saved_congr {ws b c : List Nat} (h : ∀ x, x ∈ b ↔ x ∈ c) : saved ws b = saved ws c := by
  unfold saved
  congr 2
  exact List.filter_congr fun x _ => by rw [decide_eq_decide.mpr (h x)]
end Fm
/-! The ground of the proofs: a def's promise by its name (Has, HasM), what reads evaluate to (over Evl), lists of numbers. -/
namespace Fi
open PySem L2 Evl

/-! ### the built-in names that the text does not bind -/
structure Bi (mg : Str → Option Value) : Prop where
  len : mg "len" = none
  range : mg "range" = none
  list : mg "list" = none
  sum : mg "sum" = none
  max : mg "max" = none
  min : mg "min" = none
  isinstance : mg "isinstance" = none
  int : mg "int" = none
  bool : mg "bool" = none
  str : mg "str" = none
  tuple : mg "tuple" = none
  enumerate : mg "enumerate" = none
  ValueError : mg "ValueError" = none

/-! ### a def of the top, a method, by the promise -/
def Has (P : Program) (w : World) (K : PySem.W.Frag) (mg : Str → Option Value) (base : Heap) (CX : CXT) (x : Str) (ps : List Str) (k : Nat) (sp : Sp) : Prop :=
  ∃ f fd, mg x = some (.ref f) ∧ PySem.W.keepIn K (.ref f) = true ∧ Binds K fd ps [] ∧ FnOk P w K mg base CX k f fd ps sp
def HasM (P : Program) (w : World) (K : PySem.W.Frag) (mg : Str → Option Value) (base : Heap) (CX : CXT) (C : Addr) (m : Str) (ps : List Str) (k : Nat) (sp : Sp) : Prop :=
  ∃ f fd, Meth K C m f ∧ Binds K fd ps [] ∧ FnOk P w K mg base CX k f fd ps sp
section
variable {X : Cx} {CX : CXT} {k : Nat} {C : Addr} {ps : List Str} {sp : Sp} {E : XK} {x m : Str} {p pos apos : Pos} {e o : Expr} {es : List Expr} {ta : TE} {t : TA}
theorem Has.call (h : Has X.prog X.w X.K X.mg X.base CX x ps k sp) (hr : Room k X.A) (hg : Gl X x) (hx : Passes CX X E) (ha : PA X (e :: es) t) (hdb : (x == ("__debug__" : Str)) = false := by decide)
    (he : starEach (e :: es) X.env = (false, eval e X.env) :: starEach es X.env := by rfl) (hpl : (backTo pos (starEach es X.env)).any (·.1) = false := by rfl) :
    PE X (.Call (.Name x p) (e :: es) [] pos) (tCall sp [] E t) := by
  obtain ⟨f, fd, hm, hk, hb, F⟩ := h
  exact pe_call F hr hg hm hk hb .nil hx ha hdb he hpl
theorem HasM.call (h : HasM X.prog X.w X.K X.mg X.base CX C m ps k sp) (c : Cls X.K C) (ho : PE X o ta) (hr : Room k X.A) (hx : Passes CX X E) (ha : PA X (e :: es) t) {pl : Sem Bool}
    (hst : starEach (e :: es) X.env = (false, eval e X.env) :: starEach es X.env := by rfl) (hpl : (backTo pos (starEach es X.env)).any (·.1) = false := by rfl)
    (ht : eval (.Call (.Attribute o m apos) (e :: es) [] pos) X.env = (do let ov ← eval o X.env; standAt apos.atName; let (f, first) ← holding [ov] (getMethod ov m pl); callWith pos f first (backTo pos (starEach (e :: es) X.env)) (backToKw pos (keywordEach [] X.env))) := by rfl) :
    PE X (.Call (.Attribute o m apos) (e :: es) [] pos) (tMeth C m sp [] E ta t) := by
  obtain ⟨f, fd, hm, hb, F⟩ := h
  exact pe_meth ho c hm F hr hb .nil hx ha hst hpl ht
theorem HasM.call0 (h : HasM X.prog X.w X.K X.mg X.base CX C m ps k sp) (c : Cls X.K C) (ho : PE X o ta) (hr : Room k X.A) (hx : Passes CX X E) {pl : Sem Bool}
    (ht : eval (.Call (.Attribute o m apos) [] [] pos) X.env = (do let ov ← eval o X.env; standAt apos.atName; let (f, first) ← holding [ov] (getMethod ov m pl); callWith pos f first (backTo pos (starEach [] X.env)) (backToKw pos (keywordEach [] X.env))) := by rfl) :
    PE X (.Call (.Attribute o m apos) [] [] pos) (tMeth C m sp [] E ta tNil) := by
  obtain ⟨f, fd, hm, hb, F⟩ := h
  exact pe_meth0 ho c hm F hr hb .nil hx ht
end

/-! ### a def of the text as it stands behind the top -/
def At (K : PySem.W.Frag) (mg : Str → Option Value) (x : Str) (st : Stmt) (ps : List Str) : Prop := ∃ f fd, Fun K x x st f fd ∧ mg x = some (.ref f) ∧ Binds K fd ps []
def AtM (K : PySem.W.Frag) (C : Addr) (m qual : Str) (st : Stmt) (ps : List Str) : Prop := ∃ f fd, Fun K m qual st f fd ∧ Meth K C m f ∧ Binds K fd ps []
section
variable {P : Program} {w : World} {K : PySem.W.Frag} {mg : Str → Option Value} {base : Heap} {CX : CXT} {k : Nat} {C : Addr} {st : Stmt} {ps : List Str} {sp : Sp} {x m qual : Str}
theorem At.has (D : At K mg x st ps) (h : ∀ f fd, Fun K x x st f fd → FnOk P w K mg base CX k f fd ps sp) : Has P w K mg base CX x ps k sp := by
  obtain ⟨f, fd, F, hm, hb⟩ := D
  exact ⟨f, fd, hm, F.kp, hb, h f fd F⟩
theorem AtM.has (D : AtM K C m qual st ps) (h : ∀ f fd, Fun K m qual st f fd → FnOk P w K mg base CX k f fd ps sp) : HasM P w K mg base CX C m ps k sp := by
  obtain ⟨f, fd, F, hm, hb⟩ := D
  exact ⟨f, fd, hm, hb, h f fd F⟩
theorem Has.imp {sp' : Sp} (h : Has P w K mg base CX x ps k sp) (i : ∀ vs H Q E, sp' vs H Q E → sp vs H Q E) : Has P w K mg base CX x ps k sp' := by
  obtain ⟨f, fd, hm, hk, hb, F⟩ := h
  exact ⟨f, fd, hm, hk, hb, F.imp i⟩
theorem HasM.imp {sp' : Sp} (h : HasM P w K mg base CX C m ps k sp) (i : ∀ vs H Q E, sp' vs H Q E → sp vs H Q E) : HasM P w K mg base CX C m ps k sp' := by
  obtain ⟨f, fd, hm, hb, F⟩ := h
  exact ⟨f, fd, hm, hb, F.imp i⟩
end

/-! ### the facts that k_is finds, put together -/
section
variable {K : PySem.W.Frag} {mg : Str → Option Value} {h : Heap} {C f : Addr} {x m qual : Str} {st : Stmt} {ps : List Str} {oc : Value} {od an : Option Addr} {sl : Array (Option Value)} {kV dc pm cd ct : Value}
theorem at_mk (X : K.In h) (G : h.Ns mainGlobals mg) (a : PySem.W.nsIn K mainGlobals x = some (some (.ref f))) (l : K.lookup f = some ⟨oc, od, .func (PySem.W.fnOf x x (defArgs st) (defBody st) (defScope st) .none kV dc pm an cd ct), sl⟩) (c : PySem.W.codeIn K cd x = true) (k : PySem.W.keepIn K (.ref f) = true)
    (hb : ∀ (kV doc pm : Value) (an : Option Addr) (cdv ct : Value) (us : List Value), us.length = ps.length → bindArgs (PySem.W.fnOf x x (defArgs st) (defBody st) (defScope st) .none kV doc pm an cdv ct) ⟨us, []⟩ = pure (ps.zip us)) : At K mg x st ps :=
  ⟨f, _, fun_mk l c k, PySem.W.mg_of X G a, (fun_mk l c k).binds hb⟩
theorem atm_mk (a : PySem.W.findIn K (.ref C) m = some (some (.ref f))) (i : PySem.W.isFn K (.ref f) = true) (l : K.lookup f = some ⟨oc, od, .func (PySem.W.fnOf m qual (defArgs st) (defBody st) (defScope st) .none kV dc pm an cd ct), sl⟩) (c : PySem.W.codeIn K cd qual = true) (k : PySem.W.keepIn K (.ref f) = true)
    (hb : ∀ (kV doc pm : Value) (an : Option Addr) (cdv ct : Value) (us : List Value), us.length = ps.length → bindArgs (PySem.W.fnOf m qual (defArgs st) (defBody st) (defScope st) .none kV doc pm an cdv ct) ⟨us, []⟩ = pure (ps.zip us)) : AtM K C m qual st ps :=
  ⟨f, _, fun_mk l c k, ⟨a, i, k⟩, (fun_mk l c k).binds hb⟩
end

/-! ### a class made; own exceptions -/
def HasI (P : Program) (w : World) (K : PySem.W.Frag) (mg : Str → Option Value) (base : Heap) (CX : CXT) (C : Addr) (ps : List Str) (k : Nat) (sp : Sp) : Prop :=
  ∃ f fd, Mk K C f ∧ Binds K fd ps [] ∧ FnOk P w K mg base CX k f fd ps sp
def AtI (K : PySem.W.Frag) (C : Addr) (qual : Str) (st : Stmt) (ps : List Str) : Prop := ∃ f fd, Fun K "__init__" qual st f fd ∧ Mk K C f ∧ Binds K fd ps []
/-- what the text's top has left of an own exception class without an __init__ -/
structure Err (K : PySem.W.Frag) (mg : Str → Option Value) (x : Str) (C : Addr) : Prop where
  g : mg x = some (.ref C)
  q : PySem.W.excIn K C [.type "ValueError", .type "Exception", .type "BaseException", .type "object"] "ValueError.__new__" = true
  k : PySem.W.keepIn K (.ref C) = true
  b : PySem.W.subIn K (.ref C) (.type "BaseException") = some true
  t : PySem.W.typeIn K (.ref C) = some (.type "type")
section
variable {K : PySem.W.Frag} {mg : Str → Option Value} {h : Heap} {C f : Addr} {x qual : Str} {st : Stmt} {ps : List Str} {oc : Value} {od an : Option Addr} {sl : Array (Option Value)} {kV dc pm cd ct : Value}
theorem ati_mk (a : PySem.W.findIn K (.ref C) "__init__" = some (some (.ref f))) (i : PySem.W.isFn K (.ref f) = true) (l : K.lookup f = some ⟨oc, od, .func (PySem.W.fnOf "__init__" qual (defArgs st) (defBody st) (defScope st) .none kV dc pm an cd ct), sl⟩) (c : PySem.W.codeIn K cd qual = true) (k : PySem.W.keepIn K (.ref f) = true)
    (mk : PySem.W.makesIn K C = true) (kc : PySem.W.keepIn K (.ref C) = true)
    (hb : ∀ (kV doc pm : Value) (an : Option Addr) (cdv ct : Value) (us : List Value), us.length = ps.length → bindArgs (PySem.W.fnOf "__init__" qual (defArgs st) (defBody st) (defScope st) .none kV doc pm an cdv ct) ⟨us, []⟩ = pure (ps.zip us)) : AtI K C qual st ps :=
  ⟨f, _, fun_mk l c k, ⟨mk, a, i, kc⟩, (fun_mk l c k).binds hb⟩
theorem err_mk (X : K.In h) (G : h.Ns mainGlobals mg) (a : PySem.W.nsIn K mainGlobals x = some (some (.ref C))) (q : PySem.W.excIn K C [.type "ValueError", .type "Exception", .type "BaseException", .type "object"] "ValueError.__new__" = true) (k : PySem.W.keepIn K (.ref C) = true)
    (b : PySem.W.subIn K (.ref C) (.type "BaseException") = some true) (t : PySem.W.typeIn K (.ref C) = some (.type "type")) : Err K mg x C := ⟨PySem.W.mg_of X G a, q, k, b, t⟩
end
section
variable {P : Program} {w : World} {K : PySem.W.Frag} {mg : Str → Option Value} {base : Heap} {CX : CXT} {k : Nat} {C : Addr} {st : Stmt} {ps : List Str} {sp : Sp} {qual : Str}
theorem AtI.has (D : AtI K C qual st ps) (h : ∀ f fd, Fun K "__init__" qual st f fd → FnOk P w K mg base CX k f fd ps sp) : HasI P w K mg base CX C ps k sp := by
  obtain ⟨f, fd, F, hm, hb⟩ := D
  exact ⟨f, fd, hm, hb, h f fd F⟩
end
section
variable {X : Cx} {CX : CXT} {k j : Nat} {C : Addr} {ps : List Str} {sp : Sp} {E : XK} {x m : Str} {p p2 pos : Pos} {e : Expr} {es : List Expr} {t : TA}
theorem HasI.make (h : HasI X.prog X.w X.K X.mg X.base CX C ps k sp) (hr : Room (k + 1) X.A) (hg : Gl X x) (hm : X.mg x = some (.ref C)) (hx : Passes CX X E) (ha : PA X (e :: es) t) (hdb : (x == ("__debug__" : Str)) = false := by decide)
    (he : starEach (e :: es) X.env = (false, eval e X.env) :: starEach es X.env := by rfl) (hpl : (backTo pos (starEach es X.env)).any (·.1) = false := by rfl) : PE X (.Call (.Name x p) (e :: es) [] pos) (tMake C sp [] E t) := by
  obtain ⟨f, fd, M, hb, F⟩ := h
  exact pe_make M F hr hg hm hb .nil hx ha hdb he hpl
theorem Err.made (T : Err X.K X.mg x C) (hg : Gl X x) (hdb : (x == ("__debug__" : Str)) = false := by decide) : PMk X (.Call (.Name x p) [.Constant (.str m) j p2] [] pos) (fun _ H Q => Q (.ref C) none H) :=
  pmk_own PySem.F.excBase_ValueError T.q T.g T.k (raises_own T.b T.t) hg hdb
theorem pe_gint {i : Int} {tk : Tok} (hg : Gl X x) (h : X.mg x = some (.int i tk)) (hd : (x == ("__debug__" : Str)) = false := by decide) : PE X (.Name x pos) (tC (.int i)) := pe_glob hg h ⟨tk, rfl⟩ hd
theorem pe_gstr {i : Str} {tk : Tok} (hg : Gl X x) (h : X.mg x = some (.str i tk)) (hd : (x == ("__debug__" : Str)) = false := by decide) : PE X (.Name x pos) (tC (.str i)) := pe_glob hg h ⟨tk, rfl⟩ hd
theorem pe_gcls {C : Addr} (hg : Gl X x) (h : X.mg x = some (.ref C)) (hd : (x == ("__debug__" : Str)) = false := by decide) : PE X (.Name x pos) (tC (.ref C)) := pe_glob hg h rfl hd
end

theorem bi_mk {K : PySem.W.Frag} {mg : Str → Option Value} {h : Heap} (X : K.In h) (G : h.Ns mainGlobals mg) (z1 : PySem.W.nsIn K mainGlobals "len" = some none) (z2 : PySem.W.nsIn K mainGlobals "range" = some none) (z3 : PySem.W.nsIn K mainGlobals "list" = some none) (z4 : PySem.W.nsIn K mainGlobals "sum" = some none)
    (z5 : PySem.W.nsIn K mainGlobals "max" = some none) (z6 : PySem.W.nsIn K mainGlobals "min" = some none) (z7 : PySem.W.nsIn K mainGlobals "isinstance" = some none) (z8 : PySem.W.nsIn K mainGlobals "int" = some none) (z9 : PySem.W.nsIn K mainGlobals "bool" = some none) (z10 : PySem.W.nsIn K mainGlobals "str" = some none)
    (z11 : PySem.W.nsIn K mainGlobals "tuple" = some none) (z12 : PySem.W.nsIn K mainGlobals "enumerate" = some none) (z13 : PySem.W.nsIn K mainGlobals "ValueError" = some none) : Bi mg :=
  ⟨PySem.W.mg_none_of X G z1, PySem.W.mg_none_of X G z2, PySem.W.mg_none_of X G z3, PySem.W.mg_none_of X G z4, PySem.W.mg_none_of X G z5, PySem.W.mg_none_of X G z6, PySem.W.mg_none_of X G z7, PySem.W.mg_none_of X G z8, PySem.W.mg_none_of X G z9, PySem.W.mg_none_of X G z10, PySem.W.mg_none_of X G z11, PySem.W.mg_none_of X G z12, PySem.W.mg_none_of X G z13⟩

/-! ### rules with the written part named (within a comprehension's block it must not hang on the block) -/
section
variable {X : Cx} {K : PySem.W.Frag} {e : Expr} {f : Str} {pos : Pos} {ta : TE}
theorem ix_listK (hK : X.K = K := by rfl) : IxR X (rIxL K) := by subst hK; exact ix_list
theorem ix_tupK (hK : X.K = K := by rfl) : IxR X (rIxT K) := by subst hK; exact ix_tup
theorem sl_listK (hK : X.K = K := by rfl) : SlR X (rSlL K) := by subst hK; exact sl_list
theorem op_inK (hK : X.K = K := by rfl) : OpR X (compareOp .In) (rIn K false) := by subst hK; exact op_in_seq
theorem op_notInK (hK : X.K = K := by rfl) : OpR X (compareOp .NotIn) (rIn K true) := by subst hK; exact op_notIn_seq
theorem op_eqDK (hu : X.A.units + 64 < cLine) (hK : X.K = K := by rfl) : OpR X (compareOp .Eq) (rEqD K) := by subst hK; exact op_eqD hu
theorem op_neDK (hu : X.A.units + 64 < cLine) (hK : X.K = K := by rfl) : OpR X (compareOp .NotEq) (rNeD K) := by subst hK; exact op_neD hu
theorem call_lenK (hK : X.K = K := by rfl) : CallR X (.builtin "len") (rLenS K) := by subst hK; exact call_len_seq
theorem call_listK (hK : X.K = K := by rfl) : CallR X (.type "list") (rListS K) := by subst hK; exact call_list_of
theorem call_isiK1 (hK : X.K = K := by rfl) : CallR X (.builtin "isinstance") (rIsi K) := by subst hK; exact call_isi
theorem cr_sumK (hc : X.calm = true) (hK : X.K = K := by rfl) : CallR X (.builtin "sum") (rSum K) := by subst hK; exact cr_sum hc
theorem cr_maxK (hc : X.calm = true) (hK : X.K = K := by rfl) : CallR X (.builtin "max") (rMax K) := by subst hK; exact cr_max hc
theorem mt_indexK (hK : X.K = K := by rfl) : MtR X "list.index" (rIndex K) := by subst hK; exact mt_index
theorem pe_fldK (he : PE X e ta) (hb : attributeBase e f X.env (eval e X.env) = eval e X.env) (hK : X.K = K := by rfl) : PE X (.Attribute e f pos) (tFld K ta f) := by subst hK; exact pe_fld he hb
end

/-! ### more of what evaluates to what -/
section
variable {K : PySem.W.Frag} {σ : L2.St} {H H' : Hp} {ta tb te tc : TE} {t u : TT} {x y z v w' : V} {r r' : R2} {a C dx : Addr} {fs : List (Str × V)} {f m : Str}
theorem ev_fld (h : Ev te σ H (.ref a)) (ho : H a = some (.ins C dx fs)) (hc : Cls K C) (hn : NoAttr K C f) (hl : fs.lookup f = some v) : Ev (tFld K te f) σ H v := fun H1 e Q q =>
  h H1 e _ fun H2 e2 => ⟨a, C, dx, fs, v, rfl, e2 a _ (e a _ ho), hc, hn, hl, q H2 e2⟩
theorem ev_meth {sp : Sp} {vs : List V} {E : XK} {tA : TA} (h : Ev te σ H (.ref a)) (ho : H a = some (.ins C dx fs)) (hl : fs.lookup m = none) (hA : EvA tA σ H vs) (hs : SpV sp (.ref a :: vs) H z) : Ev (tMeth C m sp [] E te tA) σ H z := fun H1 e Q q =>
  h H1 e _ fun H2 e2 => ⟨a, dx, fs, rfl, e2 a _ (e a _ ho), hl, hA H2 (e.trans e2) _ fun H3 e3 => by
    rw [List.append_nil]
    exact hs H3 ((e.trans e2).trans e3) Q (fun H4 e4 => q H4 ((e2.trans e3).trans e4)) E⟩
theorem el_meth {sp : Sp} {vs xs : List V} {E : XK} {tA : TA} (h : Ev te σ H (.ref a)) (ho : H a = some (.ins C dx fs)) (hl : fs.lookup m = none) (hA : EvA tA σ H vs) (hs : SpL sp (.ref a :: vs) H xs) : EvL (tMeth C m sp [] E te tA) σ H xs := fun H1 e Q q =>
  h H1 e _ fun H2 e2 => ⟨a, dx, fs, rfl, e2 a _ (e a _ ho), hl, hA H2 (e.trans e2) _ fun H3 e3 => by
    rw [List.append_nil]
    exact hs H3 ((e.trans e2).trans e3) Q (fun p H4 hp e4 h4 => q p H4 (fresh_back (e2.trans e3) hp) ((e2.trans e3).trans e4) h4) E⟩
theorem ev_call0 {sp : Sp} {vs : List V} {E : XK} {tA : TA} (h : EvA tA σ H vs) (hs : SpV sp vs H z) : Ev (tCall sp [] E tA) σ H z := ev_call h (by rw [List.append_nil]; exact hs)
theorem el_call0 {sp : Sp} {vs xs : List V} {E : XK} {tA : TA} (h : EvA tA σ H vs) (hs : SpL sp vs H xs) : EvL (tCall sp [] E tA) σ H xs := el_call h (by rw [List.append_nil]; exact hs)
theorem ev_chain {k1 k2 : Bool} (ha : Ev ta σ H x) (hb : Ev tb σ H y) (hc : k1 = true → Ev tc σ H w') (h1 : RV r x y H (.bl k1)) (h2 : k1 = true → RV r' y w' H (.bl k2)) : Ev (tChain r r' ta tb tc) σ H (.bl (k1 && k2)) := fun H1 e Q q =>
  ha H1 e _ fun H2 e2 => hb H2 (e.trans e2) _ fun H3 e3 => h1 H3 ((e.trans e2).trans e3) _ fun H4 e4 => ⟨k1, rfl, by
    cases k1 with
    | true =>
      show tc σ H4 fun w1 H5 => r' y w1 H5 Q
      exact hc rfl H4 (((e.trans e2).trans e3).trans e4) _ fun H5 e5 => h2 rfl H5 ((((e.trans e2).trans e3).trans e4).trans e5) _ fun H6 e6 => q H6 ((((e2.trans e3).trans e4).trans e5).trans e6)
    | false =>
      show Q (.bl false) H4
      exact q H4 ((e2.trans e3).trans e4)⟩
/-- len of a list -/
theorem ev_lenS {p : Addr} {xs : List V} (ha : Ev ta σ H (.ref p)) (h : SqL K H p xs) : Ev (tCB (rLenS K) (tCons ta tNil)) σ H (.int (xs.length : Int)) := ev_len ha h
/-- list(x) of a list -/
theorem el_listS {p : Addr} {xs : List V} (ha : Ev ta σ H (.ref p)) (h : SqL K H p xs) : EvL (tCB (rListS K) (tCons ta tNil)) σ H xs := el_list ha h
/-- list(x) of a new list -/
theorem el_listN {xs : List V} (ha : EvL ta σ H xs) : EvL (tCB (rListS K) (tCons ta tNil)) σ H xs := fun H1 e Q q =>
  ha H1 e _ fun p H2 _ e2 h2 => ⟨p, xs, rfl, .inl (sq_of h2), fun l hl => q l _ (fresh_back e2 hl) (e2.trans (Ex.new hl)) upd_same⟩
/-- a new list handed to a built-in -/
theorem ev_cbL {rr : List V → Hp → VK → Prop} {xs : List V} (h : EvL ta σ H xs) (hr : ∀ p H1, H1 p = some (.lst xs) → Ex H H1 → RC rr [.ref p] H1 z) : Ev (tCB rr (tCons ta tNil)) σ H z := fun H1 e Q q =>
  h H1 e _ fun p H2 _ e2 hp => hr p H2 hp (e.trans e2) H2 (Ex.refl H2) Q fun H3 e3 => q H3 (e2.trans e3)
theorem ev_opIx {p : Addr} {xs : List V} {i : Int} (ha : Ev ta σ H (.ref p)) (hb : Ev tb σ H (.int i)) (h : SqL K H p xs) (hi : atI xs i = some v) : Ev (tOp (rIxL K) ta tb) σ H v := ev_op ha hb (rv_ixL h hi)
theorem ev_opIxT {p : Addr} {xs : List V} {i : Int} (ha : Ev ta σ H (.ref p)) (hb : Ev tb σ H (.int i)) (h : SqT K H p xs) (hi : atI xs i = some v) : Ev (tOp (rIxT K) ta tb) σ H v := ev_op ha hb (rv_ixT h hi)
/-- an item of a new list -/
theorem ev_opIxN {xs : List V} {i : Int} (ha : EvL ta σ H xs) (hb : Ev tb σ H (.int i)) (hi : atI xs i = some v) : Ev (tOp (rIxL K) ta tb) σ H v := ev_opL1 ha (fun H1 e => hb.mono e) fun p H1 h e => rv_ixL (sq_of h) hi

/-! anything that comes of a read, told of the heaps ahead and behind -/
def EvP (te : TE) (σ : L2.St) (H : Hp) (P : V → Hp → Prop) : Prop := ∀ H1, Ex H H1 → ∀ Q : VK, (∀ v H2, Ex H1 H2 → P v H2 → Q v H2) → te σ H1 Q
def SpP (sp : Sp) (vs : List V) (H : Hp) (P : V → Hp → Prop) : Prop := ∀ H1, Ex H H1 → ∀ Q : VK, (∀ v H2, Ex H1 H2 → P v H2 → Q v H2) → ∀ E : XK, sp vs H1 Q E
def RetP (P : V → Hp → Prop) (H : Hp) (Q : VK) : Prop := ∀ v H2, Ex H H2 → P v H2 → Q v H2
theorem ep_call0 {sp : Sp} {vs : List V} {P : V → Hp → Prop} {E : XK} {tA : TA} (h : EvA tA σ H vs) (hs : SpP sp vs H P) : EvP (tCall sp [] E tA) σ H P := fun H1 e Q q =>
  h H1 e _ fun H2 e2 => by
    rw [List.append_nil]
    exact hs H2 (e.trans e2) Q (fun v H3 e3 p => q v H3 (e2.trans e3) p) E
theorem ep_meth {sp : Sp} {vs : List V} {P : V → Hp → Prop} {E : XK} {tA : TA} (h : Ev te σ H (.ref a)) (ho : H a = some (.ins C dx fs)) (hl : fs.lookup m = none) (hA : EvA tA σ H vs) (hs : SpP sp (.ref a :: vs) H P) : EvP (tMeth C m sp [] E te tA) σ H P := fun H1 e Q q =>
  h H1 e _ fun H2 e2 => ⟨a, dx, fs, rfl, e2 a _ (e a _ ho), hl, hA H2 (e.trans e2) _ fun H3 e3 => by
    rw [List.append_nil]
    exact hs H3 ((e.trans e2).trans e3) Q (fun v H4 e4 h4 => q v H4 ((e2.trans e3).trans e4) h4) E⟩
theorem ep_make {sp : Sp} {vs : List V} {P : V → Hp → Prop} {E : XK} {tA : TA} (h : EvA tA σ H vs)
    (hs : ∀ H1, Ex H H1 → ∀ x dx, H1 x = none → H1 dx = none → dx ≠ x → ∀ Q : VK, (∀ H2, Ex H1 H2 → P (.ref x) H2 → Q (.ref x) H2) → ∀ E : XK, sp (.ref x :: vs) (upd (upd H1 dx (.own x)) x (.ins C dx [])) (fun v H2 => v = .non ∧ Q (.ref x) H2) E) :
    EvP (tMake C sp [] E tA) σ H P := fun H1 e Q q => h H1 e _ fun H2 e2 x dx hx hdx ne => by
  rw [List.append_nil]
  exact hs H2 (e.trans e2) x dx hx hdx ne Q (fun H3 e3 p => q _ H3 (e2.trans e3) p) E
variable {D : Ends} {tu tw tz : TS}
/-- a method that may raise, called as a statement -/
theorem q_methX {sp : Sp} {vs : List V} {E : XK} {tA : TA} (h : Ev te σ H (.ref a)) (ho : H a = some (.ins C dx fs)) (hl : fs.lookup m = none) (hA : EvA tA σ H vs) (k : ∀ H1, Ex H H1 → sp (.ref a :: vs) H1 (fun _ H2 => tz D σ H2) E) :
    tSeq (tDrop (tMeth C m sp [] E te tA)) tz D σ H := h H (Ex.refl H) _ fun H1 e1 => ⟨a, dx, fs, rfl, e1 a _ ho, hl, hA H1 e1 _ fun H2 e2 => by
  rw [List.append_nil]
  exact k H2 (e1.trans e2)⟩
/-- o.f = e -/
theorem q_fld {P : V → Hp → Prop} (h : EvP te σ H P) (k : ∀ v H1, Ex H H1 → P v H1 → ∃ dx fs, Ev ta σ H1 (.ref a) ∧ H1 a = some (.ins C dx fs) ∧ Cls K C ∧ NoAttr K C f ∧ fs.length < 1000 ∧ ∀ H2, Ex H1 H2 → tz D σ (upd H2 a (.ins C dx (putF f v fs)))) :
    tSeq (sFld K ta te f) tz D σ H := h H (Ex.refl H) _ fun v H1 e1 p => by
  obtain ⟨dx, fs, h2, h3, h4, h5, h6, h7⟩ := k v H1 e1 p
  exact h2 H1 (Ex.refl H1) _ fun H2 e2 => ⟨a, C, dx, fs, rfl, e2 a _ h3, h4, h5, h6, h7 H2 e2⟩
theorem s_fld {P : V → Hp → Prop} (h : EvP te σ H P) (k : ∀ v H1, Ex H H1 → P v H1 → ∃ dx fs, Ev ta σ H1 (.ref a) ∧ H1 a = some (.ins C dx fs) ∧ Cls K C ∧ NoAttr K C f ∧ fs.length < 1000 ∧ ∀ H2, Ex H1 H2 → D.nx σ (upd H2 a (.ins C dx (putF f v fs)))) :
    sFld K ta te f D σ H := q_fld (tz := fun D σ H => D.nx σ H) (D := D) h k
theorem s_clear {l : Addr} {xs : List V} (hl : H l = some (.lst xs)) (ha : Ev ta σ H (.ref l)) (k : ∀ H1, Ex H H1 → D.nx σ (upd H1 l (.lst []))) : tDrop (tBM0 K "list" rClear ta) D σ H := ha H (Ex.refl H) _ fun H1 e1 =>
  ⟨Or.inl ⟨rfl, xs, sq_of (e1 l _ hl)⟩, l, xs, rfl, rfl, e1 l _ hl, k H1 e1⟩
theorem q_clear {l : Addr} {xs : List V} (hl : H l = some (.lst xs)) (ha : Ev ta σ H (.ref l)) (k : ∀ H1, Ex H H1 → tz D σ (upd H1 l (.lst []))) : tSeq (tDrop (tBM0 K "list" rClear ta)) tz D σ H := s_clear (D := { D with nx := tz D }) hl ha k
theorem no {p : Prop} (h : false = true) : p := Bool.noConfusion h
theorem no' {p : Prop} (h : true = false) : p := Bool.noConfusion h
theorem EvL.p {xs : List V} (h : EvL te σ H xs) : EvP te σ H (fun v H2 => ∃ p, v = .ref p ∧ H p = none ∧ H2 p = some (.lst xs)) := fun H1 e Q q => h H1 e _ fun p H2 hp e2 h2 => q _ H2 e2 ⟨p, rfl, fresh_back e hp, h2⟩
/-- two new lists in one -/
theorem el_catNN {xs ys : List V} (ha : EvL ta σ H xs) (hb : EvL tb σ H ys) (hz : xs.length + ys.length ≤ 100000) : EvL (tOp rCat ta tb) σ H (xs ++ ys) := fun H1 e Q q =>
  ha H1 e _ fun p H2 hp e2 h2 => hb H2 (e.trans e2) _ fun p2 H3 hp2 e3 h3 => ⟨p, p2, xs, ys, rfl, rfl, e3 p _ h2, h3, sz_of hz, fun l hl => q l _ (fresh_back (e2.trans e3) hl) ((e2.trans e3).trans (Ex.new hl)) upd_same⟩
/-- a list that stands (tracked), a new one -/
theorem el_catVN {p : Addr} {xs ys : List V} (ha : Ev ta σ H (.ref p)) (h : H p = some (.lst xs)) (hb : EvL tb σ H ys) (hz : xs.length + ys.length ≤ 100000) : EvL (tOp rCat ta tb) σ H (xs ++ ys) := fun H1 e Q q =>
  ha H1 e _ fun H2 e2 => hb H2 (e.trans e2) _ fun p2 H3 hp2 e3 h3 => ⟨p, p2, xs, ys, rfl, rfl, e3 p _ (e2 p _ (e p _ h)), h3, sz_of hz, fun l hl => q l _ (fresh_back (e2.trans e3) hl) ((e2.trans e3).trans (Ex.new hl)) upd_same⟩
theorem s_asgP {i : Nat} {P : V → Hp → Prop} (h : EvP te σ H P) (k : ∀ v H1, Ex H H1 → P v H1 → D.nx (σ.set i (some v)) H1) : tAsg te (gName i) D σ H := h H (Ex.refl H) _ fun v H1 e p => k v H1 e p
theorem q_asgP {i : Nat} {P : V → Hp → Prop} (h : EvP te σ H P) (k : ∀ v H1, Ex H H1 → P v H1 → tz D (σ.set i (some v)) H1) : tSeq (tAsg te (gName i)) tz D σ H := s_asgP (D := { D with nx := tz D }) h k
theorem s_retP {P : V → Hp → Prop} (h : EvP te σ H P) (k : ∀ v H1, Ex H H1 → P v H1 → D.rt v H1) : tRet te D σ H := h H (Ex.refl H) _ k
end

/-! ### lists of numbers -/
def vi (l : List Nat) : List V := l.map fun (n : Nat) => V.int (n : Int)
theorem vi_nil : vi [] = [] := rfl
theorem vi_cons (n : Nat) (l : List Nat) : vi (n :: l) = V.int (n : Int) :: vi l := rfl
theorem vi_app (l m : List Nat) : vi (l ++ m) = vi l ++ vi m := List.map_append
theorem vi_len (l : List Nat) : (vi l).length = l.length := List.length_map _
theorem vi_ints (l : List Nat) : vi l = (l.map fun (n : Nat) => (n : Int)).map V.int := by
  unfold vi
  rw [List.map_map]
  rfl
theorem vi_get {l : List Nat} {i n : Nat} (h : l[i]? = some n) : (vi l)[i]? = some (V.int (n : Int)) := by
  unfold vi
  rw [List.getElem?_map, h]
  rfl
theorem vi_get_of {l : List Nat} {i : Nat} {x : V} (h : (vi l)[i]? = some x) : ∃ n, l[i]? = some n ∧ x = V.int (n : Int) := by
  unfold vi at h
  rw [List.getElem?_map] at h
  cases e : l[i]? with
  | none => rw [e] at h; cases h
  | some n => rw [e] at h; exact ⟨n, rfl, (Option.some.inj h).symm⟩
theorem vi_at {l : List Nat} {i : Int} {j n : Nat} (e : i = (j : Int)) (h : l[j]? = some n) : atI (vi l) i = some (V.int (n : Int)) := at_of e (vi_get h)
theorem vi_flat (l : List Nat) : (vi l).all flatV = true := by
  induction l with
  | nil => rfl
  | cons n r ih => rw [vi_cons, List.all_cons, ih]; rfl
theorem eqV_nat (n m : Nat) : eqV (V.int (n : Int)) (V.int (m : Int)) = decide (n = m) := by
  show (((n : Int) == (m : Int)) : Bool) = _
  by_cases h : n = m
  · subst h; simp
  · have : ¬ ((n : Int) = (m : Int)) := by omega
    simp [h, this]
theorem vi_in (l : List Nat) (n : Nat) : inV (V.int (n : Int)) (vi l) = decide (n ∈ l) := by
  unfold inV
  induction l with
  | nil => simp [vi]
  | cons m r ih =>
    rw [vi_cons, List.any_cons, ih, eqV_nat]
    by_cases h : n = m
    · subst h; simp
    · by_cases h2 : n ∈ r
      · simp [h2]
      · have h3 : ¬ m = n := fun e => h e.symm
        simp [h, h2, h3]
theorem vi_inj : ∀ {l m : List Nat}, vi l = vi m → l = m
  | [], [], _ => rfl
  | [], _ :: _, h => by simp [vi] at h
  | _ :: _, [], h => by simp [vi] at h
  | a :: l, b :: m, h => by
    rw [vi_cons, vi_cons] at h
    injection h with h1 h2
    injection h1 with h1
    have : a = b := by omega
    rw [this, vi_inj h2]
theorem sum_cast (l : List Nat) : (l.map fun (n : Nat) => (n : Int)).sum = ((l.sum : Nat) : Int) := by
  induction l with
  | nil => rfl
  | cons n r ih => rw [List.map_cons, List.sum_cons, List.sum_cons, ih]; omega
end Fi
/-! More readings: data compared, isinstance, min, tuples and comprehensions made. -/
namespace Fi
open PySem L2 Evl
/-! ### data as a whole -/
def dI (l : List Nat) : PyData := .list (l.map fun (n : Nat) => PyData.int (n : Int))
theorem dpAll_vi {K : PySem.W.Frag} {H : Hp} : ∀ l : List Nat, DpAll K H (vi l) (l.map fun (n : Nat) => PyData.int (n : Int))
  | [] => .nil
  | n :: l => .cons (.int _) (dpAll_vi l)
theorem dp_vi {K : PySem.W.Frag} {H : Hp} {p : Addr} {l : List Nat} (h : SqL K H p (vi l)) : Dp K H (.ref p) (dI l) := .lst h (dpAll_vi l)
theorem canAll_ints : ∀ l : List Nat, PyData.canLayAll0 (l.map fun (n : Nat) => PyData.int (n : Int)) = true
  | [] => by simp [PyData.canLayAll0]
  | n :: l => by simp [PyData.canLayAll0, PyData.canLay0, canAll_ints l]
theorem depthAll_ints : ∀ l : List Nat, PyData.depthAll (l.map fun (n : Nat) => PyData.int (n : Int)) = 0
  | [] => by simp [PyData.depthAll]
  | n :: l => by simp [PyData.depthAll, PyData.depth, depthAll_ints l]
theorem can_dI (l : List Nat) : PyData.canLay0 (dI l) = true := by simp [dI, PyData.canLay0, canAll_ints]
theorem depth_dI (l : List Nat) : PyData.depth (dI l) = 1 := by simp [dI, PyData.depth, depthAll_ints]
theorem shaped_dI (l : List Nat) : SeqAt.shaped (dI l) = true := by
  unfold SeqAt.shaped
  rw [can_dI, depth_dI]
  rfl
theorem eqvAll_ints : ∀ l m : List Nat, PyData.eqvAll (l.map fun (n : Nat) => PyData.int (n : Int)) (m.map fun (n : Nat) => PyData.int (n : Int)) = decide (l = m)
  | [], [] => by simp [PyData.eqvAll]
  | [], _ :: _ => by simp [PyData.eqvAll]
  | _ :: _, [] => by simp [PyData.eqvAll]
  | a :: l, b :: m => by
    rw [List.map_cons, List.map_cons, PyData.eqvAll, eqvAll_ints l m]
    have e : PyData.eqv (.int (a : Int)) (.int (b : Int)) = decide (a = b) := by
      rw [PyData.eqv]
      by_cases h : a = b
      · subst h; simp
      · have : ¬ ((a : Int) = (b : Int)) := by omega
        simp [h, this]
    rw [e]
    by_cases h : a = b
    · by_cases h2 : l = m
      · simp [h, h2]
      · simp [h, h2]
    · simp [h]
theorem eqv_dI (l m : List Nat) : PyData.eqv (dI l) (dI m) = decide (l = m) := by
  unfold dI
  rw [PyData.eqv, eqvAll_ints]
theorem eqv_dII (a b c d : List Nat) : PyData.eqv (.list [dI a, dI b]) (.list [dI c, dI d]) = (decide (a = c) && decide (b = d)) := by
  rw [PyData.eqv, PyData.eqvAll, PyData.eqvAll, PyData.eqvAll, eqv_dI, eqv_dI, Bool.and_true]
theorem shaped_dII (a b : List Nat) : SeqAt.shaped (.list [dI a, dI b]) = true := by
  unfold SeqAt.shaped
  simp [PyData.canLay0, PyData.canLayAll0, can_dI, PyData.depth, PyData.depthAll, depth_dI]
section
variable {K : PySem.W.Frag} {σ : L2.St} {H H' : Hp} {ta tb te : TE} {t : TT} {x y z v : V}
theorem rv_neD {d e : PyData} (hd : ∀ H1, Ex H H1 → Dp K H1 x d) (he : ∀ H1, Ex H H1 → Dp K H1 y e) (sd : SeqAt.shaped d = true) (se : SeqAt.shaped e = true) : RV (rNeD K) x y H (.bl (!PyData.eqv d e)) := fun H1 e1 Q q =>
  ⟨d, e, hd H1 e1, he H1 e1, sd, se, q H1 (Ex.refl H1)⟩
theorem rv_eqD {d e : PyData} (hd : ∀ H1, Ex H H1 → Dp K H1 x d) (he : ∀ H1, Ex H H1 → Dp K H1 y e) (sd : SeqAt.shaped d = true) (se : SeqAt.shaped e = true) : RV (rEqD K) x y H (.bl (PyData.eqv d e)) := fun H1 e1 Q q =>
  ⟨d, e, hd H1 e1, he H1 e1, sd, se, q H1 (Ex.refl H1)⟩
/-- two lists of numbers that stand -/
theorem rv_neI {p q : Addr} {l m : List Nat} (h1 : SqL K H p (vi l)) (h2 : SqL K H q (vi m)) : RV (rNeD K) (.ref p) (.ref q) H (.bl (!decide (l = m))) := by
  rw [← eqv_dI]
  exact rv_neD (fun H1 e => dp_vi (ex_l e h1)) (fun H1 e => dp_vi (ex_l e h2)) (shaped_dI l) (shaped_dI m)
theorem rv_eqI {p q : Addr} {l m : List Nat} (h1 : SqL K H p (vi l)) (h2 : SqL K H q (vi m)) : RV (rEqD K) (.ref p) (.ref q) H (.bl (decide (l = m))) := by
  rw [← eqv_dI]
  exact rv_eqD (fun H1 e => dp_vi (ex_l e h1)) (fun H1 e => dp_vi (ex_l e h2)) (shaped_dI l) (shaped_dI m)
/-- a list against the empty list, made on the way -/
theorem ev_neNil {p : Addr} {l : List Nat} (ha : Ev ta σ H (.ref p)) (h : SqL K H p (vi l)) : Ev (tOp (rNeD K) ta (tLst tNil)) σ H (.bl (!decide (l = []))) :=
  ev_opL ha (el_lst ea_nil (Nat.zero_le _)) fun q H1 hq e => rv_neI (ex_l e h) (sq_of (xs := vi []) hq)
theorem ev_eqNil {p : Addr} {l : List Nat} (ha : Ev ta σ H (.ref p)) (h : SqL K H p (vi l)) : Ev (tOp (rEqD K) ta (tLst tNil)) σ H (.bl (decide (l = []))) :=
  ev_opL ha (el_lst ea_nil (Nat.zero_le _)) fun q H1 hq e => rv_eqI (ex_l e h) (sq_of (xs := vi []) hq)
/-- a new list against the empty list -/
theorem ev_neNilN {l : List Nat} (ha : EvL ta σ H (vi l)) : Ev (tOp (rNeD K) ta (tLst tNil)) σ H (.bl (!decide (l = []))) :=
  ev_opLL ha (el_lst ea_nil (Nat.zero_le _)) fun p q H1 hp hq e => rv_neI (sq_of hp) (sq_of (xs := vi []) hq)
theorem ev_eqNilN {l : List Nat} (ha : EvL ta σ H (vi l)) : Ev (tOp (rEqD K) ta (tLst tNil)) σ H (.bl (decide (l = []))) :=
  ev_opLL ha (el_lst ea_nil (Nat.zero_le _)) fun p q H1 hp hq e => rv_eqI (sq_of hp) (sq_of (xs := vi []) hq)
/-! ### isinstance, min, max, sum by values -/
theorem rc_isi {c : V} {tt u : Value} {b : Bool} (hc : ClsV c u) (ht : ∀ H1, Ex H H1 → TyX K H1 x tt) (hk : PySem.W.kitOne K tt u = some b) : RC (rIsi K) [x, c] H (.bl b) := fun H1 e Q q => ⟨x, c, tt, u, b, rfl, hc, ht H1 e, hk, q H1 (Ex.refl H1)⟩
theorem ev_isiInt {i : Int} {b : Bool} {s : String} (h : Ev ta σ H (.int i)) (hk : kitB "int" s = some b) : Ev (tCB (rIsi K) (tCons ta (tCons (tC (.ty s)) tNil))) σ H (.bl b) :=
  ev_cb (ea_cons h (ea_cons ev_c ea_nil)) (rc_isi (.ty s) (fun _ _ => .base (.int i)) (kit_ty hk))
theorem ev_isiLst {p : Addr} {xs : List V} {b : Bool} {s : String} (h : Ev ta σ H (.ref p)) (hp : H p = some (.lst xs)) (hk : kitB "list" s = some b) : Ev (tCB (rIsi K) (tCons ta (tCons (tC (.ty s)) tNil))) σ H (.bl b) :=
  ev_cb (ea_cons h (ea_cons ev_c ea_nil)) (rc_isi (.ty s) (fun H1 e => .base (.lst (e p _ hp))) (kit_ty hk))
theorem ev_isiTup {p : Addr} {xs : List V} {b : Bool} {s : String} (h : Ev ta σ H (.ref p)) (hp : H p = some (.tup xs)) (hk : kitB "tuple" s = some b) : Ev (tCB (rIsi K) (tCons ta (tCons (tC (.ty s)) tNil))) σ H (.bl b) :=
  ev_cb (ea_cons h (ea_cons ev_c ea_nil)) (rc_isi (.ty s) (fun H1 e => .base (.tup (e p _ hp))) (kit_ty hk))
theorem rc_min2 {i j : Int} : RC (fun xs H Q => ∃ i j, xs = [.int i, .int j] ∧ Q (.int (if j < i then j else i)) H) [.int i, .int j] H (.int (if j < i then j else i)) := fun H1 _ _ q => ⟨i, j, rfl, q H1 (Ex.refl H1)⟩
theorem rc_max2 {i j : Int} : RC (fun xs H Q => ∃ i j, xs = [.int i, .int j] ∧ Q (.int (if j > i then j else i)) H) [.int i, .int j] H (.int (if j > i then j else i)) := fun H1 _ _ q => ⟨i, j, rfl, q H1 (Ex.refl H1)⟩
theorem rc_sum {p : Addr} {l : List Nat} (h : SqL K H p (vi l)) : RC (rSum K) [.ref p] H (.int ((l.sum : Nat) : Int)) := fun H1 e Q q => ⟨p, l.map fun (n : Nat) => (n : Int), rfl, by rw [← vi_ints]; exact ex_l e h, by rw [sum_cast]; exact q H1 (Ex.refl H1)⟩
/-- sum of a new list -/
theorem ev_sumN {l : List Nat} (h : EvL ta σ H (vi l)) : Ev (tCB (rSum K) (tCons ta tNil)) σ H (.int ((l.sum : Nat) : Int)) := ev_cbL h fun p H1 hp _ => rc_sum (sq_of hp)
/-! ### two new lists in a tuple, in a list -/
theorem ep_tupLL {xs ys : List V} (ha : EvL ta σ H xs) (hb : EvL tb σ H ys) : EvP (tTup (tCons ta (tCons tb tNil))) σ H (fun v H2 => ∃ t p q, v = .ref t ∧ H2 t = some (.tup [.ref p, .ref q]) ∧ H2 p = some (.lst xs) ∧ H2 q = some (.lst ys)) := fun H1 e Q k =>
  ha H1 e _ fun p H2 hp e2 h2 => hb H2 (e.trans e2) _ fun q H3 hq e3 h3 => ⟨by show 2 ≤ sizeLine; decide, fun t ht => k _ _ ((e2.trans e3).trans (Ex.new ht)) ⟨t, p, q, rfl, upd_same, Ex.new ht p _ (e3 p _ h2), Ex.new ht q _ h3⟩⟩
theorem ep_tupVL {ys : List V} (ha : Ev ta σ H x) (hb : EvL tb σ H ys) : EvP (tTup (tCons ta (tCons tb tNil))) σ H (fun v H2 => ∃ t q, v = .ref t ∧ H2 t = some (.tup [x, .ref q]) ∧ H2 q = some (.lst ys)) := fun H1 e Q k =>
  ha H1 e _ fun H2 e2 => hb H2 (e.trans e2) _ fun q H3 hq e3 h3 => ⟨by show 2 ≤ sizeLine; decide, fun t ht => k _ _ ((e2.trans e3).trans (Ex.new ht)) ⟨t, q, rfl, upd_same, Ex.new ht q _ h3⟩⟩
/-- two new lists in a new list; all three are new -/
theorem ep_lstLL {xs ys : List V} (ha : EvL ta σ H xs) (hb : EvL tb σ H ys) : EvP (tLst (tCons ta (tCons tb tNil))) σ H (fun v H2 => ∃ t p q, v = .ref t ∧ H t = none ∧ H p = none ∧ H q = none ∧ p ≠ q ∧ p ≠ t ∧ q ≠ t ∧ H2 t = some (.lst [.ref p, .ref q]) ∧ H2 p = some (.lst xs) ∧ H2 q = some (.lst ys)) := fun H1 e Q k =>
  ha H1 e _ fun p H2 hp e2 h2 => hb H2 (e.trans e2) _ fun q H3 hq e3 h3 => ⟨by show 2 ≤ sizeLine; decide, fun t ht =>
    k _ _ ((e2.trans e3).trans (Ex.new ht)) ⟨t, p, q, rfl, fresh_back ((e.trans e2).trans e3) ht, fresh_back e hp, fresh_back (e.trans e2) hq, ne_of_none h2 hq, ne_of_none (e3 p _ h2) ht, ne_of_none h3 ht, upd_same, Ex.new ht p _ (e3 p _ h2), Ex.new ht q _ h3⟩⟩
/-! ### comprehensions -/
theorem et_yes : EvT tYes σ H true := fun H1 _ _ q => q H1 (Ex.refl H1)
theorem given_all (n : Nat) (v : Nat → V) : given n (fun _ => true) v = (List.range n).map v := by
  unfold given
  rw [List.filter_eq_self.mpr (by simp)]
theorem given_vi {n : Nat} {g : Nat → Nat} {v : Nat → V} (h : ∀ i, i < n → v i = V.int ((g i : Nat) : Int)) : given n (fun _ => true) v = vi ((List.range n).map g) := by
  rw [given_all]
  unfold vi
  rw [List.map_map]
  exact List.map_congr_left fun i hi => h i (List.mem_range.mp hi)
theorem el_is {xs ys : List V} (h : EvL te σ H xs) (e : xs = ys) : EvL te σ H ys := e ▸ h
/-- [e for i in range(n)], whole numbers made -/
theorem el_lcR1v {tA : TA} {j : Nat} {vs : List Nat} {n : Nat} (g : Nat → Nat) (h : EvA tA σ H [.int (n : Int)]) (hn : n ≤ 40000) (hw : ∀ x, wipe ((wipe σ vs).set j (some x)) vs = wipe σ vs)
    (he : ∀ (i : Nat) H1, Ex H H1 → i < n → Ev te ((wipe σ vs).set j (some (.int (i : Int)))) H1 (.int ((g i : Nat) : Int))) : EvL (tLc (iRng1 tA) (gName j) tYes te vs) σ H (vi ((List.range n).map g)) := by
  have q := el_lcR1 (t := tYes) (te := te) (σ := σ) (H := H) (ta := tA) (j := j) (vs := vs) (n := (n : Int)) (fun _ => true) (fun i => V.int ((g i : Nat) : Int)) h ⟨by omega, by omega⟩ hw (fun _ _ _ _ => et_yes) (fun i H1 e hi _ => he i H1 e (by omega))
  rw [Int.toNat_natCast, given_vi fun i _ => rfl] at q
  exact q
theorem range_map_get (l : List Nat) (g : Nat → Nat) : (List.range l.length).map (fun i => g (l.getD i 0)) = l.map g := by
  refine List.ext_getElem ?_ fun i h1 h2 => ?_
  · simp
  · rw [List.length_map, List.length_range] at h1
    simp only [List.getElem_map, List.getElem_range]
    rw [List.getD_eq_getElem?_getD, List.getElem?_eq_getElem h1]
    rfl
/-- [e for n in l], l a list of numbers that stands, whole numbers made -/
theorem el_lcLv {a : Addr} {l : List Nat} {tl : TE} {j : Nat} {vs : List Nat} (g : Nat → Nat) (h : Ev tl σ H (.ref a)) (hx : SqL K H a (vi l)) (hz : l.length ≤ 40000) (hw : ∀ x, wipe ((wipe σ vs).set j (some x)) vs = wipe σ vs)
    (he : ∀ (n : Nat) H1, Ex H H1 → n ∈ l → Ev te ((wipe σ vs).set j (some (.int (n : Int)))) H1 (.int ((g n : Nat) : Int))) : EvL (tLc (iList K tl) (gName j) tYes te vs) σ H (vi (l.map g)) := by
  have q := el_lcL (t := tYes) (te := te) (K := K) (σ := σ) (H := H) (a := a) (xs := vi l) (tl := tl) (j := j) (vs := vs) (fun _ => true) (fun i => V.int ((g (l.getD i 0) : Nat) : Int)) h hx (by rw [vi_len]; exact hz) hw (fun _ _ _ _ _ => et_yes) (fun i x H1 e hi _ => by
    obtain ⟨n, hn, rfl⟩ := vi_get_of hi
    have e1 : l.getD i 0 = n := by rw [List.getD_eq_getElem?_getD, hn]; rfl
    show Ev te _ H1 (.int ((g (l.getD i 0) : Nat) : Int))
    rw [e1]
    exact he n H1 e (List.mem_of_getElem? hn))
  rw [vi_len, given_vi (g := fun i => g (l.getD i 0)) fun i _ => rfl, range_map_get] at q
  exact q
theorem el_lcNLv {l : List Nat} {tl : TE} {j : Nat} {vs : List Nat} (g : Nat → Nat) (h : EvL tl σ H (vi l)) (hz : l.length ≤ 40000) (hw : ∀ x, wipe ((wipe σ vs).set j (some x)) vs = wipe σ vs)
    (he : ∀ (n : Nat) H1, Ex H H1 → n ∈ l → Ev te ((wipe σ vs).set j (some (.int (n : Int)))) H1 (.int ((g n : Nat) : Int))) : EvL (tLc (iList K tl) (gName j) tYes te vs) σ H (vi (l.map g)) := by
  have q := el_lcNL (t := tYes) (te := te) (K := K) (σ := σ) (H := H) (xs := vi l) (tl := tl) (j := j) (vs := vs) (fun _ => true) (fun i => V.int ((g (l.getD i 0) : Nat) : Int)) h (by rw [vi_len]; exact hz) hw (fun _ _ _ _ _ => et_yes) (fun i x H1 e hi _ => by
    obtain ⟨n, hn, rfl⟩ := vi_get_of hi
    have e1 : l.getD i 0 = n := by rw [List.getD_eq_getElem?_getD, hn]; rfl
    show Ev te _ H1 (.int ((g (l.getD i 0) : Nat) : Int))
    rw [e1]
    exact he n H1 e (List.mem_of_getElem? hn))
  rw [vi_len, given_vi (g := fun i => g (l.getD i 0)) fun i _ => rfl, range_map_get] at q
  exact q
theorem filter_get (l : List Nat) (f : Nat → Bool) : ((List.range l.length).filter fun i => f (l.getD i 0)).map (fun i => l.getD i 0) = l.filter f := by
  have e : (List.range l.length).map (fun i => l.getD i 0) = l := by
    have := range_map_get l id
    rw [List.map_id] at this
    exact this
  conv => rhs; rw [← e]
  rw [List.filter_map]
  rfl
end
/-! ### a plot: a tuple of elders and worths -/
def PlotAt (H : Hp) (p : Addr) (es ws : List Nat) : Prop := ∃ pe pw, H p = some (.tup [.ref pe, .ref pw]) ∧ H pe = some (.lst (vi es)) ∧ H pw = some (.lst (vi ws))
theorem PlotAt.mono {H H' : Hp} {p : Addr} {es ws : List Nat} (h : PlotAt H p es ws) (e : Ex H H') : PlotAt H' p es ws := by
  obtain ⟨pe, pw, h1, h2, h3⟩ := h
  exact ⟨pe, pw, e _ _ h1, e _ _ h2, e _ _ h3⟩
theorem tup0 {K : PySem.W.Frag} {H : Hp} {p : Addr} {x y : V} (h : H p = some (.tup [x, y])) : SqT K H p [x, y] := st_of h
theorem dec_int {a b : Nat} : decide (V.int (a : Int) = V.int (b : Int)) = decide (a = b) := by
  by_cases h : a = b
  · subst h; simp
  · have h2 : ¬ (V.int (a : Int) = V.int (b : Int)) := fun e => h (by injection e with e; omega)
    rw [decide_eq_false h, decide_eq_false h2]
theorem getD_get {l : List Nat} {n : Nat} (h : n < l.length) : l[n]? = some (l.getD n 0) := by
  rw [List.getD_eq_getElem?_getD, List.getElem?_eq_getElem h]
  rfl
end Fi
/-! Rows: lists of lists; plans; readings for them. -/
namespace Fi
open PySem L2 Evl
def oV : Option Int → V
  | none => .non
  | some z => .int z
theorem oV_get {plan : List (Option Int)} {i : Nat} {o : Option Int} (h : plan[i]? = some o) : (plan.map oV)[i]? = some (oV o) := by
  rw [List.getElem?_map, h]
  rfl
theorem oV_some (l : List Nat) : (l.map fun (n : Nat) => some (n : Int)).map oV = vi l := by
  unfold vi
  rw [List.map_map]
  rfl
/-- the addresses rs hold the rows -/
def RowsL (H : Hp) : List Addr → List (List Nat) → Prop
  | [], [] => True
  | a :: as, r :: rs => H a = some (.lst (vi r)) ∧ RowsL H as rs
  | _, _ => False
theorem RowsL.len {H : Hp} : ∀ {rs : List Addr} {rows : List (List Nat)}, RowsL H rs rows → rs.length = rows.length
  | [], [], _ => rfl
  | _ :: _, _ :: _, h => by rw [List.length_cons, List.length_cons, RowsL.len h.2]
  | [], _ :: _, h => h.elim
  | _ :: _, [], h => h.elim
theorem RowsL.mono {H H' : Hp} : ∀ {rs : List Addr} {rows : List (List Nat)}, RowsL H rs rows → (∀ a o, a ∈ rs → H a = some o → H' a = some o) → RowsL H' rs rows
  | [], [], _, _ => trivial
  | a :: as, _ :: _, h, k => ⟨k a _ List.mem_cons_self h.1, RowsL.mono h.2 fun b o hb => k b o (List.mem_cons_of_mem _ hb)⟩
  | [], _ :: _, h, _ => h.elim
  | _ :: _, [], h, _ => h.elim
theorem RowsL.snoc {H : Hp} {a : Addr} {r : List Nat} (ha : H a = some (.lst (vi r))) : ∀ {rs : List Addr} {rows : List (List Nat)}, RowsL H rs rows → RowsL H (rs ++ [a]) (rows ++ [r])
  | [], [], _ => ⟨ha, trivial⟩
  | _ :: _, _ :: _, h => ⟨h.1, RowsL.snoc ha h.2⟩
  | [], _ :: _, h => h.elim
  | _ :: _, [], h => h.elim
theorem RowsL.get {H : Hp} : ∀ {rs : List Addr} {rows : List (List Nat)} {i : Nat} {r : List Nat}, RowsL H rs rows → rows[i]? = some r → ∃ a, rs[i]? = some a ∧ a ∈ rs ∧ H a = some (.lst (vi r))
  | [], [], i, _, _, h => by cases i <;> cases h
  | a :: as, r :: _, 0, _, h, e => by cases e; exact ⟨a, rfl, List.mem_cons_self, h.1⟩
  | a :: as, _ :: _, i + 1, r, h, e => by
    obtain ⟨b, h1, h2, h3⟩ := RowsL.get (i := i) (r := r) h.2 e
    exact ⟨b, h1, List.mem_cons_of_mem _ h2, h3⟩
  | [], _ :: _, _, _, h, _ => h.elim
  | _ :: _, [], _, _, h, _ => h.elim
theorem RowsL.drop {H : Hp} : ∀ {rs : List Addr} {rows : List (List Nat)}, RowsL H rs rows → RowsL H rs.dropLast rows.dropLast
  | [], [], _ => trivial
  | [a], [r], _ => trivial
  | a :: b :: as, r :: q :: rs, h => ⟨h.1, RowsL.drop (rs := b :: as) (rows := q :: rs) h.2⟩
  | [], _ :: _, h => h.elim
  | _ :: _, [], h => h.elim
  | [_], _ :: _ :: _, h => h.2.elim
  | _ :: _ :: _, [_], h => h.2.elim
theorem RowsL.mem {H : Hp} : ∀ {rs : List Addr} {rows : List (List Nat)} {a : Addr}, RowsL H rs rows → a ∈ rs → ∃ r, r ∈ rows ∧ H a = some (.lst (vi r))
  | [], [], _, _, h => by cases h
  | a :: as, r :: rs, b, h, e => by
    rcases List.mem_cons.mp e with rfl | e
    · exact ⟨r, List.mem_cons_self, h.1⟩
    · obtain ⟨q, h1, h2⟩ := RowsL.mem h.2 e
      exact ⟨q, List.mem_cons_of_mem _ h1, h2⟩
  | [], _ :: _, _, h, _ => h.elim
  | _ :: _, [], _, h, _ => h.elim
theorem last_idx {α : Type} {l : List α} {x : α} (h : l.getLast? = some x) : l[l.length - 1]? = some x := by
  rw [← List.getLast?_eq_getElem?]
  exact h
theorem refs_last {rs : List Addr} {a : Addr} (h : rs[rs.length - 1]? = some a) (hn : rs ≠ []) : atI (rs.map V.ref) (-1) = some (V.ref a) := by
  have hl : 0 < rs.length := List.length_pos_iff.mpr hn
  unfold atI ixN
  rw [List.length_map, if_neg (by decide), if_pos (by omega)]
  show (rs.map V.ref)[(-1 + (rs.length : Int)).toNat]? = _
  rw [show (-1 + (rs.length : Int)).toNat = rs.length - 1 by omega, List.getElem?_map, h]
  rfl
section
variable {K : PySem.W.Frag} {σ : L2.St} {H H' : Hp} {ta tb te : TE} {t : TT} {x y z v : V} {D : Ends} {tz : TS}
/-- [[..]]: a new list in a new list -/
theorem ep_lstL1 {xs : List V} (ha : EvL ta σ H xs) : EvP (tLst (tCons ta tNil)) σ H (fun v H2 => ∃ t p, v = .ref t ∧ H t = none ∧ H p = none ∧ p ≠ t ∧ H2 t = some (.lst [.ref p]) ∧ H2 p = some (.lst xs)) := fun H1 e Q k =>
  ha H1 e _ fun p H2 hp e2 h2 => ⟨by show 1 ≤ sizeLine; decide, fun t ht => k _ _ (e2.trans (Ex.new ht)) ⟨t, p, rfl, fresh_back (e.trans e2) ht, fresh_back e hp, ne_of_none h2 ht, upd_same, Ex.new ht p _ h2⟩⟩
/-- xs.extend(ys) -/
theorem s_ext {l b : Addr} {xs ys : List V} (hl : H l = some (.lst xs)) (hb : H b = some (.lst ys)) (ha : Ev ta σ H (.ref l)) (h : Ev te σ H (.ref b)) (hz : xs.length + ys.length ≤ 100000) (k : ∀ H1, Ex H H1 → D.nx σ (upd H1 l (.lst (xs ++ ys)))) :
    tDrop (tBM K "list" rExtend ta (tCons te tNil)) D σ H := ha H (Ex.refl H) _ fun H1 e1 =>
  ⟨Or.inl ⟨rfl, xs, sq_of (e1 l _ hl)⟩, h H1 e1 _ fun H2 e2 => ⟨l, b, xs, ys, rfl, rfl, e2 l _ (e1 l _ hl), e2 b _ (e1 b _ hb), sz_of hz, k H2 (e1.trans e2)⟩⟩
theorem q_ext {l b : Addr} {xs ys : List V} (hl : H l = some (.lst xs)) (hb : H b = some (.lst ys)) (ha : Ev ta σ H (.ref l)) (h : Ev te σ H (.ref b)) (hz : xs.length + ys.length ≤ 100000) (k : ∀ H1, Ex H H1 → tz D σ (upd H1 l (.lst (xs ++ ys)))) :
    tSeq (tDrop (tBM K "list" rExtend ta (tCons te tNil))) tz D σ H := s_ext (D := { D with nx := tz D }) hl hb ha h hz k
/-- xs.extend(a new list) -/
theorem s_extN {l : Addr} {xs ys : List V} (hl : H l = some (.lst xs)) (ha : Ev ta σ H (.ref l)) (h : EvL te σ H ys) (hz : xs.length + ys.length ≤ 100000) (k : ∀ H1, Ex H H1 → D.nx σ (upd H1 l (.lst (xs ++ ys)))) :
    tDrop (tBM K "list" rExtend ta (tCons te tNil)) D σ H := ha H (Ex.refl H) _ fun H1 e1 =>
  ⟨Or.inl ⟨rfl, xs, sq_of (e1 l _ hl)⟩, h H1 e1 _ fun b H2 hb e2 h2 => ⟨l, b, xs, ys, rfl, rfl, e2 l _ (e1 l _ hl), h2, sz_of hz, k H2 (e1.trans e2)⟩⟩
theorem q_extN {l : Addr} {xs ys : List V} (hl : H l = some (.lst xs)) (ha : Ev ta σ H (.ref l)) (h : EvL te σ H ys) (hz : xs.length + ys.length ≤ 100000) (k : ∀ H1, Ex H H1 → tz D σ (upd H1 l (.lst (xs ++ ys)))) :
    tSeq (tDrop (tBM K "list" rExtend ta (tCons te tNil))) tz D σ H := s_extN (D := { D with nx := tz D }) hl ha h hz k
/-- xs.pop() as a statement -/
theorem s_pop {l : Addr} {xs : List V} {y : V} (hl : H l = some (.lst xs)) (hy : xs[xs.length - 1]? = some y) (ha : Ev ta σ H (.ref l)) (k : ∀ H1, Ex H H1 → D.nx σ (upd H1 l (.lst xs.dropLast))) : tDrop (tBM0 K "list" rPop ta) D σ H := ha H (Ex.refl H) _ fun H1 e1 =>
  ⟨Or.inl ⟨rfl, xs, sq_of (e1 l _ hl)⟩, l, xs, y, rfl, rfl, e1 l _ hl, hy, k H1 e1⟩
/-- an item of a tuple that a read gives -/
theorem ep_ixT {P P' : V → Hp → Prop} {i : Int} (h : EvP te σ H P) (hb : Ev tb σ H (.int i)) (k : ∀ v H2 H3, Ex H H2 → Ex H2 H3 → P v H2 → ∃ t xs x, v = .ref t ∧ SqT K H3 t xs ∧ atI xs i = some x ∧ P' x H3) : EvP (tOp (rIxT K) te tb) σ H P' := fun H1 e Q q =>
  h H1 e _ fun v H2 e2 p => hb H2 (e.trans e2) _ fun H3 e3 => by
    obtain ⟨t, xs, x, rfl, h1, h2, h3⟩ := k v H2 H3 (e.trans e2) e3 p
    exact ⟨t, xs, i, x, rfl, rfl, h1, h2, q x H3 (e2.trans e3) h3⟩
theorem ev_opNotN (h : Ev ta σ H x) : Ev (tOp (fun x y H Q => y = .non ∧ Q (.bl (!decide (x = .non))) H) ta (tC .non)) σ H (.bl (!decide (x = .non))) := ev_op h ev_c fun H1 _ _ q => ⟨rfl, q H1 (Ex.refl H1)⟩
theorem ev_opIsN (h : Ev ta σ H x) : Ev (tOp (fun x y H Q => y = .non ∧ Q (.bl (decide (x = .non))) H) ta (tC .non)) σ H (.bl (decide (x = .non))) := ev_op h ev_c fun H1 _ _ q => ⟨rfl, q H1 (Ex.refl H1)⟩
/-- the last row against [] -/
theorem ev_neLast {l : Addr} {rs : List Addr} {rows : List (List Nat)} {r : List Nat} (ha : Ev ta σ H (.ref l)) (hb : Ev tb σ H (.int (-1))) (h : H l = some (.lst (rs.map V.ref))) (R : RowsL H rs rows) (hl : rows.getLast? = some r) : Ev (tOp (rNeD K) (tOp (rIxL K) ta tb) (tLst tNil)) σ H (.bl (!decide (r = []))) := by
  obtain ⟨a, h1, h2, h3⟩ := R.get (last_idx hl)
  rw [← R.len] at h1
  exact ev_neNil (ev_opIx ha hb (sq_of h) (refs_last h1 (fun e => by rw [e] at h2; cases h2))) (sq_of h3)
theorem ev_eqLast {l : Addr} {rs : List Addr} {rows : List (List Nat)} {r : List Nat} (ha : Ev ta σ H (.ref l)) (hb : Ev tb σ H (.int (-1))) (h : H l = some (.lst (rs.map V.ref))) (R : RowsL H rs rows) (hl : rows.getLast? = some r) : Ev (tOp (rEqD K) (tOp (rIxL K) ta tb) (tLst tNil)) σ H (.bl (decide (r = []))) := by
  obtain ⟨a, h1, h2, h3⟩ := R.get (last_idx hl)
  rw [← R.len] at h1
  exact ev_eqNil (ev_opIx ha hb (sq_of h) (refs_last h1 (fun e => by rw [e] at h2; cases h2))) (sq_of h3)
theorem rv_inI {neg : Bool} {p : Addr} {l : List Nat} {n : Nat} (h : SqL K H p (vi l)) : RV (rIn K neg) (.int (n : Int)) (.ref p) H (.bl (if neg then !decide (n ∈ l) else decide (n ∈ l))) := by
  have q := rv_inL (K := K) (neg := neg) (x := .int (n : Int)) h rfl (vi_flat l)
  rw [vi_in] at q
  exact q
theorem rv_isI {p : Addr} {l : List Nat} {n : Nat} (h : SqL K H p (vi l)) : RV (rIn K false) (.int (n : Int)) (.ref p) H (.bl (decide (n ∈ l))) := rv_inI h
theorem rv_niI {p : Addr} {l : List Nat} {n : Nat} (h : SqL K H p (vi l)) : RV (rIn K true) (.int (n : Int)) (.ref p) H (.bl (!decide (n ∈ l))) := rv_inI h
/-- [e for i in range(n) if t], whole numbers made -/
theorem el_lcR1f {tA : TA} {j : Nat} {vs : List Nat} {n : Nat} (f : Nat → Bool) (g : Nat → Nat) (h : EvA tA σ H [.int (n : Int)]) (hn : n ≤ 40000) (hw : ∀ x, wipe ((wipe σ vs).set j (some x)) vs = wipe σ vs)
    (ht : ∀ (i : Nat) H1, Ex H H1 → i < n → EvT t ((wipe σ vs).set j (some (.int (i : Int)))) H1 (f i)) (he : ∀ (i : Nat) H1, Ex H H1 → i < n → f i = true → Ev te ((wipe σ vs).set j (some (.int (i : Int)))) H1 (.int ((g i : Nat) : Int))) :
    EvL (tLc (iRng1 tA) (gName j) t te vs) σ H (vi (((List.range n).filter f).map g)) := by
  have q := el_lcR1 (t := t) (te := te) (σ := σ) (H := H) (ta := tA) (j := j) (vs := vs) (n := (n : Int)) f (fun i => V.int ((g i : Nat) : Int)) h ⟨by omega, by omega⟩ hw (fun i H1 e hi => ht i H1 e (by omega)) (fun i H1 e hi hf => he i H1 e (by omega) hf)
  rw [Int.toNat_natCast] at q
  unfold given at q
  unfold vi
  rw [List.map_map]
  exact q
/-- [n for n in l if t] -/
theorem el_lcLf {a : Addr} {l : List Nat} {tl : TE} {j : Nat} {vs : List Nat} (f : Nat → Bool) (h : Ev tl σ H (.ref a)) (hx : SqL K H a (vi l)) (hz : l.length ≤ 40000) (hw : ∀ x, wipe ((wipe σ vs).set j (some x)) vs = wipe σ vs)
    (ht : ∀ (n : Nat) H1, Ex H H1 → n ∈ l → EvT t ((wipe σ vs).set j (some (.int (n : Int)))) H1 (f n)) (he : ∀ (n : Nat) H1, Ex H H1 → n ∈ l → f n = true → Ev te ((wipe σ vs).set j (some (.int (n : Int)))) H1 (.int (n : Int))) : EvL (tLc (iList K tl) (gName j) t te vs) σ H (vi (l.filter f)) := by
  have q := el_lcL (t := t) (te := te) (K := K) (σ := σ) (H := H) (a := a) (xs := vi l) (tl := tl) (j := j) (vs := vs) (fun i => f (l.getD i 0)) (fun i => V.int ((l.getD i 0 : Nat) : Int)) h hx (by rw [vi_len]; exact hz) hw (fun i x H1 e hi => by
    obtain ⟨n, hn, rfl⟩ := vi_get_of hi
    have e1 : l.getD i 0 = n := by rw [List.getD_eq_getElem?_getD, hn]; rfl
    rw [e1]
    exact ht n H1 e (List.mem_of_getElem? hn)) (fun i x H1 e hi hf => by
    obtain ⟨n, hn, rfl⟩ := vi_get_of hi
    have e1 : l.getD i 0 = n := by rw [List.getD_eq_getElem?_getD, hn]; rfl
    show Ev te _ H1 (.int ((l.getD i 0 : Nat) : Int))
    rw [e1] at hf ⊢
    exact he n H1 e (List.mem_of_getElem? hn) hf)
  rw [vi_len] at q
  rw [← filter_get l f]
  unfold given at q
  unfold vi
  rw [List.map_map]
  exact q
end
/-- [n for n in range(a, b) if t] -/
theorem el_lcR2f {σ : L2.St} {H : Hp} {t : TT} {te : TE} {tA : TA} {j : Nat} {vs : List Nat} {lo n : Nat} (f : Nat → Bool) (h : EvA tA σ H [.int (lo : Int), .int ((lo + n : Nat) : Int)]) (hn : lo + n ≤ 40000) (hw : ∀ x, wipe ((wipe σ vs).set j (some x)) vs = wipe σ vs)
    (ht : ∀ (i : Nat) H1, Ex H H1 → i < n → EvT t ((wipe σ vs).set j (some (.int ((lo + i : Nat) : Int)))) H1 (f (lo + i))) (he : ∀ (i : Nat) H1, Ex H H1 → i < n → f (lo + i) = true → Ev te ((wipe σ vs).set j (some (.int ((lo + i : Nat) : Int)))) H1 (.int ((lo + i : Nat) : Int))) :
    EvL (tLc (iRng2 tA) (gName j) t te vs) σ H (vi ((List.range' lo n).filter f)) := fun H0 e Q q => h H0 e _ fun H1 e1 => ⟨(lo : Int), ((lo + n : Nat) : Int), rfl, ⟨by omega, by omega, by omega, by omega⟩, fun Dl hD => by
  rw [show (((lo + n : Nat) : Int) - (lo : Int)).toNat = n by omega]
  refine lc_range (lo := (lo : Int)) (n := n) (fun i H' => H1 Dl = none ∧ Ex H1 H' ∧ H' Dl = some (.lst (vi ((List.range' lo i).filter f)))) ⟨hD, Ex.new hD, upd_same⟩ (fun i H' hi p => ?_) (fun H' p => q Dl H' (fresh_back e1 p.1) (e1.trans p.2.1) p.2.2)
  obtain ⟨p1, p2, p3⟩ := p
  rw [show (lo : Int) + (i : Int) = ((lo + i : Nat) : Int) by omega]
  refine ⟨hw _, ht i H' ((e.trans e1).trans p2) hi H' (Ex.refl H') _ fun H3 e3 => ?_⟩
  have len : ((List.range' lo i).filter f).length ≤ i := by
    have := List.length_filter_le f (List.range' lo i)
    rw [List.length_range'] at this
    exact this
  cases hf : f (lo + i) with
  | true =>
    show te _ H3 fun y H4 => ∃ acc, H4 Dl = some (.lst acc) ∧ acc.length < sizeLine ∧ _
    refine he i H3 (((e.trans e1).trans p2).trans e3) hi hf H3 (Ex.refl H3) _ fun H4 e4 => ⟨_, e4 _ _ (e3 _ _ p3), sz_lt (by rw [vi_len]; omega), p1, Ex.mut ((p2.trans e3).trans e4) p1, ?_⟩
    rw [upd_same, List.range'_concat, List.filter_append, List.filter_cons, show lo + 1 * i = lo + i by omega, if_pos hf, vi_app]
    rfl
  | false =>
    show H1 Dl = none ∧ Ex H1 H3 ∧ _
    refine ⟨p1, p2.trans e3, ?_⟩
    rw [List.range'_concat, List.filter_append, List.filter_cons, show lo + 1 * i = lo + i by omega, if_neg (by rw [hf]; decide)]
    rw [List.filter_nil, List.append_nil]
    exact e3 _ _ p3⟩
theorem getLast_dropLast {α : Type} {l : List α} {x : α} (h : l.getLast? = some x) : l = l.dropLast ++ [x] := by
  have hn : l ≠ [] := fun e => by rw [e] at h; cases h
  have := List.dropLast_concat_getLast hn
  rw [List.getLast?_eq_some_getLast hn] at h
  rw [← Option.some.inj h]
  exact this.symm
end Fi
/-! A caught error that is kept: try: .. except X as n: m = n, the error tracked behind the try; isinstance of it. -/
namespace Fi
open PySem L2 Evl
/-- an error of the class cls, caught once, at a -/
def ExV (cls : Value) (a : Addr) : HO := .ext fun h => ∃ (oe : Obj) (vs : Array Value), h.get? a = some oe ∧ Zc cls none oe ∧ oe.data = .fields vs
theorem exV_ok {P : Program} {w : World} {H : Hp} {h : Heap} {a : Addr} {cls : Value} {oe : Obj} {vs : Array Value} (e : h.get? a = some oe) (z : Zc cls none oe) (d : oe.data = .fields vs) : ObjOk P w H h a (ExV cls a) :=
  ⟨⟨oe, vs, e, z, d⟩, ⟨oe, e⟩, fun _ _ ⟨o1, v1, q1, r1⟩ k => ⟨o1, v1, k o1 q1, r1⟩⟩
section
variable {X : Cx} {pins : List (Addr × Obj)} {σ : L2.St} {H : Hp} {s : Shared}
/-- an error that stands untracked is tracked -/
theorem exc_tracked {a : Addr} {oe : Obj} {vs : Array Value} {cls : Value} (S : Inv X pins σ H s) (hn0 : X.s_0.heap.get? a = none) (he : s.heap.get? a = some oe) (hz : Zc cls none oe) (hd : oe.data = .fields vs) (na : H a = none) (nL : a ≠ X.env.locals) (np : ∀ p ∈ X.pn ++ pins, p.1 ≠ a) :
    Inv X pins σ (upd H a (ExV cls a)) s := by
  have old : ∀ b ob, X.s_0.heap.get? b = some ob → b ≠ a := fun b ob q z => by rw [z, hn0] at q; cases q
  have some_ne : ∀ b ob, H b = some ob → b ≠ a := fun b ob q z => by rw [z, na] at q; cases q
  have U : Un X.fs X.ex X.H_0 (upd H a (ExV cls a)) X.s_0.heap s.heap :=
    { keep := S.base.keep
      slot := S.base.slot
      there := S.base.there
      free := fun b ob q1 q2 q3 => (upd_ne (old b ob q1)).trans (S.base.free b ob q1 q2 q3)
      tups := fun b xs q => (upd_ne (some_ne b _ (S.base.tups b xs q))).trans (S.base.tups b xs q)
      frzs := fun b ob u q => (upd_ne (some_ne b _ (S.base.frzs b ob u q))).trans (S.base.frzs b ob u q)
      tbls := fun b ps q => by
        obtain ⟨m, z⟩ := S.base.tbls b ps q
        exact ⟨m, (upd_ne (some_ne b _ z)).trans z⟩ }
  have cellNe : ∀ x c, X.env.cells.lookup x = some c → c ≠ a := fun x c q z => by
    obtain ⟨v, oc, h1, h2⟩ := S.cell x c q
    rw [z, he] at h1
    cases h1
    rw [hd] at h2
    cases h2
  have O : HOk X.prog X.w (upd H a (ExV cls a)) s.heap := fun b u q => by
    by_cases hb : b = a
    · subst hb
      rw [upd_same] at q
      cases q
      exact exV_ok he hz hd
    · rw [upd_ne hb] at q
      exact (S.hok b u q).stay (fun _ _ _ z => z) (fun c z => (upd_ne (some_ne c _ z)).trans z) fun c xs z => (upd_ne (some_ne c _ z)).trans z
  exact { ok := S.ok, os := S.os, bare := S.bare, base := U, loc := S.loc, cell := S.cell, free := (upd_ne nL.symm).trans S.free, freeC := fun x c q => (upd_ne (cellNe x c q)).trans (S.freeC x c q),
          pin := fun p hp => ⟨(S.pin p hp).1, (upd_ne (np p hp)).trans (S.pin p hp).2.1, (S.pin p hp).2.2⟩, hok := O, len := S.len }
end
/-- what 'except x as n: ..', n kept, wishes of an error of the body (slot i is n's) -/
def wV (K : PySem.W.Frag) (c : Value) (i : Nat) (ts : Addr → Value → TS) (D : Ends) : WX := fun cls d σ H =>
  d = none ∧ PySem.W.exmOne K cls c = some true ∧ ∀ a, H a = none → ts a cls { nx := fun σ' H' => D.nx (σ'.set i none) (upd H' a (ExV cls a)), rt := fun _ _ => False } (σ.set i (some (.ref a))) H
section
variable {X : Cx} {x n : Str} {c : Value} {i : Nat} {body suite : List Stmt} {b₀ : Stmt} {np pos pos' : Pos} {tb : WX → TS} {ts : Addr → Value → TS}
theorem ps_try_asV (hs : X.stack = X.env :: X.outer) (hf : X.env.frame = some X.env.locals) (hex : X.ex = []) (hN : X.N.Nodup) (hi : X.N[i]? = some n) (hln : X.env.kindOf n = some .local) (hc : Names X x c)
    (hb : ∀ (W : WX) (pn : List (Addr × Obj)) (xe : Value → Shared → Prop), Takes (X.tr pn xe) W → PassesOwn (model X.prog X.w) X.A X.env xe → PSs (X.tr pn xe) body (tb W))
    (hsu : ∀ (a : Addr) (oe : Obj) (cls : Value) (pn : List (Addr × Obj)), Zc cls none oe → (∃ vs, oe.data = .fields vs) → PSs (X.suite a ((a, oe) :: pn)) (b₀ :: suite) (ts a cls)) :
    PS X (.Try body [.ExceptHandler (some (.Name x np)) (some n) (b₀ :: suite) pos'] [] [] pos) (fun D σ H => tb (wV X.K c i ts D) D σ H) := by
  constructor
  intro pins s σ H D I h
  have ok := I.ok
  let M := model X.prog X.w
  let hds : List ExceptHandler := [.ExceptHandler (some (.Name x np)) (some n) (b₀ :: suite) pos']
  let catch_ : Value → Shared → Prop := fun e s₁ => wpAny M X.A (noteFrame e X.env) (fun _ s₂ => wpAny M X.A (setFlight e none) (fun _ s₃ => wpAny M X.A (handleBy e X.env hds) (SP X pins D) X.xe s₃) X.xe s₂) X.xe s₁
  have frames : X.A.frames = some (X.env :: X.outer) := ok.frames.trans (congrArg some hs)
  have taken : Takes (X.tr (X.pn ++ pins) catch_) (wV X.K c i ts D) := by
    rintro u s' ⟨a, B, sI, pinsI, σ', H', cls, d, rfl, J0, nb, up, sky, na, os, ag, rfl, hyes, hsuite⟩
    have J : Inv X pins σ' H' sI := J0.ofTry ok
    rw [show (X.tr (X.pn ++ pins) catch_).stack = X.env :: X.outer from hs] at sky
    refine Sky.land Zc.steady frames hf sky fun h3 fl3 up3 => ?_
    have J3 : Inv X pins σ' H' { s' with heap := h3 } := J.landed nb fl3.1 (up.trans up3) os ag
    obtain ⟨oe3, vs3, he3, hz3, hd3⟩ := fl3.there
    have away : a ∉ frs (X.env :: X.outer) := fun hm => by
      obtain ⟨_, o', e', hnf⟩ := fl3.2.2.1.mem hm
      rw [he3] at e'
      cases e'
      exact hnf _ hd3
    have nL : a ≠ X.env.locals := fun z => away (List.mem_filterMap.mpr ⟨X.env, .head _, hf.trans (congrArg some z.symm)⟩)
    have nF : a ∉ X.fs := fun hm => by
      obtain ⟨e, q1, q2⟩ := List.mem_filterMap.mp hm
      exact away (List.mem_filterMap.mpr ⟨e, .tail _ q1, q2⟩)
    -- the error stood nowhere ahead of the body's run
    have newI : sI.heap.get? a = none := by
      cases q : sI.heap.get? a with
      | none => rfl
      | some ob =>
        have z := nb a ob q (show a ∉ frs X.stack by rw [hs]; exact away)
        rw [fl3.2.1] at z
        cases z
    have new0 : X.s_0.heap.get? a = none := by
      cases q : X.s_0.heap.get? a with
      | none => rfl
      | some ob =>
        obtain ⟨o', z⟩ := J.base.there a ob q (by rw [hex]; exact List.not_mem_nil)
        rw [newI] at z
        cases z
    have apart : ∀ p ∈ X.pn ++ pins, p.1 ≠ a := fun p hp z => by
      have q := (J.pin p hp).1
      rw [z, newI] at q
      cases q
    have S3 := J3.suite he3 hd3 na nL nF
    refine wpAny_handleBy_cons (codeAny_handlers_test ?_) fun q => nomatch q
    have kind : PySem.W.Looks M h3 (typeOf (.ref a)) cls := fun A Q E s k q => wpAny_typeOf_ref (k _ _ he3) (hz3.1.symm ▸ q)
    have fits := PySem.W.exm_one (M := M) J3.kIn kind hyes
    have named : ∀ {Q : Value → Shared → Prop} {E : Value → Shared → Prop}, Q c { s' with heap := h3 } → wpAny M (X.A.mark (some (.ref a))) (eval (.Name x np) X.env) Q E { s' with heap := h3 } := by
      intro Q E q
      rcases hc with ⟨g1, g2, g3 | ⟨g3, g4, g5⟩⟩
      · exact ld_glob S3 g1 g3 q g2
      · exact ld_blt S3 g1 g3 g4 q g5 g2
    refine named (fits.here (codeAny_handlers_suite_as (HandSPX.lands_againZ fl3 fun h4 fl4 up4 => ?_)))
    have J4 : Inv X pins σ' H' { s' with heap := h4 } := J.landed nb fl4.1 ((up.trans up3).trans up4) os ag
    obtain ⟨oe4, vs4, he4, hz4, hd4⟩ := fl4.there
    have S4 := J4.suite he4 hd4 na nL nF
    refine @store_ok (X.suite a ((a, oe4) :: (X.pn ++ pins))) _ _ _ _ _ _ _ _ _ _ _ _ S4 hN hi (.inl hln) (show RelV (.ref a) (.ref a) from rfl) (fun s5 S5 => ?_) (.inr hln)
    have ran := (hsu a oe4 cls (X.pn ++ pins) hz4 ⟨vs4, hd4⟩).run [] s5 _ H' _ S5 (hsuite a na)
    refine wpAny_mono ran (fun f s6 out => ?_) fun _ _ z => z.elim
    cases f with
    | next =>
      obtain ⟨σ6, H6, S6, q6⟩ := out
      obtain ⟨p1, p2, _⟩ := S6.pin (a, oe4) (List.mem_append_left _ (.head _))
      have T6 := exc_tracked (S6.unsuite ok) new0 p1 hz4 hd4 p2 nL apart
      exact gone_ok T6 hN hi hln fun s7 J7 => ⟨_, _, J7, q6⟩
    | brk => obtain ⟨_, _, _, q6⟩ := out; exact q6.elim
    | cont => obtain ⟨_, _, _, q6⟩ := out; exact q6.elim
    | ret u => obtain ⟨_, _, _, _, _, q6⟩ := out; exact q6.elim
  refine wpAny_Try_except (wpAny_mono ((hb _ (X.pn ++ pins) catch_ taken PassesOwn.looking).run [] s σ H D (I.toTry _) h) (fun f s1 out => ?_) fun _ _ q => q)
  cases f with
  | next => obtain ⟨σ1, H1, J1, q⟩ := out; exact wpAny_execs_nil ⟨σ1, H1, J1.ofTry ok, q⟩
  | brk => obtain ⟨σ1, H1, J1, q⟩ := out; exact ⟨σ1, H1, J1.ofTry ok, q⟩
  | cont => obtain ⟨σ1, H1, J1, q⟩ := out; exact ⟨σ1, H1, J1.ofTry ok, q⟩
  | ret u => obtain ⟨v, σ1, H1, J1, r, q⟩ := out; exact ⟨v, σ1, H1, J1.ofTry ok, r, q⟩
/-- isinstance(e, c), e a kept error of the class at Dc -/
def rIsV (K : PySem.W.Frag) : List V → Hp → VK → Prop := fun xs H Q => ∃ (a Dc : Addr) (cc : V) (u : Value) (b : Bool), xs = [.ref a, cc] ∧ H a = some (ExV (.ref Dc) a) ∧ ExcC K Dc ∧ ClsV cc u ∧ PySem.W.kitOne K (.ref Dc) u = some b ∧ Q (.bl b) H
theorem call_isV {K : PySem.W.Frag} (hK : X.K = K := by rfl) : CallR X (.builtin "isinstance") (rIsV K) := by
  subst hK
  intro pins s σ H xs us Q I r h
  obtain ⟨a, Dc, cc, u, b, rfl, ha, C, hcu, e, q⟩ := h
  cases r with
  | cons rx rr =>
    cases rr with
    | cons rt rr =>
      cases rr
      cases rx
      have ec := hcu.eq rt
      subst ec
      obtain ⟨⟨oe, vs, hget, hz, hv⟩, _⟩ := I.hok a _ ha
      have J : PySem.W.InstAt s.heap a oe Dc none := by
        obtain ⟨oc, od, oda, osl⟩ := oe
        obtain ⟨z1, z2⟩ := hz
        simp only at z1 z2 hv
        subst z1 z2 hv
        exact ⟨hget, rfl, rfl, trivial⟩
      exact PySem.W.kia_one (PySem.W.handS_kitx_exc C.hg C.hk C.hs C.hd C.ha C.hn C.ht C.hm) I.kIn J e (fun z => nomatch z) fun tk => ⟨.bl b, H, I.tok _, rfl, q⟩
/-! ### list.count(True) of a list of truth values -/
theorem dpAll_bl {K : PySem.W.Frag} {H : Hp} : ∀ l : List Bool, DpAll K H (l.map V.bl) (l.map PyData.bool)
  | [] => .nil
  | b :: l => .cons (.bl b) (dpAll_bl l)
theorem plain_bl : ∀ l : List Bool, PyData.plainAll (l.map PyData.bool) = true
  | [] => by simp [PyData.plainAll]
  | b :: l => by simp [PyData.plainAll, PyData.plain, plain_bl l]
theorem depth_bl : ∀ l : List Bool, PyData.depthAll (l.map PyData.bool) = 0
  | [] => by simp [PyData.depthAll]
  | b :: l => by simp [PyData.depthAll, PyData.depth, depth_bl l]
theorem count_bl (l : List Bool) : (l.map PyData.bool).countP (fun y => PyData.eqv y (.bool true)) = l.countP id := by
  rw [List.countP_map]
  congr 1
  funext b
  cases b <;> simp [PyData.eqv]
def rCntB (K : PySem.W.Frag) : V → List V → Hp → VK → Prop := fun x xs H Q => ∃ (p : Addr) (bs : List Bool), x = .ref p ∧ xs = [.bl true] ∧ SqL K H p (bs.map V.bl) ∧ Q (.int ((bs.countP id : Nat) : Int)) H
theorem mt_countB {K : PySem.W.Frag} (hu : X.A.units + 64 < cLine) (hK : X.K = K := by rfl) : MtR X "list.count" (rCntB K) := by
  subst hK
  rintro pins s σ H x xs v us Q I rx rxs ⟨p, bs, rfl, rfl, hs, q⟩
  cases rx
  cases rxs with
  | cons ry rt =>
    cases rt
    cases ry
    obtain ⟨its, rv, ⟨ob, n, ho, hc, _, hd⟩, hlen⟩ := I.list hs
    obtain ⟨as, rd⟩ := Dp.readsAll I _ _ its (dpAll_bl bs) rv
    refine PySem.SeqAt.count_list_data (d := .bool true) (bs := _) ⟨ob, ho, hc, n, hd⟩ (by simpa using rd) (Reads.bool true) (plain_bl bs) (by simp [PyData.plain]) ?_ ⟨.int ((bs.countP id : Nat) : Int), H, I.tok _, ⟨s.toks, ?_⟩, q⟩
    · rw [depth_bl]
      simp [PyData.depth]
      omega
    · rw [count_bl]
end
/-! ### calls that may raise, the wish told at the caller's slots -/
section
variable {X : Cx} {CX : CXT} {k : Nat} {C f : Addr} {fd : FuncData} {ps : List Str} {sp : Sp} {E : L2.St → XK} {x m : Str} {p pos apos : Pos} {e o : Expr} {es : List Expr} {ta : TE} {t : TA}
def tMethE (C : Addr) (m : Str) (sp : Sp) (E : L2.St → XK) (ta : TE) (t : TA) : TE := fun σ H Q => ta σ H fun x H1 => ∃ a dx fs, x = .ref a ∧ H1 a = some (.ins C dx fs) ∧ fs.lookup m = none ∧ t σ H1 fun vs H2 => sp (x :: vs) H2 Q (E σ)
def tMakeE (C : Addr) (sp : Sp) (E : L2.St → XK) (t : TA) : TE := fun σ H Q => t σ H fun vs H1 => ∀ x dx, H1 x = none → H1 dx = none → dx ≠ x → sp (.ref x :: vs) (upd (upd H1 dx (.own x)) x (.ins C dx [])) (fun v H2 => v = .non ∧ Q (.ref x) H2) (E σ)
theorem Has.callS (h : Has X.prog X.w X.K X.mg X.base CX x ps k sp) (hr : Room k X.A) (hg : Gl X x) (hx : ∀ σ, PassesAt CX X σ (E σ)) (ha : PA X (e :: es) t) (hdb : (x == ("__debug__" : Str)) = false := by decide)
    (he : starEach (e :: es) X.env = (false, eval e X.env) :: starEach es X.env := by rfl) (hpl : (backTo pos (starEach es X.env)).any (·.1) = false := by rfl) : PE X (.Call (.Name x p) (e :: es) [] pos) (tCallS sp E t) := by
  obtain ⟨f, fd, hm, hk, hb, F⟩ := h
  exact pe_callS F hr hg hm hk hb hx ha hdb he hpl
theorem HasM.callS (h : HasM X.prog X.w X.K X.mg X.base CX C m ps k sp) (c : Cls X.K C) (ho : PE X o ta) (hr : Room k X.A) (hx : ∀ σ, PassesAt CX X σ (E σ)) (ha : PA X (e :: es) t) {pl : Sem Bool}
    (hst : starEach (e :: es) X.env = (false, eval e X.env) :: starEach es X.env := by rfl) (hpl : (backTo pos (starEach es X.env)).any (·.1) = false := by rfl)
    (ht : eval (.Call (.Attribute o m apos) (e :: es) [] pos) X.env = (do let ov ← eval o X.env; standAt apos.atName; let (f, first) ← holding [ov] (getMethod ov m pl); callWith pos f first (backTo pos (starEach (e :: es) X.env)) (backToKw pos (keywordEach [] X.env))) := by rfl) : PE X (.Call (.Attribute o m apos) (e :: es) [] pos) (tMethE C m sp E ta t) := by
  obtain ⟨f, fd, hm, hb, F⟩ := h
  constructor
  intro pins s σ H Q I q
  have first := ho.run pins s σ H _ I q
  refine PySem.W.methodCall_KW (pl := pl) (wpAny_mono first (fun u s1 out => ?_) fun _ _ z => z) ht
  obtain ⟨y, H1, I1, ry, a, dx, fs, rfl, ea, hl, q1⟩ := out
  have eu : u = Value.ref a := ry
  subst eu
  have args := ha.run pos pins s1 σ H1 _ I1 q1
  exact getmeth_ok I1 ea c hm hl (PySem.W.callWith_K (first := [.ref a]) (h₀ := X.base) I.ok.mod.kin hm.kp (wpAny_mono args (fun us s2 out => by
    obtain ⟨vs, H2, I2, r, q2⟩ := out
    exact ⟨I2.kIn, run_fnS (us := .ref a :: us) (vs := .ref a :: vs) F hr hb (hx σ) I2 (.cons rfl r) q2⟩) fun _ _ z => z) hst hpl)
theorem HasI.makeS (h : HasI X.prog X.w X.K X.mg X.base CX C ps k sp) (hr : Room (k + 1) X.A) (hg : Gl X x) (hm : X.mg x = some (.ref C)) (hx : ∀ σ, PassesAt CX X σ (E σ)) (ha : PA X (e :: es) t) (hdb : (x == ("__debug__" : Str)) = false := by decide)
    (he : starEach (e :: es) X.env = (false, eval e X.env) :: starEach es X.env := by rfl) (hpl : (backTo pos (starEach es X.env)).any (·.1) = false := by rfl) : PE X (.Call (.Name x p) (e :: es) [] pos) (tMakeE C sp E t) := by
  obtain ⟨f, fd, M, hb, F⟩ := h
  constructor
  intro pins s σ H Q I q
  have args := ha.run pos pins s σ H _ I q
  refine wpAny_Call_Name_kw (ld_glob I hg hm (PySem.W.callWith_K (h₀ := X.base) I.ok.mod.kin M.kp (wpAny_mono args (fun us s1 out => ?_) fun _ _ z => z) he hpl) hdb)
  obtain ⟨vs, H1, I1, r, q1⟩ := out
  refine ⟨I1.kIn, ?_⟩
  have sz := I1.hok
  have want := q1 (s1.heap.objs.size + 1) s1.heap.objs.size (sz.fresh (Nat.le_succ _)) (sz.fresh (Nat.le_refl _)) (Nat.ne_of_lt (Nat.lt_succ_self _))
  have I2 := Inv.made (C := C) I1
  have r2 : Vals (V.ref (s1.heap.objs.size + 1) :: vs) (Value.ref (s1.heap.objs.size + 1) :: us) := .cons rfl r
  have len : (Value.ref (s1.heap.objs.size + 1) :: us).length = ps.length := r2.length.symm.trans (F.len _ _ _ _ want)
  have b2 := hb _ (Value.ref (s1.heap.objs.size + 1) :: us) I2.kIn (by rw [List.append_nil]; exact len)
  rw [List.append_nil] at b2
  have ran := F.run _ X.stack _ _ ⟨Value.ref (s1.heap.objs.size + 1) :: us, []⟩ (Value.ref (s1.heap.objs.size + 1) :: us) _ _ (E σ) (hr.make C us []) (I2.env0.make C us []) b2 r2 want
  refine wpAny_call (make_map (f := f) I1.kIn M.makes M.init (beq_iff_eq.mp M.fn) (codeAny_mono ran fun res s' out => ?_))
  cases res with
  | error e1 => exact hx σ pins _ _ e1 s' I2 out
  | ok fl =>
    cases fl with
    | ret u =>
      obtain ⟨v, H', I3, rv, ev, q3⟩ := I2.after out
      subst ev
      exact ⟨rv, .ref (s1.heap.objs.size + 1), H', I3, rfl, q3⟩
    | next => exact out.elim
    | brk => exact out.elim
    | cont => exact out.elim
end
end Fi
/-! Readings for texts; the number that a word writes. -/
namespace Fi
open PySem L2 Evl
/-- the number that a word writes -/
def numS (w : Str) : Option Nat :=
  if (1 ≤ w.length ∧ w.length ≤ 4) ∧ ¬ (w.cps.toList[0]? = some 48 ∧ w ≠ "0") ∧ (∀ c ∈ w.cps.toList, 48 ≤ c ∧ c ≤ 57) then some (NumText.digitsVal w.cps.toList) else none
theorem len_list (w : Str) : w.length = w.cps.toList.length := by simp [Str.length]
theorem figures {c : Nat} : c ∈ (Str.ofString "0123456789").cps.toList ↔ 48 ≤ c ∧ c ≤ 57 := by
  have e : (Str.ofString "0123456789").cps.toList = [48, 49, 50, 51, 52, 53, 54, 55, 56, 57] := by decide +kernel
  rw [e]
  simp only [List.mem_cons, List.not_mem_nil, or_false]
  omega
theorem one_sign {c d : Nat} : ((⟨#[c]⟩ : Str) = ⟨#[d]⟩) ↔ c = d := by
  constructor
  · intro h
    injection h with h
    injection h with h
    injection h
  · intro h
    rw [h]
theorem at0 {α : Type} {l : List α} {c : α} (h : l[0]? = some c) : atI l 0 = some c := by
  cases l with
  | nil => cases h
  | cons a r =>
    cases h
    unfold atI ixN
    rw [if_pos (Int.le_refl 0), if_pos (by show (0 : Int) < ((r.length + 1 : Nat) : Int); omega)]
    rfl
section
variable {σ : L2.St} {H : Hp} {ta tb te tl to : TE} {t : TT} {D : Ends} {tu tz : TS} {g : TG}
theorem rc_str {i : Int} (h : i.natAbs.log2 < 1920) : RC (fun xs H Q => ∃ i, xs = [.int i] ∧ i.natAbs.log2 < 1920 ∧ Q (.str (toString i)) H) [.int i] H (.str (toString i)) := fun H1 _ _ q => ⟨i, rfl, h, q H1 (Ex.refl H1)⟩
theorem rv_adds {a b : Str} (h : a.length + b.length ≤ 100000) : RV (fun x y H Q => ∃ i j, x = .str i ∧ y = .str j ∧ i.length + j.length ≤ sizeLine ∧ Q (.str (i ++ j)) H) (.str a) (.str b) H (.str (a ++ b)) := fun H1 _ _ q => ⟨a, b, rfl, rfl, sz_of h, q H1 (Ex.refl H1)⟩
theorem rc_lenStr {z : Str} (h : z.length ≤ 100000) : RC (fun xs H Q => ∃ z, xs = [.str z] ∧ z.length ≤ sizeLine ∧ Q (.int z.length) H) [.str z] H (.int (z.length : Int)) := fun H1 _ _ q => ⟨z, rfl, sz_of h, q H1 (Ex.refl H1)⟩
theorem rc_intStr {a : Str} {n : Int} (h : PySem.intText? a = some n) (hl : a.length ≤ 640) : RC (fun xs H Q => ∃ a n, xs = [.str a] ∧ PySem.intText? a = some n ∧ a.length ≤ 640 ∧ Q (.int n) H) [.str a] H (.int n) := fun H1 _ _ q => ⟨a, n, rfl, h, hl, q H1 (Ex.refl H1)⟩
theorem rv_notInS {c : Nat} {z : Str} : RV (fun x y H Q => ∃ (c : Nat) (z : Str), x = .str ⟨#[c]⟩ ∧ y = .str z ∧ Q (.bl (!decide (c ∈ z.cps.toList))) H) (.str ⟨#[c]⟩) (.str z) H (.bl (!decide (c ∈ z.cps.toList))) := fun H1 _ _ q => ⟨c, z, rfl, rfl, q H1 (Ex.refl H1)⟩
/-- x.split(y) -/
theorem el_split {a b : Str} (ho : Ev to σ H (.str a)) (he : Ev te σ H (.str b)) (hb : (b.length == 0) = false) (hl : a.length ≤ 99998) : EvL (tM1 (fun x xs H Q => ∃ a b, x = .str a ∧ xs = [.str b] ∧ (b.length == 0) = false ∧ a.length + 2 ≤ sizeLine ∧ rNewStrs (Txt.split a b) H Q) to te) σ H ((Txt.split a b).map V.str) := fun H1 e Q q =>
  ho H1 e _ fun H2 e2 => ⟨⟨a, rfl⟩, he H2 (e.trans e2) _ fun H3 e3 => ⟨a, b, rfl, rfl, hb, sz_of (by omega), fun p hp => q p _ (fresh_back (e2.trans e3) hp) ((e2.trans e3).trans (Ex.new hp)) upd_same⟩⟩
/-- x.join(y), y a list that stands -/
theorem ev_join {K : PySem.W.Frag} {a : Str} {p : Addr} {ys : List Str} (ho : Ev to σ H (.str a)) (he : Ev te σ H (.ref p)) (hp : SqL K H p (ys.map V.str)) (hl : (ys.map (·.length)).sum + ys.length * a.length ≤ 100000) :
    Ev (tM1 (fun x xs H Q => ∃ a p, ∃ ys : List Str, x = .str a ∧ xs = [.ref p] ∧ (SqL K H p (ys.map V.str) ∨ SqT K H p (ys.map V.str)) ∧ (ys.map (·.length)).sum + ys.length * a.length ≤ 16777216 ∧ Q (.str (Txt.join a ys)) H) to te) σ H (.str (Txt.join a ys)) := fun H1 e Q q =>
  ho H1 e _ fun H2 e2 => ⟨⟨a, rfl⟩, he H2 (e.trans e2) _ fun H3 e3 => ⟨a, p, ys, rfl, rfl, Or.inl (ex_l ((e.trans e2).trans e3) hp), by omega, q H3 (e2.trans e3)⟩⟩
/-- for x in a text -/
theorem s_forS {z : Str} (h : Ev tl σ H (.str z)) (Pv : Nat → L2.St → Hp → Prop) (h0 : ∀ H1, Ex H H1 → Pv 0 σ H1)
    (hs : ∀ i c σ' H', z.cps.toList[i]? = some c → Pv i σ' H' → g (.str ⟨#[c]⟩) σ' H' fun σ2 H2 => tu { D with nx := Pv (i + 1), ct := Pv (i + 1), bk := D.nx } σ2 H2) (hd : ∀ σ' H', Pv z.cps.toList.length σ' H' → D.nx σ' H') : tFor (iStr tl) g tu D σ H :=
  h H (Ex.refl H) _ fun H1 e => ⟨z, rfl, fun i m σ H => m = z.cps.toList.length - i ∧ i ≤ z.cps.toList.length ∧ Pv i σ H, ⟨z.cps.toList.length, by simp, Nat.zero_le _, h0 H1 e⟩, by
    rintro i m σ H ⟨rfl, hi, p⟩
    by_cases hlt : i < z.cps.toList.length
    · refine .inr ⟨(by rw [Array.length_toList] at hlt; exact hlt), Pv (i + 1), fun σ' H' p' => ⟨z.cps.toList.length - (i + 1), by omega, rfl, hlt, p'⟩, fun x H' y => ?_⟩
      obtain ⟨e, c, hc, rfl⟩ := y
      subst e
      exact hs i c σ _ (by rw [Array.getElem?_toList]; exact hc) p
    · have e : i = z.cps.toList.length := by omega
      subst e
      exact .inl ⟨by rw [Array.length_toList]; exact Nat.le_refl _, hd σ H p⟩⟩
theorem q_forS {z : Str} (h : Ev tl σ H (.str z)) (Pv : Nat → L2.St → Hp → Prop) (h0 : ∀ H1, Ex H H1 → Pv 0 σ H1)
    (hs : ∀ i c σ' H', z.cps.toList[i]? = some c → Pv i σ' H' → g (.str ⟨#[c]⟩) σ' H' fun σ2 H2 => tu { D with nx := Pv (i + 1), ct := Pv (i + 1), bk := tz D } σ2 H2) (hd : ∀ σ' H', Pv z.cps.toList.length σ' H' → tz D σ' H') : tSeq (tFor (iStr tl) g tu) tz D σ H :=
  s_forS (D := { D with nx := tz D }) h Pv h0 hs hd
theorem q_forSn {z : Str} {j : Nat} (h : Ev tl σ H (.str z)) (Pv : Nat → L2.St → Hp → Prop) (h0 : ∀ H1, Ex H H1 → Pv 0 σ H1)
    (hs : ∀ i c σ' H', z.cps.toList[i]? = some c → Pv i σ' H' → tu { D with nx := Pv (i + 1), ct := Pv (i + 1), bk := tz D } (σ'.set j (some (.str ⟨#[c]⟩))) H') (hd : ∀ σ' H', Pv z.cps.toList.length σ' H' → tz D σ' H') : tSeq (tFor (iStr tl) (gName j) tu) tz D σ H :=
  q_forS h Pv h0 hs hd
end
end Fi
/-! Texts of trees; rows of texts. -/
namespace Fi
open PySem L2 Evl TL
/-- a number's text -/
def numT (n : Nat) : Str := Str.ofString (toString ((n : Nat) : Int))
theorem numT_tl (n : Nat) : tl (numT n) = numL n := tl_num n
theorem numT_len {n : Nat} (h : n < 10000) : (numT n).length ≤ 4 := by
  rw [len_tl, numT_tl]
  exact numL_len (k := 4) (by decide) (by omega)
theorem numL_head : ∀ (n : Nat), 0 < n → ∀ c, (numL n)[0]? = some c → c ≠ 48 := fun n => by
  induction n using Nat.strongRecOn with
  | ind n ih =>
    intro h0 c hc
    by_cases h : n < 10
    · rw [numL_lt h] at hc
      cases hc
      omega
    · rw [numL_step (by omega), List.getElem?_append_left (List.length_pos_iff.mpr (numL_ne _))] at hc
      exact ih (n / 10) (by omega) (by omega) c hc
theorem numS_num {n : Nat} (h : n < 10000) : numS (numT n) = some n := by
  have e : (numT n).cps.toList = numL n := numT_tl n
  have h1 : 1 ≤ (numT n).length := by
    rw [len_tl, numT_tl]
    exact List.length_pos_iff.mpr (numL_ne n)
  unfold numS
  rw [if_pos, e, numL_val]
  refine ⟨⟨h1, numT_len h⟩, fun ⟨a, b⟩ => ?_, by rw [e]; exact numL_digits n⟩
  rw [e] at a
  by_cases h0 : n = 0
  · subst h0
    exact b (by decide +kernel)
  · exact numL_head n (by omega) 48 a rfl
/-- the words -/
def wordAt (es ws : List Nat) (i : Nat) : Str := numT (es.getD i 0) ++ ":" ++ numT (ws.getD (i + 1) 0)
def wordsTo (es ws : List Nat) (i : Nat) : List Str := ("-:" ++ numT (ws.getD 0 0)) :: (List.range i).map (wordAt es ws)
theorem wordsTo_succ (es ws : List Nat) (i : Nat) : wordsTo es ws (i + 1) = wordsTo es ws i ++ [wordAt es ws i] := by
  unfold wordsTo
  rw [List.range_succ, List.map_append]
  rfl
def textS (es ws : List Nat) : Str := Txt.join " " (wordsTo es ws es.length)
theorem joinL_snoc (S q : List Nat) : ∀ (p : List Nat) (ps : List (List Nat)), joinL S ((p :: ps) ++ [q]) = joinL S (p :: ps) ++ (S ++ q)
  | p, [] => rfl
  | p, r :: ps => by
    show p ++ (S ++ joinL S ((r :: ps) ++ [q])) = p ++ (S ++ joinL S (r :: ps)) ++ (S ++ q)
    rw [joinL_snoc S q r ps]
    simp
theorem join_snoc (y q p : Str) (ps : List Str) : Txt.join y ((p :: ps) ++ [q]) = Txt.join y (p :: ps) ++ y ++ q := by
  refine ext_tl ?_
  rw [join_eq, join_eq, tl_join, tl_append, tl_append, tl_join, List.map_append, List.map_cons, List.map_cons, List.map_nil, joinL_snoc, List.append_assoc]
/-- the law's text, word by word -/
def dueTo (es ws : List Nat) : Nat → Str
  | 0 => "-:" ++ numT (ws.getD 0 0)
  | i + 1 => dueTo es ws i ++ " " ++ numT (es.getD i 0) ++ ":" ++ numT (ws.getD (i + 1) 0)
theorem app_assoc (a b c : Str) : a ++ b ++ c = a ++ (b ++ c) := ext_tl (by rw [tl_append, tl_append, tl_append, tl_append, List.append_assoc])
theorem dueTo_join (es ws : List Nat) : ∀ i, dueTo es ws i = Txt.join " " (wordsTo es ws i)
  | 0 => by
    rw [join_eq]
    rfl
  | i + 1 => by
    rw [wordsTo_succ]
    unfold wordsTo
    rw [join_snoc, dueTo, dueTo_join es ws i]
    unfold wordsTo wordAt
    rw [app_assoc, app_assoc, app_assoc, app_assoc, app_assoc]
theorem due_text (es ws : List Nat) : dueTo es ws es.length = textS es ws := dueTo_join es ws es.length
theorem len_app (a b : Str) : (a ++ b).length = a.length + b.length := by
  rw [len_tl, len_tl, len_tl, tl_append, List.length_append]
/-- bounds -/
structure Small (es ws : List Nat) : Prop where
  e : ∀ i, es.getD i 0 < 10000
  w : ∀ i, ws.getD i 0 < 10000
theorem small_of {es ws : List Nat} (h1 : ∀ v ∈ es, v < 10000) (h2 : ∀ v ∈ ws, v < 10000) : Small es ws := by
  have g : ∀ (l : List Nat), (∀ v ∈ l, v < 10000) → ∀ i, l.getD i 0 < 10000 := fun l h i => by
    rw [List.getD_eq_getElem?_getD]
    cases e : l[i]? with
    | none => decide
    | some v => exact h v (List.mem_of_getElem? e)
  exact ⟨g es h1, g ws h2⟩
theorem len_lit2 : ("-:" : Str).length = 2 ∧ (":" : Str).length = 1 ∧ (" " : Str).length = 1 := by decide +kernel
theorem dueTo_len {es ws : List Nat} (s : Small es ws) : ∀ i, (dueTo es ws i).length ≤ 6 + 10 * i
  | 0 => by
    rw [dueTo, len_app, len_lit2.1]
    have := numT_len (s.w 0)
    omega
  | i + 1 => by
    rw [dueTo, len_app, len_app, len_app, len_app, len_lit2.2.1, len_lit2.2.2]
    have := numT_len (s.w (i + 1))
    have := numT_len (s.e i)
    have := dueTo_len s i
    omega
theorem wordsTo_len (es ws : List Nat) (i : Nat) : (wordsTo es ws i).length = i + 1 := by
  unfold wordsTo
  simp
theorem wordAt_len {es ws : List Nat} (s : Small es ws) (i : Nat) : (wordAt es ws i).length ≤ 9 := by
  unfold wordAt
  rw [len_app, len_app, len_lit2.2.1]
  have := numT_len (s.w (i + 1))
  have := numT_len (s.e i)
  omega
theorem wordsTo_sum {es ws : List Nat} (s : Small es ws) : ∀ i, ((wordsTo es ws i).map (·.length)).sum ≤ 9 * (i + 1)
  | 0 => by
    unfold wordsTo
    simp only [List.range_zero, List.map_nil, List.map_cons, List.sum_cons, List.sum_nil, Nat.add_zero]
    rw [len_app, len_lit2.1]
    have := numT_len (s.w 0)
    omega
  | i + 1 => by
    rw [wordsTo_succ, List.map_append, List.sum_append, List.map_cons, List.map_nil, List.sum_cons, List.sum_nil]
    have := wordsTo_sum s i
    have := wordAt_len s i
    omega
/-! ### read back -/
theorem tl_lit : tl ("-:" : Str) = [45, 58] ∧ tl (":" : Str) = [58] ∧ tl (" " : Str) = [32] ∧ tl ("-" : Str) = [45] := by decide +kernel
theorem words_free (es ws : List Nat) (i : Nat) : ∀ p ∈ wordsTo es ws i, 32 ∉ tl p := fun p hp => by
  have hn : ∀ n, 32 ∉ numL n := fun n => numL_free (.inl (by decide))
  unfold wordsTo at hp
  rcases List.mem_cons.mp hp with rfl | hp
  · rw [tl_append, tl_lit.1, numT_tl]
    intro h
    rcases List.mem_append.mp h with h | h
    · revert h; decide
    · exact hn _ h
  · obtain ⟨k, _, rfl⟩ := List.mem_map.mp hp
    unfold wordAt
    rw [tl_append, tl_append, tl_lit.2.1, numT_tl, numT_tl]
    intro h
    rcases List.mem_append.mp h with h | h
    · rcases List.mem_append.mp h with h | h
      · exact hn _ h
      · revert h; decide
    · exact hn _ h
theorem split_text (es ws : List Nat) : Txt.split (textS es ws) " " = wordsTo es ws es.length :=
  split_join (s := 32) (S := []) tl_lit.2.2.1 (by decide +kernel) (by unfold wordsTo; simp) (words_free es ws _)
theorem join_two (y a b : Str) : Txt.join y [a, b] = a ++ y ++ b := by
  rw [join_eq]
  rfl
theorem split_two {a b : Str} (ha : 58 ∉ tl a) (hb : 58 ∉ tl b) : Txt.split (a ++ ":" ++ b) ":" = [a, b] := by
  rw [← join_two]
  refine split_join (s := 58) (S := []) tl_lit.2.1 (by decide +kernel) (by simp) fun p hp => ?_
  rcases List.mem_cons.mp hp with rfl | hp
  · exact ha
  · rw [List.mem_singleton.mp hp]; exact hb
theorem num_free (n : Nat) : 58 ∉ tl (numT n) := by
  rw [numT_tl]
  exact numL_free (.inr (by decide))
theorem split_word0 (n : Nat) : Txt.split ("-:" ++ numT n) ":" = [("-" : Str), numT n] := by
  have e : ("-:" ++ numT n : Str) = "-" ++ ":" ++ numT n := ext_tl (by rw [tl_append, tl_append, tl_append, tl_lit.1, tl_lit.2.1, tl_lit.2.2.2]; rfl)
  rw [e]
  exact split_two (by rw [tl_lit.2.2.2]; decide) (num_free n)
theorem split_wordAt (es ws : List Nat) (i : Nat) : Txt.split (wordAt es ws i) ":" = [numT (es.getD i 0), numT (ws.getD (i + 1) 0)] := split_two (num_free _) (num_free _)
/-- the rows of a well written text -/
def rowsOf (es ws : List Nat) : List (List Str) := [("-" : Str), numT (ws.getD 0 0)] :: (List.range es.length).map fun i => [numT (es.getD i 0), numT (ws.getD (i + 1) 0)]
theorem rows_text (es ws : List Nat) : (Txt.split (textS es ws) " ").map (fun w => Txt.split w ":") = rowsOf es ws := by
  rw [split_text]
  unfold wordsTo rowsOf
  rw [List.map_cons, List.map_map, split_word0]
  congr 1
  exact List.map_congr_left fun i _ => split_wordAt es ws i
/-! ### rows of texts in the heap -/
def RowsS (H : Hp) : List Addr → List (List Str) → Prop
  | [], [] => True
  | a :: as, r :: rs => H a = some (.lst (r.map V.str)) ∧ RowsS H as rs
  | _, _ => False
theorem RowsS.len {H : Hp} : ∀ {rs : List Addr} {rows : List (List Str)}, RowsS H rs rows → rs.length = rows.length
  | [], [], _ => rfl
  | _ :: _, _ :: _, h => by rw [List.length_cons, List.length_cons, RowsS.len h.2]
  | [], _ :: _, h => h.elim
  | _ :: _, [], h => h.elim
theorem RowsS.mono {H H' : Hp} : ∀ {rs : List Addr} {rows : List (List Str)}, RowsS H rs rows → (∀ a o, a ∈ rs → H a = some o → H' a = some o) → RowsS H' rs rows
  | [], [], _, _ => trivial
  | a :: as, _ :: _, h, k => ⟨k a _ List.mem_cons_self h.1, RowsS.mono h.2 fun b o hb => k b o (List.mem_cons_of_mem _ hb)⟩
  | [], _ :: _, h, _ => h.elim
  | _ :: _, [], h, _ => h.elim
theorem RowsS.snoc {H : Hp} {a : Addr} {r : List Str} (ha : H a = some (.lst (r.map V.str))) : ∀ {rs : List Addr} {rows : List (List Str)}, RowsS H rs rows → RowsS H (rs ++ [a]) (rows ++ [r])
  | [], [], _ => ⟨ha, trivial⟩
  | _ :: _, _ :: _, h => ⟨h.1, RowsS.snoc ha h.2⟩
  | [], _ :: _, h => h.elim
  | _ :: _, [], h => h.elim
theorem RowsS.get {H : Hp} : ∀ {rs : List Addr} {rows : List (List Str)} {i : Nat} {a : Addr}, RowsS H rs rows → rs[i]? = some a → ∃ r, rows[i]? = some r ∧ H a = some (.lst (r.map V.str))
  | [], [], i, _, _, h => by cases i <;> cases h
  | a :: as, r :: _, 0, _, h, e => by cases e; exact ⟨r, rfl, h.1⟩
  | a :: as, _ :: _, i + 1, r, h, e => RowsS.get (i := i) h.2 e
  | [], _ :: _, _, _, h, _ => h.elim
  | _ :: _, [], _, _, h, _ => h.elim
theorem cut1 (xs : List V) : cutV xs (some 1) none = xs.drop 1 := by
  unfold cutV
  have : HT.sIx xs.length 0 (some 1) = min 1 xs.length := by simp [HT.sIx]
  rw [this]
  by_cases h : 1 ≤ xs.length
  · rw [Nat.min_eq_left h]
    exact List.take_of_length_le (by simp [HT.sIx])
  · have : xs = [] := by cases xs with | nil => rfl | cons a r => exact absurd (by simp) h
    subst this
    rfl
section
variable {K : PySem.W.Frag} {σ : L2.St} {H : Hp} {te tl : TE}
/-- [x.split(..) for x in a new list of texts]: rows -/
theorem ep_lcRows {ws : List Str} {j : Nat} {vs : List Nat} (f : Str → List Str) (h : EvL tl σ H (ws.map V.str)) (hz : ws.length ≤ 40000) (hw : ∀ x, wipe ((wipe σ vs).set j (some x)) vs = wipe σ vs)
    (he : ∀ (w : Str) H1, Ex H H1 → w ∈ ws → EvL te ((wipe σ vs).set j (some (.str w))) H1 ((f w).map V.str)) :
    EvP (tLc (iList K tl) (gName j) tYes te vs) σ H (fun v H2 => ∃ D rs, v = .ref D ∧ H2 D = some (.lst (rs.map V.ref)) ∧ RowsS H2 rs (ws.map f)) := fun H0 e0 Q q => h H0 e0 _ fun a H1 na e1 ha => ⟨a, rfl, ⟨_, sq_of ha⟩, fun D hD => by
  have e01 := e0.trans e1
  refine lc_list (K := K) (xs := ws.map V.str) (fun i H' => Ex H1 H' ∧ ∃ rs, H' D = some (.lst (rs.map V.ref)) ∧ rs.length = i ∧ (∀ b ∈ rs, b ≠ D) ∧ RowsS H' rs ((ws.take i).map f)) ⟨Ex.new hD, [], upd_same, rfl, fun b hb => (by cases hb), trivial⟩ (fun i H' _ p => sq_of (p.1 _ _ ha)) (fun i x H' hi p => ?_) (fun H' p => ?_)
  · obtain ⟨p0, rs, pD, pl, pn, pR⟩ := p
    rw [List.getElem?_map] at hi
    cases hx : ws[i]? with
    | none => rw [hx] at hi; cases hi
    | some w =>
      rw [hx] at hi
      cases hi
      refine ⟨hw _, ?_⟩
      show te _ H' _
      refine he w H' (e01.trans p0) (List.mem_of_getElem? hx) H' (Ex.refl _) _ fun b H2 nb e2 hb => ⟨rs.map V.ref, e2 _ _ pD, sz_lt (by rw [List.length_map, pl]; have := (List.getElem?_eq_some_iff.mp hx).1; omega), Ex.mut (p0.trans e2) hD, rs ++ [b], by rw [upd_same, List.map_append]; rfl, by rw [List.length_append, pl]; rfl, fun c hc => ?_, ?_⟩
      · rcases List.mem_append.mp hc with hc | hc
        · exact pn c hc
        · rw [List.mem_singleton.mp hc]
          exact (ne_of_none pD nb).symm
      · have bD : b ≠ D := (ne_of_none pD nb).symm
        rw [List.take_succ, hx, List.map_append]
        refine RowsS.snoc (by rw [upd_ne bD]; exact hb) (pR.mono fun c o hc h => by rw [upd_ne (pn c hc)]; exact e2 _ _ h)
  · obtain ⟨p0, rs, pD, pl, pn, pR⟩ := p
    rw [List.length_map, List.take_length] at pR
    exact q _ H' (e1.trans p0) ⟨D, rs, rfl, pD, pR⟩⟩
end
section
variable {σ : L2.St} {H : Hp} {ta tb te : TE}
theorem log_small {n : Nat} (h : n < 10000) : ((n : Nat) : Int).natAbs.log2 < 1920 := by
  rw [Int.natAbs_natCast]
  have : n.log2 ≤ n := Nat.log2_le_self n
  have h2 : n.log2 < 14 := by
    by_cases h0 : n = 0
    · subst h0; decide
    · exact (Nat.log2_lt h0).mpr (by omega)
  omega
/-- str(n) -/
theorem ev_numT {n : Nat} (h : Ev te σ H (.int (n : Int))) (hn : n < 10000) : Ev (tCB (fun xs H Q => ∃ i, xs = [.int i] ∧ i.natAbs.log2 < 1920 ∧ Q (.str (toString i)) H) (tCons te tNil)) σ H (.str (numT n)) := ev_cb (ea_cons h ea_nil) (rc_str (log_small hn))
theorem ev_adds {a b : Str} (ha : Ev ta σ H (.str a)) (hb : Ev tb σ H (.str b)) (h : a.length + b.length ≤ 100000) : Ev (tOp (fun x y H Q => ∃ i j, x = .str i ∧ y = .str j ∧ i.length + j.length ≤ sizeLine ∧ Q (.str (i ++ j)) H) ta tb) σ H (.str (a ++ b)) := ev_op ha hb (rv_adds h)
end
theorem small_ok {es ws : List Nat} (o : Fm.OkT es ws) : Small es ws := by
  refine small_of (fun v hv => ?_) (fun v hv => ?_)
  · obtain ⟨k, hk⟩ := List.getElem?_of_mem hv
    have h1 := o.up k v hk
    have h2 := (List.getElem?_eq_some_iff.mp hk).1
    have := o.len
    have := o.most
    omega
  · have := o.wt v hv
    omega
section
variable {K : PySem.W.Frag} {σ : L2.St} {H : Hp} {ta tb te : TE} {x y z : V} {sp : Sp} {E : XK}
theorem ev_call1P {P : V → Hp → Prop} (h : EvP te σ H P) (hs : ∀ v H1, Ex H H1 → P v H1 → SpV sp [v] H1 z) : Ev (tCall sp [] E (tCons te tNil)) σ H z := fun H1 e Q q =>
  h H1 e _ fun v H2 e2 p => hs v H2 (e.trans e2) p H2 (Ex.refl _) Q (fun H3 e3 => q H3 (e2.trans e3)) E
/-- a class made of two new lists -/
theorem ep_makeLL {C : Addr} {P : V → Hp → Prop} {xs ys : List V} (ha : EvL ta σ H xs) (hb : EvL tb σ H ys)
    (hs : ∀ q1 q2 H2, H2 q1 = some (.lst xs) → H2 q2 = some (.lst ys) → Ex H H2 → ∀ H1, Ex H2 H1 → ∀ x dx, H1 x = none → H1 dx = none → dx ≠ x → ∀ Q : VK, (∀ H3, Ex H1 H3 → P (.ref x) H3 → Q (.ref x) H3) → ∀ E : XK, sp (.ref x :: [.ref q1, .ref q2]) (upd (upd H1 dx (.own x)) x (.ins C dx [])) (fun v H3 => v = .non ∧ Q (.ref x) H3) E) :
    EvP (tMake C sp [] E (tCons ta (tCons tb tNil))) σ H P := fun H1 e Q q => ha H1 e _ fun q1 H2 _ e2 h2 => hb H2 (e.trans e2) _ fun q2 H3 _ e3 h3 x dx hx hdx ne =>
  hs q1 q2 H3 (e3 _ _ h2) h3 ((e.trans e2).trans e3) H3 (Ex.refl _) x dx hx hdx ne Q (fun H4 e4 p => q _ H4 ((e2.trans e3).trans e4) p) E
/-- isinstance of an own class's instance -/
structure IsiT (K : PySem.W.Frag) (C : Addr) : Prop where
  a : PySem.W.findIn K (.ref C) "__class__" = some (some (.builtin "object.__class__"))
  n : PySem.W.specialIn K (.builtin "object.__class__") "__get__" = some (some (.builtin "getset_descriptor.__get__"))
  t : PySem.W.takesIn K (.builtin "object.__class__") = some true
  m : PySem.W.mroIn K C (.type "object") = some true
theorem ev_isiOwn {C p dx : Addr} {fs : List (Str × V)} (I : IsiT K C) (c : Cls K C) (h : Ev ta σ H (.ref p)) (hp : H p = some (.ins C dx fs)) : Ev (tCB (rIsi K) (tCons ta (tCons (tC (.ref C)) tNil))) σ H (.bl true) :=
  ev_cb (ea_cons h (ea_cons ev_c ea_nil)) (rc_isi (.own C) (fun H1 e => .base (.ins (e p _ hp) c I.a I.n I.t I.m)) (by unfold PySem.W.kitOne; rw [if_pos (beq_self_eq_true _)]))
theorem ev_isiStr {x : Str} {b : Bool} {s : String} (h : Ev ta σ H (.str x)) (hk : kitB "str" s = some b) : Ev (tCB (rIsi K) (tCons ta (tCons (tC (.ty s)) tNil))) σ H (.bl b) :=
  ev_cb (ea_cons h (ea_cons ev_c ea_nil)) (rc_isi (.ty s) (fun _ _ => .base (.str x)) (kit_ty hk))
end
end Fi
/-! Texts cut and joined: what stays small and plain. -/
namespace Fi
open PySem L2 Evl TL
def Asc (x : Str) : Prop := ∀ c ∈ tl x, c < 128
theorem Asc.app {a b : Str} (ha : Asc a) (hb : Asc b) : Asc (a ++ b) := fun c hc => by
  rw [tl_append] at hc
  exact (List.mem_append.mp hc).elim (ha c) (hb c)
theorem Asc.ok {x : Str} (h : Asc x) : PyData.strOk x = true := by
  unfold PyData.strOk
  rw [Array.all_eq_true_iff_forall_mem]
  intro c hc
  exact decide_eq_true (Nat.lt_trans (h c (Array.mem_toList_iff.mpr hc)) (by decide))
theorem Asc.num (n : Nat) : Asc (numT n) := fun c hc => by
  rw [numT_tl] at hc
  have := numL_digits n c hc
  omega
theorem spl_props (S : List Nat) : ∀ (l : List Nat) (k : Nat) (acc : List Nat), spl S k acc l ≠ [] ∧ (∀ p ∈ spl S k acc l, ∀ c ∈ p, c ∈ acc ∨ c ∈ l) ∧ ((spl S k acc l).map List.length).sum ≤ acc.length + l.length ∧ (spl S k acc l).length ≤ l.length + 1
  | [], k, acc => by
    rw [spl_nil]
    exact ⟨by simp, fun p hp c hc => .inl (by rw [List.mem_singleton.mp hp] at hc; exact hc), by simp, by simp⟩
  | c :: r, k + 1, acc => by
    have e : spl S (k + 1) acc (c :: r) = spl S k acc r := rfl
    rw [e]
    obtain ⟨h1, h2, h3, h4⟩ := spl_props S r k acc
    exact ⟨h1, fun p hp x hx => (h2 p hp x hx).elim .inl fun z => .inr (List.mem_cons_of_mem _ z), by rw [List.length_cons]; omega, by rw [List.length_cons]; omega⟩
  | c :: r, 0, acc => by
    by_cases h : pre S (c :: r) = true
    · rw [spl_hit h]
      obtain ⟨h1, h2, h3, h4⟩ := spl_props S r (S.length - 1) []
      refine ⟨by simp, fun p hp x hx => ?_, ?_, ?_⟩
      · rcases List.mem_cons.mp hp with rfl | hp
        · exact .inl hx
        · exact (h2 p hp x hx).elim (fun z => by cases z) fun z => .inr (List.mem_cons_of_mem _ z)
      · rw [List.map_cons, List.sum_cons, List.length_cons]
        rw [List.length_nil] at h3
        omega
      · rw [List.length_cons, List.length_cons]; omega
    · have h : pre S (c :: r) = false := by
        cases q : pre S (c :: r) with
        | false => rfl
        | true => exact absurd q h
      rw [spl_miss h]
      obtain ⟨h1, h2, h3, h4⟩ := spl_props S r 0 (acc ++ [c])
      refine ⟨h1, fun p hp x hx => ?_, ?_, ?_⟩
      · rcases h2 p hp x hx with z | z
        · rcases List.mem_append.mp z with z | z
          · exact .inl z
          · rw [List.mem_singleton.mp z]; exact .inr List.mem_cons_self
        · exact .inr (List.mem_cons_of_mem _ z)
      · rw [List.length_append] at h3
        rw [List.length_cons]
        have : [c].length = 1 := rfl
        omega
      · rw [List.length_cons]; omega
/-- words: few, short, plain -/
structure WOk (ws : List Str) (n : Nat) : Prop where
  len : ws.length ≤ n
  sum : (ws.map (·.length)).sum ≤ n
  asc : ∀ x ∈ ws, Asc x
theorem split_ok {x y : Str} (hx : Asc x) (hy : tl y ≠ []) (hk : y.cps.all (· < 256) = true) : Txt.split x y ≠ [] ∧ WOk (Txt.split x y) (x.length + 1) := by
  have e := split_spl x y hy (kind_ok hk)
  obtain ⟨h1, h2, h3, h4⟩ := spl_props (tl y) (tl x) 0 []
  rw [← e] at h1 h2 h3 h4
  refine ⟨fun z => h1 (by rw [z]; rfl), ?_, ?_, fun p hp c hc => ?_⟩
  · rw [List.length_map, ← len_tl] at h4
    exact h4
  · rw [List.map_map, ← len_tl] at h3
    have e2 : (List.length ∘ tl) = fun s : Str => s.length := by funext s; exact (len_tl s).symm
    rw [e2] at h3
    have : ([] : List Nat).length = 0 := rfl
    omega
  · rcases h2 (tl p) (List.mem_map.mpr ⟨p, hp, rfl⟩) c hc with z | z
    · cases z
    · exact hx c z
theorem sp_ok : tl (" " : Str) ≠ [] ∧ (" " : Str).cps.all (· < 256) = true ∧ tl (":" : Str) ≠ [] ∧ (":" : Str).cps.all (· < 256) = true := by decide +kernel
theorem cutS_asc {z : Str} (h : Asc z) (lo hi : Option Int) : Asc (cutS z lo hi) := fun c hc => by
  have hc : c ∈ (z.cps.toList.drop (HT.sIx z.length 0 lo)).take (HT.sIx z.length z.length hi - HT.sIx z.length 0 lo) := hc
  exact h c (List.mem_of_mem_drop (List.mem_of_mem_take hc))
theorem cutV_sub (ws : List Str) (lo hi : Option Int) : ∃ vs : List Str, cutV (ws.map V.str) lo hi = vs.map V.str ∧ vs.Sublist ws := by
  refine ⟨(ws.drop (HT.sIx ws.length 0 lo)).take (HT.sIx ws.length ws.length hi - HT.sIx ws.length 0 lo), ?_, (List.take_sublist _ _).trans (List.drop_sublist _ _)⟩
  unfold cutV
  rw [List.length_map, List.map_take, List.map_drop]
theorem sum_sub : ∀ {vs ws : List Nat}, vs.Sublist ws → vs.sum ≤ ws.sum
  | _, _, .slnil => Nat.le_refl _
  | _, _, .cons a h => by rw [List.sum_cons]; have := sum_sub h; omega
  | _, _, .cons₂ a h => by rw [List.sum_cons, List.sum_cons]; have := sum_sub h; omega
theorem WOk.sub {vs ws : List Str} {n : Nat} (h : WOk ws n) (s : vs.Sublist ws) : WOk vs n :=
  ⟨Nat.le_trans s.length_le h.len, Nat.le_trans (sum_sub (s.map _)) h.sum, fun x hx => h.asc x (s.subset hx)⟩
theorem WOk.app {vs ws : List Str} {n m : Nat} (h : WOk vs n) (g : WOk ws m) : WOk (vs ++ ws) (n + m) :=
  ⟨by rw [List.length_append]; have := h.len; have := g.len; omega, by rw [List.map_append, List.sum_append]; have := h.sum; have := g.sum; omega, fun x hx => (List.mem_append.mp hx).elim (h.asc x) (g.asc x)⟩
theorem WOk.mono {vs : List Str} {n m : Nat} (h : WOk vs n) (k : n ≤ m) : WOk vs m := ⟨Nat.le_trans h.len k, Nat.le_trans h.sum k, h.asc⟩
theorem joinL_props (S : List Nat) : ∀ ps : List (List Nat), (joinL S ps).length ≤ (ps.map List.length).sum + ps.length * S.length ∧ ∀ c ∈ joinL S ps, c ∈ S ∨ ∃ p ∈ ps, c ∈ p
  | [] => ⟨Nat.zero_le _, fun c h => by cases h⟩
  | [p] => ⟨by show p.length ≤ _; simp, fun c h => .inr ⟨p, List.mem_singleton.mpr rfl, h⟩⟩
  | p :: q :: r => by
    obtain ⟨h1, h2⟩ := joinL_props S (q :: r)
    have e : joinL S (p :: q :: r) = p ++ (S ++ joinL S (q :: r)) := rfl
    rw [e]
    refine ⟨?_, fun c hc => ?_⟩
    · rw [List.length_append, List.length_append, List.map_cons, List.sum_cons, List.length_cons, Nat.succ_mul]
      omega
    · rcases List.mem_append.mp hc with hc | hc
      · exact .inr ⟨p, List.mem_cons_self, hc⟩
      · rcases List.mem_append.mp hc with hc | hc
        · exact .inl hc
        · rcases h2 c hc with z | ⟨x, hx, z⟩
          · exact .inl z
          · exact .inr ⟨x, List.mem_cons_of_mem _ hx, z⟩
theorem join_ok {ws : List Str} {n : Nat} (h : WOk ws n) : (Txt.join " " ws).length ≤ n + n ∧ Asc (Txt.join " " ws) := by
  have e : tl (Txt.join " " ws) = joinL (tl (" " : Str)) (ws.map tl) := by rw [join_eq, tl_join]
  obtain ⟨h1, h2⟩ := joinL_props (tl (" " : Str)) (ws.map tl)
  have e2 : (ws.map tl).map List.length = ws.map (·.length) := by
    rw [List.map_map]
    exact List.map_congr_left fun s _ => (len_tl s).symm
  refine ⟨?_, fun c hc => ?_⟩
  · rw [len_tl, e, tl_lit.2.2.1]
    rw [e2, List.length_map, tl_lit.2.2.1] at h1
    have := h.len
    have := h.sum
    have : ws.length * [32].length = ws.length := Nat.mul_one _
    omega
  · rw [e] at hc
    rcases h2 c hc with z | ⟨p, hp, z⟩
    · rw [tl_lit.2.2.1] at z
      rw [List.mem_singleton.mp z]
      decide
    · obtain ⟨x, hx, rfl⟩ := List.mem_map.mp hp
      exact h.asc x hx c z
theorem mem_len {ws : List Str} {n : Nat} (h : WOk ws n) {x : Str} (hx : x ∈ ws) : x.length ≤ n := by
  have k : ∀ {l : List Nat} {m : Nat}, m ∈ l → m ≤ l.sum := fun {l m} => by
    induction l with
    | nil => intro z; cases z
    | cons a l ih =>
      intro z
      rw [List.sum_cons]
      rcases List.mem_cons.mp z with rfl | z
      · omega
      · have := ih z
        omega
  exact Nat.le_trans (k (List.mem_map.mpr ⟨x, hx, rfl⟩)) h.sum
/-- a text due in words is plain -/
theorem due_asc (es ws : List Nat) : ∀ i, Asc (dueTo es ws i)
  | 0 => Asc.app (fun c hc => by rw [tl_lit.1] at hc; revert hc; revert c; decide) (Asc.num _)
  | i + 1 => by
    have a1 : Asc " " := fun c hc => by rw [tl_lit.2.2.1] at hc; rw [List.mem_singleton.mp hc]; decide
    have a2 : Asc ":" := fun c hc => by rw [tl_lit.2.1] at hc; rw [List.mem_singleton.mp hc]; decide
    exact Asc.app (Asc.app (Asc.app (Asc.app (due_asc es ws i) a1) (Asc.num _)) a2) (Asc.num _)
end Fi
/-! A comprehension whose element calls what may raise. -/
namespace Fi
open PySem L2 Evl
/-- a heap without one address -/
def hid (h : Heap) (C : Addr) : Heap := PySem.W.hideAll h [C]
theorem hid_get {h : Heap} {C b : Addr} {o : Obj} (e : h.get? b = some o) (n : b ≠ C) : (hid h C).get? b = some o := PySem.W.hideAll_get _ e (by simpa using n)
theorem hid_of {h : Heap} {C b : Addr} {o : Obj} (e : (hid h C).get? b = some o) : h.get? b = some o := PySem.W.of_hideAll _ e
theorem hid_none {h : Heap} {C : Addr} : (hid h C).get? C = none := PySem.W.hideAll_none _ (by simp)
theorem hid_ne {h : Heap} {C b : Addr} {o : Obj} (e : (hid h C).get? b = some o) : b ≠ C := fun z => by rw [z, hid_none] at e; cases e
/-- frames read by their own objects alone -/
theorem funFrames_by {B B' h h' : Heap} : ∀ {l : List Env}, h.FunFrames B l → (∀ b ∈ frs l, B'.get? b = none) → (∀ b ∈ frs l, ∀ o, h.get? b = some o → ∃ o', h'.get? b = some o' ∧ o'.data = o.data) → h'.FunFrames B' l
  | [], _, _, _ => trivial
  | env :: l, ⟨hk, ⟨L, o, hf, _, ho, hd⟩, hr⟩, hn, k => by
    have mL : L ∈ frs (env :: l) := List.mem_filterMap.mpr ⟨env, List.mem_cons_self, hf⟩
    obtain ⟨o', q1, q2⟩ := k L mL o ho
    exact ⟨hk, ⟨L, o', hf, hn L mL, q1, fun vs z => hd vs (q2 ▸ z)⟩, funFrames_by hr (fun b hb => by
      obtain ⟨v, hv, q⟩ := List.mem_filterMap.mp hb
      exact hn b (List.mem_filterMap.mpr ⟨v, List.mem_cons_of_mem _ hv, q⟩)) fun b hb => by
      obtain ⟨v, hv, q⟩ := List.mem_filterMap.mp hb
      exact k b (List.mem_filterMap.mpr ⟨v, List.mem_cons_of_mem _ hv, q⟩)⟩
section
variable {B h h' : Heap} {l : List Env} {a C L : Addr} {Z : Obj → Prop} {fl : Value} {oC : Obj}
/-- a trace, in a heap with the same records -/
theorem tracedZ_rec {B' : Heap} (x : HandSPX.TracedZ h B a Z fl) (hn : ∀ b, B.get? b = none → B'.get? b = none) (k : ∀ b o, h.get? b = some o → (∃ vs, o.data = .fields vs) → h'.get? b = some o) : HandSPX.TracedZ h' B' a Z fl := by
  obtain ⟨oe, vs, T, oT, ts, p1, p2, p3, p4, p5, p6, p7, p8, p9⟩ := x
  exact ⟨oe, vs, T, oT, ts, k a _ p1 ⟨_, p3⟩, p2, p3, p4, hn T p5, p6, k T _ p7 ⟨_, p8⟩, p8, p9⟩
/-- lifted from the heap without C -/
theorem sky_lift (x : Sky B l a Z L (hid h C)) : Sky B l a Z L h := by
  have up : ∀ b o, (hid h C).get? b = some o → h.get? b = some o := fun b o => hid_of
  have fr : ∀ {l}, (hid h C).FunFrames B l → h.FunFrames B l := fun f => funFrames_by f (fun b hb => (f.mem hb).1) fun b _ o e => ⟨o, hid_of e, rfl⟩
  rcases x with ⟨q1, q2, q3, oe, vs, q4, q5, q6, q7⟩ | ⟨q1, q2, q3, q4⟩ | ⟨q1, q2, q3, q4⟩
  · exact .inl ⟨fun b o e => up b o (q1 b o e), q2, fr q3, oe, vs, up _ _ q4, q5, q6, q7⟩
  · exact .inr (.inl ⟨fun b o e => up b o (q1 b o e), q2, fr q3, tracedZ_rec q4 (fun _ z => z) fun b o e _ => up b o e⟩)
  · exact .inr (.inr ⟨fun b o e => up b o (q1 b o e), q2, fr q3, tracedZ_rec q4 (fun _ z => z) fun b o e _ => up b o e⟩)
theorem sky_stays (x : Sky B l a Z L h) : B.StaysIn h := by
  rcases x with q | q | q
  · exact q.1
  · exact q.1
  · exact q.1
/-- held, C's object (no record, not in the ground) changed -/
theorem held_but (x : HandSPX.HeldZ B l a Z L h) (hB : B.get? C = none) (hC : h.get? C = some oC) (nf : ∀ vs, oC.data ≠ .fields vs) (nfr : C ∉ frs l) (k : ∀ b, b ≠ C → h'.get? b = h.get? b) : HandSPX.HeldZ B l a Z L h' := by
  obtain ⟨q1, q2, q3, q4⟩ := x
  refine ⟨fun b o e => ?_, q2, funFrames_by q3 (fun b hb => (q3.mem hb).1) fun b hb o e => ⟨o, ?_, rfl⟩, tracedZ_rec q4 (fun _ z => z) fun b o e ⟨vs, d⟩ => ?_⟩
  · rw [k b fun z => by rw [z, hB] at e; cases e]
    exact q1 b o e
  · rw [k b fun z => nfr (z ▸ hb)]
    exact e
  · rw [k b fun z => by rw [z, hC] at e; cases e; exact nf vs d]
    exact e
end
section
variable {X : Cx} {pins pins' : List (Addr × Obj)} {σ σ' : L2.St} {H3 H : Hp} {s3 s s' : Shared} {scope : Scope} {ce : Env} {fp : List Addr} {Fx : Value → Shared → Prop} {E : XK} {W : WX} {u : Value}
/-- what the block owes of an exception -/
def blkF (X : Cx) (ce : Env) : Value → Shared → Prop := notedBy (model X.prog X.w) X.A ce (CompFails (model X.prog X.w) X.A X.xe ce)
theorem blk_raises (hs : X.stack = X.env :: X.outer) (hf : X.env.frame = some X.env.locals) (tk : Takes X W) (hW : ∀ cls d σ H, E cls d H → W cls d σ H) (hce : ce.frame = X.env.frame) (hC : ce.locals = s3.heap.objs.size)
    (I3 : Inv X pins σ H3 s3) (hch : ∀ b ∈ fp, (b ∈ X.ex ∨ X.s_0.heap.objs.size ≤ b) ∧ b ≠ X.env.locals ∧ (∀ x c, X.env.cells.lookup x = some c → c ≠ b) ∧ ∀ p ∈ X.pn ++ pins, p.1 ≠ b)
    (J : Inv { X.blk s3 H3 scope ce fp with xe := Fx } pins' σ' H s) (c : L2.CX X.prog X.w X.stack H s E u s') : blkF X ce u s' := by
  obtain ⟨a, B, H', cls, d, rfl, fly, hok, ub, na, os, ag, hE⟩ := c
  have IX : Inv X pins σ H s := I3.call' (ch := fp) J.os J.base J.hok J.bare hch
  have nC : H ce.locals = none := J.free
  have fpC : FpOk X pins H ce.locals := I3.fpOk (by rw [hC]; exact Nat.le_refl _) nC
  obtain ⟨f0, f1, f2, f3, f4, f5⟩ := fpC
  have nfr : ce.locals ∉ frs X.stack := fun hb => by
    obtain ⟨_, o, ho, _⟩ := I3.stack.mem hb
    exact absurd (Nat.lt_of_lt_of_le (Heap.lt_size ho) (Nat.le_of_eq hC.symm)) (Nat.lt_irrefl _)
  -- the block's dict
  obtain ⟨m, hns, _⟩ := J.loc
  have hns : s.heap.Ns ce.locals m := hns
  obtain ⟨oC, esC, epC, eC, dC, rC⟩ := id hns
  have nfC : ∀ vs, oC.data ≠ .fields vs := fun vs z => by rw [dC] at z; cases z
  have eB : B.get? ce.locals = some oC := ub.keep _ _ eC nC nfr
  have eC' : s'.heap.get? ce.locals = some oC := fly.1 _ _ eB
  -- without it
  have Ih : Inv X pins σ H { s with heap := hid s.heap ce.locals, toks := s.toks } := IX.turned (fun b o n e => hid_get e n) f0 f1 f3 f4 f5
  have nC' : H' ce.locals = none := ub.free _ _ eC nC
  have ch : L2.CX X.prog X.w X.stack H { s with heap := hid s.heap ce.locals, toks := s.toks } E (.ref a) { s' with heap := hid s'.heap ce.locals } := by
    refine ⟨a, hid B ce.locals, H', cls, d, rfl, ⟨fun b o e => hid_get (fly.1 b o (hid_of e)) (hid_ne e), ?_, ?_, ?_⟩, fun b o e => ?_, ⟨?_, ?_, ?_, ?_, ub.tups, ub.frzs, ub.tbls⟩, na, os, ag, hE⟩
    · cases q : (hid B ce.locals).get? a with
      | none => rfl
      | some o => have z := hid_of q; rw [fly.2.1] at z; cases z
    · refine funFrames_by fly.2.2.1 (fun b hb => ?_) fun b hb o e => ⟨o, hid_get e fun z => nfr (z ▸ hb), rfl⟩
      cases q : (hid B ce.locals).get? b with
      | none => rfl
      | some o => have z := hid_of q; rw [(fly.2.2.1.mem hb).1] at z; cases z
    · refine tracedZ_rec fly.2.2.2 (fun b z => ?_) fun b o e ⟨vs, dd⟩ => hid_get e fun z => by rw [z, eC'] at e; cases e; exact nfC vs dd
      cases q : (hid B ce.locals).get? b with
      | none => rfl
      | some o => have y := hid_of q; rw [z] at y; cases y
    · refine (hok b o e).stay (fun x v hc q => hid_get q fun z => ?_) (fun _ q => q) fun _ _ q => q
      rcases hc with hc | hc
      · rw [← hc, z, nC'] at e; cases e
      · rw [z, nC'] at hc; cases hc
    · exact fun b o e n hb => hid_get (ub.keep b o (hid_of e) n hb) (hid_ne e)
    · intro b o e hb
      obtain ⟨sl, q⟩ := ub.slot b o (hid_of e) hb
      exact ⟨sl, hid_get q (hid_ne e)⟩
    · exact fun b o e n => ub.free b o (hid_of e) n
    · intro b o e hb
      obtain ⟨o', q⟩ := ub.there b o (hid_of e) hb
      exact ⟨o', hid_get q (hid_ne e)⟩
  obtain ⟨a', B', sI, pins1, σ1, H2, cls', d', ea, J2, nb, up, sky, na2, os2, ag2, w2⟩ := XE.of_call Ih (fun cls d H' z => hW cls d σ H' z) ch
  cases ea
  have B'C : B'.get? ce.locals = none := by
    cases q : B'.get? ce.locals with
    | none => rfl
    | some o => have z := sky_stays sky _ _ q; rw [hid_none] at z; cases z
  have sIC : ∀ o, sI.heap.get? ce.locals = some o → False := fun o e => by
    have z := nb _ _ e nfr
    rw [B'C] at z; cases z
  have sky' : Sky B' X.stack a (Zc cls' d') X.env.locals s'.heap := sky_lift sky
  have hfr : X.A.frames = some (X.env :: X.outer) := by rw [IX.ok.frames, hs]
  rw [hs] at sky' nfr nb
  -- from the note on
  have go : ∀ h1, HandSPX.HeldZ B' (X.env :: X.outer) a (Zc cls' d') X.env.locals h1 → s'.heap.UpToSlots h1 → CompFails (model X.prog X.w) X.A X.xe ce (.ref a) { s' with heap := h1 } := fun h1 held up1 => by
    obtain ⟨slC, e1C⟩ := up1 _ _ eC' nfC
    refine ⟨m, ⟨_, esC, epC, e1C, dC, rC⟩, fun h2 m2 hn2 hs2 => ?_⟩
    obtain ⟨k1, k2, k3, tr⟩ := held_but held B'C e1C nfC nfr hs2.2
    obtain ⟨oe, vs, T, oT, ts, p1, p2, p3, p4, p5⟩ := id tr
    unfold passOn
    refine wpAny_bind (wpAny_field p1 p3 p4 ?_)
    have nz : ¬ ((Value.ref T == Value.none) = true) := by simp
    rw [if_neg nz, hce, hf]
    refine wpAny_bind (HandSPX.setFlight_onZ ⟨k1, k2, k3, tr⟩ fun h4 held4 up4 => wpAny_throw (tk _ _ ?_))
    refine ⟨a, B', sI, pins1, σ1, H2, cls', d', rfl, J2, (by rw [hs]; exact nb), fun b o e nfb => ?_, .inr (.inr (by rw [hs]; exact held4)), na2, os2, ag2, w2⟩
    have hb : b ≠ ce.locals := fun z => sIC o (z ▸ e)
    obtain ⟨s1, z1⟩ := up b o e nfb
    obtain ⟨s2, z2⟩ := up1 b _ (hid_of z1) nfb
    have z3 := z2
    rw [← hs2.2 b hb] at z3
    obtain ⟨s3, z4⟩ := up4 b _ z3 nfb
    exact ⟨s3, z4⟩
  show wpAny (model X.prog X.w) X.A (noteFrame (.ref a) ce) _ _ s'
  rw [noteFrame_env _ hce]
  have sZ : HandSPX.Steady (Zc cls' d') := Zc.steady
  rcases sky' with ⟨q1, q2, q3, oe, vs, q4, q5, q6, q7⟩ | q | q
  · exact HandSPX.look_newZ sZ hfr q3 hf q4 q1 q2 q6 q7 q5 go
  · exact HandSPX.looks_onZ sZ hfr hf q go
  · exact HandSPX.againZ hf q.2.2.2 (go s'.heap q (Heap.UpToSlots.refl _))
end
section
variable {X : Cx} {pins : List (Addr × Obj)} {σ : L2.St} {H : Hp} {s : Shared} {E : XK} {W : WX}
theorem lcX_core {Q : VK} {elt tg iter : Expr} {scope : Scope} {own : List (Str × Nat)} {pos pos' : Pos} {wi : TI} {g : TG} {te : TE} {uu : Value → Sem Unit} {Qf : Value → Shared → Prop}
    (hs : X.stack = X.env :: X.outer) (hf : X.env.frame = some X.env.locals) (tk : Takes X W) (hW : ∀ cls d σ H, E cls d H → W cls d σ H) (hc : X.calm = true) (hN : X.N.Nodup) (I : Inv X pins σ H s) (hi : PI X tg iter wi) (ok : BlkOk X.N X.env.scope scope own)
    (hg : ∀ s H C cl fp, PG (X.blk s H scope (compEnvC scope cl C X.env) fp) tg g)
    (he : ∀ s H C cl fp Fx, Passes (L2.CX X.prog X.w) { X.blk s H scope (compEnvC scope cl C X.env) fp with xe := Fx } E → PE { X.blk s H scope (compEnvC scope cl C X.env) fp with xe := Fx } elt te)
    (hfs : ∀ x, foldedSetIterable iter X.env x = pure x) (h : tLc wi g tYes te (own.map (·.2)) σ H Q)
    (hR : ∀ D C s' m H', Inv X pins σ H' s' → Q (.ref D) H' → s'.heap.Ns C m → FpOk X pins H' C → ∀ ce : Env, ce.locals = C → compEnds (model X.prog X.w) X.A X.xe (some uu) Qf (.ref D) ce (.ok .next) s') :
    wpAny (model X.prog X.w) X.A (comprehension (.ListComp elt [⟨tg, iter, [], 0⟩] scope pos) scope X.env pos' (newList []) false (eval iter X.env) (some uu)) Qf X.xe s := by
  have fre : ∀ y ∈ scope.names, y.2 = .free → ∃ c, X.env.cells.lookup y.1 = some c := fun y hy e => (ok.free y hy e).elim (fun k => I.ok.has _ (.inl k)) fun k => I.ok.has _ (.inr k)
  refine comprehension_at (use := some uu) rfl hfs (closure_ok fre) ok.kind (fun y hy e => (ok.uniq y hy).trans (congrArg some e)) (thn (hi.run pins s σ H _ I h) fun xv s1 hx => thn hx fun itv s2 h2 => ?_)
  obtain ⟨it, fp, tn, Jt, H2, rfl, I2, T, st2, f2, q⟩ := h2
  refine wpAny_newObj_type (newEnv_comp ?_) (Nat.zero_le _)
  generalize hD : s2.heap.objs.size = D
  obtain ⟨Wm, ⟨m0, w0⟩, turn⟩ := q D (I2.hok.fresh (Nat.le_of_eq hD))
  -- behind the new list
  generalize e3 : ({ s2 with heap := s2.heap.push { cls := .type "list", data := .seq ([] : List Value).toArray } } : Shared) = s3
  have p3 : s3.heap = s2.heap.push { cls := .type "list", data := .seq ([] : List Value).toArray } := e3 ▸ rfl
  have I3 : Inv X pins σ (upd H2 D (.lst [])) s3 := e3 ▸ hD ▸ I2.laid (t' := s2.toks) (fun b o z => Heap.get?_push_of_some _ z) (Nat.le_refl _) ⟨Nat.zero_le _, [], 0, .nil, Heap.get?_push_size _ rfl⟩
  have bel : ∀ b ∈ fp, b < s2.heap.objs.size := fun b hb => Heap.lt_size (T.obj _ _ st2 b hb).choose_spec.1
  have f3 : ∀ b ∈ fp, FpOk X pins (upd H2 D (.lst [])) b ∧ b < s3.heap.objs.size := fun b hb => ⟨⟨(upd_ne (hD ▸ Nat.ne_of_lt (bel b hb))).trans (f2 b hb).1, (f2 b hb).2⟩, p3 ▸ (Heap.size_push s2.heap _).symm ▸ Nat.lt_succ_of_lt (bel b hb)⟩
  have st3 : tn 0 s3.heap := T.keep _ _ _ st2 fun b _ o z => p3 ▸ Heap.get?_push_of_some _ z
  have I4 := block_start I3 ok hN f3
  generalize ecl : cellsFrom (s3.heap.objs.size + 1) scope.names (cloFrom X.env.cells scope.names []) = cl at I4
  show codeAny _ _ (.compStart _ 0 (.ref it) (.ref D) (compEnvC scope cl s3.heap.objs.size X.env)) (compEnds _ _ _ _ _ _ (compEnvC scope cl s3.heap.objs.size X.env)) { s3 with heap := pushCells (s3.heap.push { cls := .type "dict", data := .dict #[] }) scope.names }
  have pg := hg s3 (upd H2 D (.lst [])) s3.heap.objs.size cl fp
  have pe := he s3 (upd H2 D (.lst [])) s3.heap.objs.size cl fp (blkF X (compEnvC scope cl s3.heap.objs.size X.env))
  have hce : (compEnvC scope cl s3.heap.objs.size X.env).frame = X.env.frame := rfl
  have hcl : (compEnvC scope cl s3.heap.objs.size X.env).locals = s3.heap.objs.size := rfl
  generalize compEnvC scope cl s3.heap.objs.size X.env = ce at *
  have nfp : ∀ b ∈ fp, (upd H2 D (.lst [])) b = none := fun b hb => (f3 b hb).1.1
  generalize upd H2 D (.lst []) = H3 at *
  have hch : ∀ b ∈ fp, (b ∈ X.ex ∨ X.s_0.heap.objs.size ≤ b) ∧ b ≠ X.env.locals ∧ (∀ x c, X.env.cells.lookup x = some c → c ≠ b) ∧ ∀ p ∈ X.pn ++ pins, p.1 ≠ b := fun b hb => ⟨(f3 b hb).1.2.2.2.1, (f3 b hb).1.2.1, (f3 b hb).1.2.2.2.2.1, (f3 b hb).1.2.2.2.2.2⟩
  have pe := pe fun pins' σ' H' sx u s' Jx cx => blk_raises hs hf tk hW hce hcl I3 hch Jx cx
  generalize e4 : ({ s3 with heap := pushCells (s3.heap.push { cls := .type "dict", data := .dict #[] }) scope.names } : Shared) = s4 at I4 ⊢
  have st4 : tn 0 s4.heap := T.keep _ _ _ st3 fun b _ o z => e4 ▸ pushCells_keeps _ _ _ _ (Heap.get?_push_of_some _ z)
  have stat : ∀ {σ' : L2.St} {H' : Hp} {s' : Shared}, Inv (X.blk s3 H3 scope ce fp) [] σ' H' s' → (∀ b ∈ fp, H' b = none) → ∀ b ∈ fp, FpOk (X.blk s3 H3 scope ce fp) [] H' b := fun {_ H' _} Iz hn b hb =>
    ⟨hn b hb, (Iz.ok.exf b hb).1, Iz.ok.exfs b hb, .inl hb, fun x c z => (Iz.ok.exf b hb).2 x c z, fun p hp => (List.not_mem_nil (show p ∈ ([] : List (Addr × Obj)) from hp)).elim⟩
  have loop : codeAny (model X.prog X.w) X.A (.compLoop (.ListComp elt [⟨tg, iter, [], 0⟩] scope pos) 0 (.ref it) (.ref D) ce) (compEnds (model X.prog X.w) X.A X.xe (some uu) Qf (.ref D) ce) s4 := by
    refine compLoop_any (fun n s' => ∃ i H', Inv (X.blk s3 H3 scope ce fp) [] (wipe σ (own.map (·.2))) H' s' ∧ tn i s'.heap ∧ (∀ b ∈ fp, H' b = none) ∧ Wm i n H') ?_ m0 ⟨0, H3, I4, st4, nfp, w0⟩
    rintro n s5 ⟨i, H5, I5, st5, n5, w5⟩
    rcases turn i n H5 w5 with ⟨stop, qq⟩ | ⟨go, Nx, hNx, step⟩
    · refine thnF (T.done (X.blk s3 H3 scope ce fp) rfl rfl rfl hc i [] s5 _ H5 (fun _ _ => False) I5 (stat I5 n5) st5 stop) fun r s6 ⟨hr, I6⟩ => ?_
      subst hr
      obtain ⟨m, hn, _⟩ := I6.loc
      exact hR D ce.locals s6 m H5 (I3.call' (ch := fp) I6.os I6.base I6.hok I6.bare hch) qq hn (I3.fpOk (Nat.le_of_eq hcl.symm) I6.free) ce rfl
    · refine thnF (T.item (X.blk s3 H3 scope ce fp) rfl rfl rfl hc i [] s5 _ H5 (fun _ _ => False) I5 (stat I5 n5) st5 go) fun r s6 ⟨u, hr, h6⟩ => ?_
      subst hr
      refine thnF h6 fun _ s7 ⟨x, H7, I7, r7, y7, st7, n7⟩ => ?_
      have I7p := I7.pinned (stat I7 n7) (T.obj _ _ st7)
      refine thnF (pg.run _ s7 _ H7 x u _ I7p r7 (step x H7 y7)) fun _ s8 ⟨σ8, H8, I8, hw8, q8⟩ => ?_
      refine thnF ((pts_nil (X := X.blk s3 H3 scope ce fp)).run _ s8 σ8 H8 _ I8 q8) fun b s9 ⟨H9, I9, q9⟩ => ?_
      have fin : ∀ {s' : Shared} {H' : Hp}, Inv (X.blk s3 H3 scope ce fp) ([] ++ pinsAt fp s7.heap) σ8 H' s' → Nx H' → ∃ m, m < n ∧ ∃ i H', Inv (X.blk s3 H3 scope ce fp) [] (wipe σ (own.map (·.2))) H' s' ∧ tn i s'.heap ∧ (∀ b ∈ fp, H' b = none) ∧ Wm i m H' := fun {s' H'} Iz nx => by
        obtain ⟨m', hm, wz⟩ := hNx H' nx
        have pz : ∀ b ∈ fp, ∀ o, s7.heap.get? b = some o → s'.heap.get? b = some o ∧ H' b = none := fun b hb o z => have k := Iz.pin (b, o) (List.mem_append_right _ (List.mem_append_right _ (mem_pinsAt hb z))); ⟨k.1, k.2.1⟩
        have lz : (wipe σ (own.map (·.2))).length = σ8.length := by rw [← hw8, wipe_length]
        exact ⟨m', hm, i + 1, H', (Iz.unpinned (pins := [])).weak lz (fun j v z => (wipe_some (hw8.symm ▸ z)).1), T.keep _ _ _ st7 fun b hb o z => (pz b hb o z).1, fun b hb => have ⟨o, z, _⟩ := T.obj _ _ st7 b hb; (pz b hb o z).2, wz⟩
      cases b with
      | false => exact fin I9 q9
      | true => exact thn (pe.run _ s9 σ8 H9 _ (I9.wish _) q9) fun z s10 ⟨yv, H10, I10, r10, acc, hD10, hz10, nx⟩ => app_ok (X := X.blk s3 H3 scope ce fp) I10.unwish hD10 hz10 r10 fun s11 I11 => fin I11 nx
  exact codeAny_compStart_list loop (T.self X.A 0 _ _ _ st4 loop)
end
section
variable {X : Cx} {E : XK} {W : WX}
/-- name = [..], the element calling what may raise -/
theorem ps_setLcX {i : Nat} {y : Str} {py : Pos} {elt tg iter : Expr} {scope : Scope} {own : List (Str × Nat)} {pos spos : Pos} {wi : TI} {g : TG} {te : TE} (hs : X.stack = X.env :: X.outer) (hf : X.env.frame = some X.env.locals) (tk : Takes X W) (hW : ∀ cls d σ H, E cls d H → W cls d σ H) (hc : X.calm = true) (hN : X.N.Nodup)
    (hy : X.N[i]? = some y) (hyl : X.env.scope.names.lookup y = some .local) (hsw : swapsWith (.ListComp elt [⟨tg, iter, [], 0⟩] scope pos) (some (.Name y py)) spos.line X.env = pure true) (hi : PI X tg iter wi) (ok : BlkOk X.N X.env.scope scope own)
    (hg : ∀ s H C cl fp, PG (X.blk s H scope (compEnvC scope cl C X.env) fp) tg g)
    (he : ∀ s H C cl fp Fx, Passes (L2.CX X.prog X.w) { X.blk s H scope (compEnvC scope cl C X.env) fp with xe := Fx } E → PE { X.blk s H scope (compEnvC scope cl C X.env) fp with xe := Fx } elt te) (hfs : ∀ x, foldedSetIterable iter X.env x = pure x := by intro _; rfl) :
    PS X (.Assign [.Name y py] (.ListComp elt [⟨tg, iter, [], 0⟩] scope pos) spos) (tAsg (tLc wi g tYes te (own.map (·.2))) (gName i)) := ⟨fun pins s σ H D I h => by
  rw [exec_Assign_Name_used _ _ _ _ hsw]
  refine wpAny_bind (wpAny_standAt (wpAny_bind ?_))
  show wpAny _ X.A (do let _ ← comprehension _ scope X.env _ (newList []) false (eval iter X.env) (some (assign (.Name y py) X.env))) _ _ s
  have h : tLc wi g tYes te (own.map (·.2)) σ H (fun x H1 => gName i x σ H1 D.nx) := h
  refine wpAny_bind (thn (lcX_core (Qf := fun _ s' => SP X pins D .next s') hs hf tk hW hc hN I hi ok hg he hfs h fun Dl C s' m H' I' q hn fC ce hC => ?_) fun _ s' hq => wpAny_pure (wpAny_pure hq))
  show wpAny _ _ (assign (.Name y py) X.env (.ref Dl)) _ _ _
  rw [hC]
  refine wpAny_assign_Name (store_ok2 (v := V.ref Dl) I' hN hy (.inl hyl) rfl (fun s2 I2 ⟨b, sb, hb⟩ => ?_) (.inr hyl))
  have ne : C ≠ b := hb.elim (fun z => z ▸ fC.2.1) fun z k => fC.2.2.2.2.1 y b z k.symm
  exact ⟨m, hn.sameBut sb ne, fun h3 sb3 => ⟨_, H', I2.turned (t' := s2.toks) (fun c o hc z => (sb3.2 c hc).trans z) fC.1 fC.2.1 fC.2.2.2.1 fC.2.2.2.2.1 fC.2.2.2.2.2, q⟩⟩⟩
end
section
variable {K : PySem.W.Frag} {σ : L2.St} {H : Hp} {te tl : TE} {D : Ends} {tz : TS}
def valsTo (f : Nat → Option Nat) (i : Nat) : List Nat := (List.range i).map fun i => (f i).getD 0
theorem valsTo_succ (f : Nat → Option Nat) (i : Nat) : valsTo f (i + 1) = valsTo f i ++ [(f i).getD 0] := by
  unfold valsTo
  rw [List.range_succ, List.map_append]
  rfl
theorem valsTo_len (f : Nat → Option Nat) (i : Nat) : (valsTo f i).length = i := by
  unfold valsTo
  simp
theorem lcX_at {a : Addr} {xs : List V} {j : Nat} {vs : List Nat} (f : Nat → Option Nat) {H1 : Hp} (e : Ex H H1) (hx : SqL K H1 a xs) (hz : xs.length ≤ 40000) (hw : ∀ x, wipe ((wipe σ vs).set j (some x)) vs = wipe σ vs)
    (he : ∀ (i : Nat) (x : V) H1, Ex H H1 → xs[i]? = some x → (∀ n, f i = some n → Ev te ((wipe σ vs).set j (some x)) H1 (.int (n : Int))) ∧ (f i = none → ∀ Q, te ((wipe σ vs).set j (some x)) H1 Q)) (Q : VK)
    (q : (∀ i, i < xs.length → (f i).isSome = true) → ∀ p H2, H1 p = none → Ex H1 H2 → H2 p = some (.lst (vi (valsTo f xs.length))) → Q (.ref p) H2) (Dl : Addr) (hD : H1 Dl = none) :
    ∃ W : Nat → Nat → Hp → Prop, (∃ m, W 0 m (upd H1 Dl (.lst []))) ∧ ∀ i m H, W i m H → ((Itl K a).stop i H ∧ Q (.ref Dl) H) ∨ ((Itl K a).go i H ∧ ∃ Nx : Hp → Prop, (∀ H', Nx H' → ∃ m', m' < m ∧ W (i + 1) m' H') ∧ ∀ x H', (Itl K a).yld i H x H' → gName j x (wipe σ vs) H' fun σ2 H2 => wipe σ2 vs = wipe σ vs ∧ tYes σ2 H2 fun b H3 =>
      if b = true then te σ2 H3 fun y H4 => ∃ acc, H4 Dl = some (.lst acc) ∧ acc.length < sizeLine ∧ Nx (upd H4 Dl (.lst (acc ++ [y]))) else Nx H3) :=
  lc_list (xs := xs) (fun i H' => Ex H1 H' ∧ H' Dl = some (.lst (vi (valsTo f i))) ∧ ∀ k, k < i → (f k).isSome = true) ⟨Ex.new hD, upd_same, fun k hk => absurd hk (Nat.not_lt_zero k)⟩ (fun i H' _ p => ex_l p.1 hx) (fun i x H' hi p => ⟨hw x, by
    show te _ H' _
    obtain ⟨p1, p2, p3⟩ := p
    have il := (List.getElem?_eq_some_iff.mp hi).1
    cases hf : f i with
    | none => exact (he i x H' (e.trans p1) hi).2 hf _
    | some n =>
      refine (he i x H' (e.trans p1) hi).1 n hf H' (Ex.refl _) _ fun H4 e4 => ⟨_, e4 _ _ p2, sz_lt (by rw [vi_len, valsTo_len]; omega), Ex.mut (p1.trans e4) hD, ?_, fun k hk => ?_⟩
      · rw [upd_same, valsTo_succ, hf, vi_app]
        rfl
      · by_cases c : k = i
        · rw [c, hf]; rfl
        · exact p3 k (by omega)⟩) fun H' p => q p.2.2 Dl H' hD p.1 p.2.1
/-- name = [element for row in a list that stands], the element maybe raising -/
theorem q_lcX {a : Addr} {xs : List V} {i j : Nat} {vs : List Nat} (f : Nat → Option Nat) (h : Ev tl σ H (.ref a)) (hx : SqL K H a xs) (hz : xs.length ≤ 40000) (hw : ∀ x, wipe ((wipe σ vs).set j (some x)) vs = wipe σ vs)
    (he : ∀ (i : Nat) (x : V) H1, Ex H H1 → xs[i]? = some x → (∀ n, f i = some n → Ev te ((wipe σ vs).set j (some x)) H1 (.int (n : Int))) ∧ (f i = none → ∀ Q, te ((wipe σ vs).set j (some x)) H1 Q))
    (k : (∀ i, i < xs.length → (f i).isSome = true) → ∀ p H1, H p = none → Ex H H1 → H1 p = some (.lst (vi (valsTo f xs.length))) → tz D (σ.set i (some (.ref p))) H1) : tSeq (tAsg (tLc (iList K tl) (gName j) tYes te vs) (gName i)) tz D σ H :=
  h H (Ex.refl H) _ fun H1 e1 => ⟨a, rfl, ⟨xs, ex_l e1 hx⟩, fun Dl hD => lcX_at f e1 (ex_l e1 hx) hz hw he (fun v H2 => tz D (σ.set i (some v)) H2) (fun all p H2 np e2 h2 => k all p H2 (fresh_back e1 np) (e1.trans e2) h2) Dl hD⟩
/-- .. in a new list -/
theorem q_lcXN {xs : List V} {i j : Nat} {vs : List Nat} (f : Nat → Option Nat) (h : EvL tl σ H xs) (hz : xs.length ≤ 40000) (hw : ∀ x, wipe ((wipe σ vs).set j (some x)) vs = wipe σ vs)
    (he : ∀ (i : Nat) (x : V) H1, Ex H H1 → xs[i]? = some x → (∀ n, f i = some n → Ev te ((wipe σ vs).set j (some x)) H1 (.int (n : Int))) ∧ (f i = none → ∀ Q, te ((wipe σ vs).set j (some x)) H1 Q))
    (k : (∀ i, i < xs.length → (f i).isSome = true) → ∀ p H1, H p = none → Ex H H1 → H1 p = some (.lst (vi (valsTo f xs.length))) → tz D (σ.set i (some (.ref p))) H1) : tSeq (tAsg (tLc (iList K tl) (gName j) tYes te vs) (gName i)) tz D σ H :=
  h H (Ex.refl H) _ fun a H1 na e1 ha => ⟨a, rfl, ⟨xs, sq_of ha⟩, fun Dl hD => lcX_at f e1 (sq_of ha) hz hw he (fun v H2 => tz D (σ.set i (some v)) H2) (fun all p H2 np e2 h2 => k all p H2 (fresh_back e1 np) (e1.trans e2) h2) Dl hD⟩
end
end Fi
namespace Fi
open PySem L2 Evl
def top (i : Nat) : Stmt := PySem.Challenge.pw_firetree_k08_texts_read.main.body.getD i (.Pass ⟨0, 0, 0, 0⟩)
abbrev s__wall : Stmt := top 0
abbrev n__wall : List Str := ["k"]
abbrev p__wall : List Str := ["k"]
theorem sc__wall : FnScope n__wall p__wall (defScope s__wall) := ⟨rfl, rfl, rfl, by decide +kernel, rfl, by decide +kernel, by decide +kernel⟩
theorem bd__wall : ∀ (kV doc pm : Value) (an : Option Addr) (cdv ct : Value) (us : List Value), us.length = p__wall.length → bindArgs (PySem.W.fnOf "_wall" "_wall" (defArgs s__wall) (defBody s__wall) (defScope s__wall) .none kV doc pm an cdv ct) ⟨us, []⟩ = pure (p__wall.zip us) := fun _ _ _ _ _ _ us hl => match us, hl with | [_], _ => rfl
abbrev s_Tree___init__ : Stmt := inClass (top 10) 0
abbrev n_Tree___init__ : List Str := ["self", "elders", "worths", "k", "worth"]
abbrev p_Tree___init__ : List Str := ["self", "elders", "worths"]
theorem sc_Tree___init__ : FnScope n_Tree___init__ p_Tree___init__ (defScope s_Tree___init__) := ⟨rfl, rfl, rfl, by decide +kernel, rfl, by decide +kernel, by decide +kernel⟩
theorem bd_Tree___init__ : ∀ (kV doc pm : Value) (an : Option Addr) (cdv ct : Value) (us : List Value), us.length = p_Tree___init__.length → bindArgs (PySem.W.fnOf "__init__" "Tree.__init__" (defArgs s_Tree___init__) (defBody s_Tree___init__) (defScope s_Tree___init__) .none kV doc pm an cdv ct) ⟨us, []⟩ = pure (p_Tree___init__.zip us) := fun _ _ _ _ _ _ us hl => match us, hl with | [_, _, _], _ => rfl
abbrev s_Tree_elders : Stmt := inClass (top 10) 1
abbrev n_Tree_elders : List Str := ["self"]
abbrev p_Tree_elders : List Str := ["self"]
theorem sc_Tree_elders : FnScope n_Tree_elders p_Tree_elders (defScope s_Tree_elders) := ⟨rfl, rfl, rfl, by decide +kernel, rfl, by decide +kernel, by decide +kernel⟩
theorem bd_Tree_elders : ∀ (kV doc pm : Value) (an : Option Addr) (cdv ct : Value) (us : List Value), us.length = p_Tree_elders.length → bindArgs (PySem.W.fnOf "elders" "Tree.elders" (defArgs s_Tree_elders) (defBody s_Tree_elders) (defScope s_Tree_elders) .none kV doc pm an cdv ct) ⟨us, []⟩ = pure (p_Tree_elders.zip us) := fun _ _ _ _ _ _ us hl => match us, hl with | [_], _ => rfl
abbrev s_Tree_worths : Stmt := inClass (top 10) 2
abbrev n_Tree_worths : List Str := ["self"]
abbrev p_Tree_worths : List Str := ["self"]
theorem sc_Tree_worths : FnScope n_Tree_worths p_Tree_worths (defScope s_Tree_worths) := ⟨rfl, rfl, rfl, by decide +kernel, rfl, by decide +kernel, by decide +kernel⟩
theorem bd_Tree_worths : ∀ (kV doc pm : Value) (an : Option Addr) (cdv ct : Value) (us : List Value), us.length = p_Tree_worths.length → bindArgs (PySem.W.fnOf "worths" "Tree.worths" (defArgs s_Tree_worths) (defBody s_Tree_worths) (defScope s_Tree_worths) .none kV doc pm an cdv ct) ⟨us, []⟩ = pure (p_Tree_worths.zip us) := fun _ _ _ _ _ _ us hl => match us, hl with | [_], _ => rfl
abbrev s_Tree_things : Stmt := inClass (top 10) 3
abbrev n_Tree_things : List Str := ["self"]
abbrev p_Tree_things : List Str := ["self"]
theorem sc_Tree_things : FnScope n_Tree_things p_Tree_things (defScope s_Tree_things) := ⟨rfl, rfl, rfl, by decide +kernel, rfl, by decide +kernel, by decide +kernel⟩
theorem bd_Tree_things : ∀ (kV doc pm : Value) (an : Option Addr) (cdv ct : Value) (us : List Value), us.length = p_Tree_things.length → bindArgs (PySem.W.fnOf "things" "Tree.things" (defArgs s_Tree_things) (defBody s_Tree_things) (defScope s_Tree_things) .none kV doc pm an cdv ct) ⟨us, []⟩ = pure (p_Tree_things.zip us) := fun _ _ _ _ _ _ us hl => match us, hl with | [_], _ => rfl
abbrev s_Tree_see_thing : Stmt := inClass (top 10) 4
abbrev n_Tree_see_thing : List Str := ["self", "thing"]
abbrev p_Tree_see_thing : List Str := ["self", "thing"]
theorem sc_Tree_see_thing : FnScope n_Tree_see_thing p_Tree_see_thing (defScope s_Tree_see_thing) := ⟨rfl, rfl, rfl, by decide +kernel, rfl, by decide +kernel, by decide +kernel⟩
theorem bd_Tree_see_thing : ∀ (kV doc pm : Value) (an : Option Addr) (cdv ct : Value) (us : List Value), us.length = p_Tree_see_thing.length → bindArgs (PySem.W.fnOf "see_thing" "Tree.see_thing" (defArgs s_Tree_see_thing) (defBody s_Tree_see_thing) (defScope s_Tree_see_thing) .none kV doc pm an cdv ct) ⟨us, []⟩ = pure (p_Tree_see_thing.zip us) := fun _ _ _ _ _ _ us hl => match us, hl with | [_, _], _ => rfl
abbrev s_Tree_depth : Stmt := inClass (top 10) 5
abbrev n_Tree_depth : List Str := ["self", "thing"]
abbrev p_Tree_depth : List Str := ["self", "thing"]
theorem sc_Tree_depth : FnScope n_Tree_depth p_Tree_depth (defScope s_Tree_depth) := ⟨rfl, rfl, rfl, by decide +kernel, rfl, by decide +kernel, by decide +kernel⟩
theorem bd_Tree_depth : ∀ (kV doc pm : Value) (an : Option Addr) (cdv ct : Value) (us : List Value), us.length = p_Tree_depth.length → bindArgs (PySem.W.fnOf "depth" "Tree.depth" (defArgs s_Tree_depth) (defBody s_Tree_depth) (defScope s_Tree_depth) .none kV doc pm an cdv ct) ⟨us, []⟩ = pure (p_Tree_depth.zip us) := fun _ _ _ _ _ _ us hl => match us, hl with | [_, _], _ => rfl
abbrev s_Tree_below : Stmt := inClass (top 10) 6
abbrev n_Tree_below : List Str := ["self", "thing"]
abbrev p_Tree_below : List Str := ["self", "thing"]
theorem sc_Tree_below : FnScope n_Tree_below p_Tree_below (defScope s_Tree_below) := ⟨rfl, rfl, rfl, by decide +kernel, rfl, by decide +kernel, by decide +kernel⟩
theorem bd_Tree_below : ∀ (kV doc pm : Value) (an : Option Addr) (cdv ct : Value) (us : List Value), us.length = p_Tree_below.length → bindArgs (PySem.W.fnOf "below" "Tree.below" (defArgs s_Tree_below) (defBody s_Tree_below) (defScope s_Tree_below) .none kV doc pm an cdv ct) ⟨us, []⟩ = pure (p_Tree_below.zip us) := fun _ _ _ _ _ _ us hl => match us, hl with | [_, _], _ => rfl
abbrev s_Tree_worth_below : Stmt := inClass (top 10) 7
abbrev n_Tree_worth_below : List Str := ["self", "thing"]
abbrev p_Tree_worth_below : List Str := ["self", "thing"]
theorem sc_Tree_worth_below : FnScope n_Tree_worth_below p_Tree_worth_below (defScope s_Tree_worth_below) := ⟨rfl, rfl, rfl, by decide +kernel, rfl, by decide +kernel, by decide +kernel⟩
theorem bd_Tree_worth_below : ∀ (kV doc pm : Value) (an : Option Addr) (cdv ct : Value) (us : List Value), us.length = p_Tree_worth_below.length → bindArgs (PySem.W.fnOf "worth_below" "Tree.worth_below" (defArgs s_Tree_worth_below) (defBody s_Tree_worth_below) (defScope s_Tree_worth_below) .none kV doc pm an cdv ct) ⟨us, []⟩ = pure (p_Tree_worth_below.zip us) := fun _ _ _ _ _ _ us hl => match us, hl with | [_, _], _ => rfl
abbrev s_number_of : Stmt := top 13
abbrev n_number_of : List Str := ["word", "sign"]
abbrev p_number_of : List Str := ["word"]
theorem sc_number_of : FnScope n_number_of p_number_of (defScope s_number_of) := ⟨rfl, rfl, rfl, by decide +kernel, rfl, by decide +kernel, by decide +kernel⟩
theorem bd_number_of : ∀ (kV doc pm : Value) (an : Option Addr) (cdv ct : Value) (us : List Value), us.length = p_number_of.length → bindArgs (PySem.W.fnOf "number_of" "number_of" (defArgs s_number_of) (defBody s_number_of) (defScope s_number_of) .none kV doc pm an cdv ct) ⟨us, []⟩ = pure (p_number_of.zip us) := fun _ _ _ _ _ _ us hl => match us, hl with | [_], _ => rfl
abbrev s_read : Stmt := top 14
abbrev n_read : List Str := ["text", "rows", "elders", "worths", "word", "row"]
abbrev p_read : List Str := ["text"]
theorem sc_read : FnScope n_read p_read (defScope s_read) := ⟨rfl, rfl, rfl, by decide +kernel, rfl, by decide +kernel, by decide +kernel⟩
theorem bd_read : ∀ (kV doc pm : Value) (an : Option Addr) (cdv ct : Value) (us : List Value), us.length = p_read.length → bindArgs (PySem.W.fnOf "read" "read" (defArgs s_read) (defBody s_read) (defScope s_read) .none kV doc pm an cdv ct) ⟨us, []⟩ = pure (p_read.zip us) := fun _ _ _ _ _ _ us hl => match us, hl with | [_], _ => rfl
abbrev s__law_cell_at : Stmt := top 16
abbrev n__law_cell_at : List Str := ["script", "k"]
abbrev p__law_cell_at : List Str := ["script", "k"]
theorem sc__law_cell_at : FnScope n__law_cell_at p__law_cell_at (defScope s__law_cell_at) := ⟨rfl, rfl, rfl, by decide +kernel, rfl, by decide +kernel, by decide +kernel⟩
theorem bd__law_cell_at : ∀ (kV doc pm : Value) (an : Option Addr) (cdv ct : Value) (us : List Value), us.length = p__law_cell_at.length → bindArgs (PySem.W.fnOf "_law_cell_at" "_law_cell_at" (defArgs s__law_cell_at) (defBody s__law_cell_at) (defScope s__law_cell_at) .none kV doc pm an cdv ct) ⟨us, []⟩ = pure (p__law_cell_at.zip us) := fun _ _ _ _ _ _ us hl => match us, hl with | [_, _], _ => rfl
abbrev s__law_draw : Stmt := top 17
abbrev n__law_draw : List Str := ["script", "k"]
abbrev p__law_draw : List Str := ["script", "k"]
theorem sc__law_draw : FnScope n__law_draw p__law_draw (defScope s__law_draw) := ⟨rfl, rfl, rfl, by decide +kernel, rfl, by decide +kernel, by decide +kernel⟩
theorem bd__law_draw : ∀ (kV doc pm : Value) (an : Option Addr) (cdv ct : Value) (us : List Value), us.length = p__law_draw.length → bindArgs (PySem.W.fnOf "_law_draw" "_law_draw" (defArgs s__law_draw) (defBody s__law_draw) (defScope s__law_draw) .none kV doc pm an cdv ct) ⟨us, []⟩ = pure (p__law_draw.zip us) := fun _ _ _ _ _ _ us hl => match us, hl with | [_, _], _ => rfl
abbrev s__law_elders : Stmt := top 18
abbrev n__law_elders : List Str := ["script", "things", "elders", "way", "k", "cell"]
abbrev p__law_elders : List Str := ["script", "things"]
theorem sc__law_elders : FnScope n__law_elders p__law_elders (defScope s__law_elders) := ⟨rfl, rfl, rfl, by decide +kernel, rfl, by decide +kernel, by decide +kernel⟩
theorem bd__law_elders : ∀ (kV doc pm : Value) (an : Option Addr) (cdv ct : Value) (us : List Value), us.length = p__law_elders.length → bindArgs (PySem.W.fnOf "_law_elders" "_law_elders" (defArgs s__law_elders) (defBody s__law_elders) (defScope s__law_elders) .none kV doc pm an cdv ct) ⟨us, []⟩ = pure (p__law_elders.zip us) := fun _ _ _ _ _ _ us hl => match us, hl with | [_, _], _ => rfl
abbrev s__law_tree : Stmt := top 19
abbrev n__law_tree : List Str := ["script", "most", "things", "top", "k"]
abbrev p__law_tree : List Str := ["script", "most"]
theorem sc__law_tree : FnScope n__law_tree p__law_tree (defScope s__law_tree) := ⟨rfl, rfl, rfl, by decide +kernel, rfl, by decide +kernel, by decide +kernel⟩
theorem bd__law_tree : ∀ (kV doc pm : Value) (an : Option Addr) (cdv ct : Value) (us : List Value), us.length = p__law_tree.length → bindArgs (PySem.W.fnOf "_law_tree" "_law_tree" (defArgs s__law_tree) (defBody s__law_tree) (defScope s__law_tree) .none kV doc pm an cdv ct) ⟨us, []⟩ = pure (p__law_tree.zip us) := fun _ _ _ _ _ _ us hl => match us, hl with | [_, _], _ => rfl
abbrev s__law_alone : Stmt := top 20
abbrev n__law_alone : List Str := ["e", "found"]
abbrev p__law_alone : List Str := ["e"]
theorem sc__law_alone : FnScope n__law_alone p__law_alone (defScope s__law_alone) := ⟨rfl, rfl, rfl, by decide +kernel, rfl, by decide +kernel, by decide +kernel⟩
theorem bd__law_alone : ∀ (kV doc pm : Value) (an : Option Addr) (cdv ct : Value) (us : List Value), us.length = p__law_alone.length → bindArgs (PySem.W.fnOf "_law_alone" "_law_alone" (defArgs s__law_alone) (defBody s__law_alone) (defScope s__law_alone) .none kV doc pm an cdv ct) ⟨us, []⟩ = pure (p__law_alone.zip us) := fun _ _ _ _ _ _ us hl => match us, hl with | [_], _ => rfl
abbrev s__law_turned : Stmt := top 21
abbrev n__law_turned : List Str := ["text", "way", "cell", "at", "sign", "words", "spot", "ahead"]
abbrev p__law_turned : List Str := ["text", "way", "cell"]
theorem sc__law_turned : FnScope n__law_turned p__law_turned (defScope s__law_turned) := ⟨rfl, rfl, rfl, by decide +kernel, rfl, by decide +kernel, by decide +kernel⟩
theorem bd__law_turned : ∀ (kV doc pm : Value) (an : Option Addr) (cdv ct : Value) (us : List Value), us.length = p__law_turned.length → bindArgs (PySem.W.fnOf "_law_turned" "_law_turned" (defArgs s__law_turned) (defBody s__law_turned) (defScope s__law_turned) .none kV doc pm an cdv ct) ⟨us, []⟩ = pure (p__law_turned.zip us) := fun _ _ _ _ _ _ us hl => match us, hl with | [_, _, _], _ => rfl
abbrev s__law_number : Stmt := top 22
abbrev n__law_number : List Str := ["word", "sign"]
abbrev p__law_number : List Str := ["word"]
theorem sc__law_number : FnScope n__law_number p__law_number (defScope s__law_number) := ⟨rfl, rfl, rfl, by decide +kernel, rfl, by decide +kernel, by decide +kernel⟩
theorem bd__law_number : ∀ (kV doc pm : Value) (an : Option Addr) (cdv ct : Value) (us : List Value), us.length = p__law_number.length → bindArgs (PySem.W.fnOf "_law_number" "_law_number" (defArgs s__law_number) (defBody s__law_number) (defScope s__law_number) .none kV doc pm an cdv ct) ⟨us, []⟩ = pure (p__law_number.zip us) := fun _ _ _ _ _ _ us hl => match us, hl with | [_], _ => rfl
abbrev s__law_due : Stmt := top 23
abbrev n__law_due : List Str := ["text", "elders", "worths", "k", "word", "parts"]
abbrev p__law_due : List Str := ["text"]
theorem sc__law_due : FnScope n__law_due p__law_due (defScope s__law_due) := ⟨rfl, rfl, rfl, by decide +kernel, rfl, by decide +kernel, by decide +kernel⟩
theorem bd__law_due : ∀ (kV doc pm : Value) (an : Option Addr) (cdv ct : Value) (us : List Value), us.length = p__law_due.length → bindArgs (PySem.W.fnOf "_law_due" "_law_due" (defArgs s__law_due) (defBody s__law_due) (defScope s__law_due) .none kV doc pm an cdv ct) ⟨us, []⟩ = pure (p__law_due.zip us) := fun _ _ _ _ _ _ us hl => match us, hl with | [_], _ => rfl
abbrev s__law_told : Stmt := top 24
abbrev n__law_told : List Str := ["text", "found", "e"]
abbrev p__law_told : List Str := ["text"]
theorem sc__law_told : FnScope n__law_told p__law_told (defScope s__law_told) := ⟨rfl, rfl, rfl, by decide +kernel, rfl, by decide +kernel, by decide +kernel⟩
theorem bd__law_told : ∀ (kV doc pm : Value) (an : Option Addr) (cdv ct : Value) (us : List Value), us.length = p__law_told.length → bindArgs (PySem.W.fnOf "_law_told" "_law_told" (defArgs s__law_told) (defBody s__law_told) (defScope s__law_told) .none kV doc pm an cdv ct) ⟨us, []⟩ = pure (p__law_told.zip us) := fun _ _ _ _ _ _ us hl => match us, hl with | [_], _ => rfl
abbrev s_law : Stmt := top 25
abbrev n_law : List Str := ["script", "plot", "text", "k", "due", "turn", "found"]
abbrev p_law : List Str := ["script"]
theorem sc_law : FnScope n_law p_law (defScope s_law) := ⟨rfl, rfl, rfl, by decide +kernel, rfl, by decide +kernel, by decide +kernel⟩
theorem bd_law : ∀ (kV doc pm : Value) (an : Option Addr) (cdv ct : Value) (us : List Value), us.length = p_law.length → bindArgs (PySem.W.fnOf "law" "law" (defArgs s_law) (defBody s_law) (defScope s_law) .none kV doc pm an cdv ct) ⟨us, []⟩ = pure (p_law.zip us) := fun _ _ _ _ _ _ us hl => match us, hl with | [_], _ => rfl
end Fi
/-! The law's draws and its tree. -/
namespace Fi
open PySem L2 Evl
section
variable {P : Program} {w : World} {K : PySem.W.Frag} {mg : Str → Option Value} {base : Heap}
/-! ### _law_cell_at -/
def spCell (K : PySem.W.Frag) : Sp := fun vs H Q _ => ∃ (a : Addr) (ns : List Int) (k : Int), vs = [.ref a, .int k] ∧ SqL K H a (ns.map V.int) ∧ 0 ≤ k ∧ RetV (.int (ns.getD k.toNat 0)) H Q
theorem has_cell (B : Bi mg) (D : At K mg "_law_cell_at" s__law_cell_at p__law_cell_at) : Has P w K mg base CX0 "_law_cell_at" p__law_cell_at 1 (spCell K) := D.has fun f fd F => by
  refine F.ok sc__law_cell_at (fun vs H Q E h => ?_) (fun cdv A outer s H vs Q E hr h => ?_)
  · obtain ⟨a, ns, k, rfl, _⟩ := h
    rfl
  · obtain ⟨a, ns, k, rfl, hS, hk, q⟩ := h
    refine ⟨_, (pss_cons (ps_if (pt_cmpR op_lt (pv 1) (pe_callB (call_lenK (K := K)) (by rfl) B.len PySem.boot_len (pa_cons (pv 0) pa_nil)) (nomark _)) (pss_one (ps_ret (pe_ix (ix_listK (K := K)) (pv 0) (pv 1) (fun _ _ => rfl)))) pss_nil)
      (pss_one (ps_ret pe_int))), ?_⟩
    refine q_when (et_test (ev_op (ev_var rfl) (ev_lenS (ev_var rfl) hS) rv_I0)) (fun hb H1 e1 => ?_) (fun hb H1 e1 => ?_)
    · have hlt : k < ((ns.map V.int).length : Int) := of_decide_eq_true hb
      rw [List.length_map] at hlt
      have hx : atI (ns.map V.int) k = some (V.int (ns.getD k.toNat 0)) := at_of (j := k.toNat) (by omega) (by
        rw [List.getElem?_map, List.getD_eq_getElem?_getD, List.getElem?_eq_getElem (by omega)]; rfl)
      exact s_ret (ev_opIx (ev_var rfl) (ev_var rfl) (ex_l e1 hS) hx) fun H2 e2 => q H2 (e1.trans e2)
    · have hlt : ¬ k < ((ns.map V.int).length : Int) := of_decide_eq_false hb
      rw [List.length_map] at hlt
      have hx : ns.getD k.toNat 0 = 0 := by
        rw [List.getD_eq_getElem?_getD, List.getElem?_eq_none (by omega)]; rfl
      rw [hx] at q
      exact s_ret ev_c fun H2 e2 => q H2 (e1.trans e2)
theorem spv_cell {H : Hp} {a : Addr} {ns : List Int} {k : Int} (hS : SqL K H a (ns.map V.int)) (hk : 0 ≤ k) : SpV (spCell K) [.ref a, .int k] H (.int (ns.getD k.toNat 0)) := fun H1 e Q q E => ⟨a, ns, k, rfl, ex_l e hS, hk, q⟩
/-! ### _law_draw -/
def spDraw (K : PySem.W.Frag) : Sp := fun vs H Q _ => ∃ (a : Addr) (ns : List Int) (k : Int), vs = [.ref a, .int k] ∧ SqL K H a (ns.map V.int) ∧ 0 ≤ k ∧ k ≤ 1000 ∧ RetV (.int (Fm.draw ns k)) H Q
theorem has_draw (D : At K mg "_law_draw" s__law_draw p__law_draw) (h_law_cell_at : Has P w K mg base CX0 "_law_cell_at" p__law_cell_at 1 (spCell K)) : Has P w K mg base CX0 "_law_draw" p__law_draw 2 (spDraw K) := D.has fun f fd F => by
  refine F.ok sc__law_draw (fun vs H Q E h => ?_) (fun cdv A outer s H vs Q E hr h => ?_)
  · obtain ⟨a, ns, k, rfl, _⟩ := h
    rfl
  · obtain ⟨a, ns, k, rfl, hS, hk, hk2, q⟩ := h
    refine ⟨_, (pss_one (ps_ret (pe_op op_mod (pe_op op_mul (pe_op op_add (h_law_cell_at.call (hr.mono (by decide)) (by rfl) pass0 (pa_cons (pv 0) (pa_cons (pe_op op_mod (pv 1) pe_int) pa_nil))) (pe_op op_mul pe_int (pv 1))) (pe_op op_add pe_int (pe_op op_mul pe_int (pv 1)))) pe_int))), ?_⟩
    refine s_ret (ev_op (ev_op (ev_op (ev_call0 (ea_cons (ev_var rfl) (ea_cons (ev_op (ev_var rfl) ev_c (rv_I (by decide))) ea_nil)) (spv_cell hS (Int.emod_nonneg _ (by decide)))) (ev_op ev_c (ev_var rfl) (rv_I (.inl (by decide)))) rv_I0)
      (ev_op ev_c (ev_op ev_c (ev_var rfl) (rv_I (.inl (by decide)))) rv_I0) (rv_I (.inr ⟨by omega, by omega⟩))) ev_c (rv_I (by decide))) fun H1 e1 => q H1 e1
theorem spv_draw {H : Hp} {a : Addr} {ns : List Int} {k : Int} (hS : SqL K H a (ns.map V.int)) (hk : 0 ≤ k) (hk2 : k ≤ 1000) : SpV (spDraw K) [.ref a, .int k] H (.int (Fm.draw ns k)) := fun H1 e Q q E => ⟨a, ns, k, rfl, ex_l e hS, hk, hk2, q⟩
/-! ### _law_elders -/
def spElders (K : PySem.W.Frag) : Sp := fun vs H Q _ => ∃ (a : Addr) (ns : List Int) (n : Nat), vs = [.ref a, .int (n : Int)] ∧ SqL K H a (ns.map V.int) ∧ 1 ≤ n ∧ n ≤ 14 ∧ RetL (vi (Fm.elders ns (n - 1))) H Q
theorem way4 {w a b c d : Int} (h0 : 0 ≤ w) (h1 : w < 4) : atI [V.int a, V.int b, V.int c, V.int d] w = some (V.int (if w = 0 then a else if w = 1 then b else if w = 2 then c else d)) := by
  have : w = 0 ∨ w = 1 ∨ w = 2 ∨ w = 3 := by omega
  rcases this with rfl | rfl | rfl | rfl <;> rfl
theorem has_elders (B : Bi mg) (D : At K mg "_law_elders" s__law_elders p__law_elders) (h_law_draw : Has P w K mg base CX0 "_law_draw" p__law_draw 2 (spDraw K)) : Has P w K mg base CX0 "_law_elders" p__law_elders 3 (spElders K) := D.has fun f fd F => by
  refine F.ok sc__law_elders (fun vs H Q E h => ?_) (fun cdv A outer s H vs Q E hr h => ?_)
  · obtain ⟨a, ns, k, rfl, _⟩ := h
    rfl
  · obtain ⟨a, ns, n, rfl, hS, hn, hn2, q⟩ := h
    refine ⟨_, (pss_cons (ps_set (i := 2) sc__law_elders.nd rfl (Or.inl rfl) (pe_lst pa_nil))
      (pss_cons (ps_set (i := 3) sc__law_elders.nd rfl (Or.inl rfl) (pe_op op_mod (h_law_draw.call (hr.mono (by decide)) (by rfl) pass0 (pa_cons (pv 0) (pa_cons pe_int pa_nil))) pe_int))
      (pss_cons (ps_for PassesOwn.never rfl (pi_range1 (by rfl) B.range (pa_cons (pe_op op_sub (pv 1) pe_int) pa_nil)) (pg_name (i := 4) sc__law_elders.nd rfl (Or.inl rfl)) (pss_cons (ps_set (i := 5) sc__law_elders.nd rfl (Or.inl rfl) (h_law_draw.call (hr.mono (by decide)) (by rfl) pass0 (pa_cons (pv 0) (pa_cons (pe_op op_add pe_int (pv 4)) pa_nil))))
        (pss_one (ps_expr (pe_bm PySem.F.plainAttrs_list PySem.F.slot_list_append PySem.F.type_list_append mt_append (pv 2) (pa_cons (pe_ix (ix_listK (K := K)) (pe_lst (pa_cons (pe_op op_mod (pv 5) (pe_op op_add (pv 4) pe_int)) (pa_cons (pe_op op_sub (pv 4) (pe_op op_fdiv (pe_op op_mod (pv 5) (pe_op op_add (pv 4) pe_int)) pe_int)) (pa_cons (pe_op op_mod (pv 5) (pe_callB (call_min2 rfl) (by rfl) B.min (by decide +kernel) (pa_cons (pe_op op_add (pv 4) pe_int) (pa_cons pe_int pa_nil)))) (pa_cons (pe_op op_fdiv (pe_op op_add (pv 4) (pe_op op_mod (pv 5) pe_int)) pe_int) pa_nil))))) (pv 3) (fun _ _ => rfl)) pa_nil))))))
      (pss_one (ps_ret (pv 2)))))), ?_⟩
    -- elders = []; way = ..
    refine q_asgL (el_lst ea_nil (Nat.zero_le _)) fun l H1 hl e1 h1 => ?_
    refine q_asg (ev_op (ev_call0 (ea_cons (ev_var rfl) (ea_cons ev_c ea_nil)) (spv_draw (ex_l e1 hS) (by decide) (by decide))) ev_c (rv_I (by decide))) fun H2 e2 => ?_
    have w0 : 0 ≤ Fm.draw ns 2 % 4 := Int.emod_nonneg _ (by decide)
    have w1 : Fm.draw ns 2 % 4 < 4 := Int.emod_lt_of_pos _ (by decide)
    refine q_forR1 (n := (n : Int) - 1) (ea_cons (ev_op (ev_var rfl) ev_c rv_I0) ea_nil) ⟨by omega, by omega⟩
      (fun i σ' H' => ∃ v1 v2, σ' = [some (.ref a), some (.int (n : Int)), some (.ref l), some (.int (Fm.draw ns 2 % 4)), v1, v2] ∧ Ex H H' ∧ H' l = some (.lst (vi (Fm.elders ns i))))
      (fun H3 e3 => ⟨none, none, rfl, (e1.trans e2).trans e3, e3 _ _ (e2 _ _ h1)⟩) ?_ ?_
    · rintro i σ' H' hi ⟨v1, v2, rfl, e, hL⟩
      -- cell = ..
      refine q_asg (v := .int (Fm.draw ns (10 + (i : Int)))) (ev_call0 (ea_cons (ev_var rfl) (ea_cons (ev_op ev_c (ev_var rfl) rv_I0) ea_nil)) (spv_draw (ex_l e hS) (by omega) (by omega))) fun H4 e4 => ?_
      refine s_app (v := .int ((Fm.elderAt (Fm.draw ns 2 % 4) (i : Int) (Fm.draw ns (10 + (i : Int)))).toNat : Nat)) (e4 _ _ hL) (ev_var rfl) ?_ (by rw [vi_len, Fm.elders_len]; omega) fun H5 e5 => ?_
      · rw [Int.toNat_of_nonneg (Fm.elderAt_lo (by omega))]
        refine ev_is (ev_opIxN (el_lst (ea_cons (ev_op (ev_var rfl) (ev_op (ev_var rfl) ev_c rv_I0) (rv_I (by show (0 : Int) < (i : Int) + 1; omega))) (ea_cons (ev_op (ev_var rfl) (ev_op (ev_op (ev_var rfl) (ev_op (ev_var rfl) ev_c rv_I0) (rv_I (by show (0 : Int) < (i : Int) + 1; omega))) ev_c (rv_I ⟨by decide, by decide⟩)) rv_I0)
          (ea_cons (ev_op (ev_var rfl) (ev_cb (ea_cons (ev_op (ev_var rfl) ev_c rv_I0) (ea_cons ev_c ea_nil)) rc_min2) (rv_I (by show (0 : Int) < if (3 : Int) < (i : Int) + 1 then 3 else (i : Int) + 1; split <;> omega))) (ea_cons (ev_op (ev_op (ev_var rfl) (ev_op (ev_var rfl) ev_c (rv_I (by decide))) rv_I0) ev_c (rv_I ⟨by decide, by decide⟩)) ea_nil)))) (by show 4 ≤ 100000; decide)) (ev_var rfl) (way4 w0 w1)) ?_
        rfl
      · refine ⟨_, _, rfl, Ex.mut ((e.trans e4).trans e5) hl, ?_⟩
        rw [upd_same, Fm.elders_succ, vi_app]
        rfl
    · rintro σ' H' ⟨v1, v2, rfl, e, hL⟩
      have en : ((n : Int) - 1).toNat = n - 1 := by omega
      rw [en] at hL
      exact s_ret (ev_var rfl) fun H3 e3 => q l H3 hl (e.trans e3) (e3 _ _ hL)
theorem spl_elders {H : Hp} {a : Addr} {ns : List Int} {n : Nat} (hS : SqL K H a (ns.map V.int)) (h1 : 1 ≤ n) (h2 : n ≤ 14) : SpL (spElders K) [.ref a, .int (n : Int)] H (vi (Fm.elders ns (n - 1))) := fun H1 e Q q E => ⟨a, ns, n, rfl, ex_l e hS, h1, h2, q⟩
/-! ### _law_tree -/
def spPlot (K : PySem.W.Frag) : Sp := fun vs H Q _ => ∃ (a : Addr) (ns : List Int) (most : Nat), vs = [.ref a, .int (most : Int)] ∧ SqL K H a (ns.map V.int) ∧ 1 ≤ most ∧ most ≤ 14 ∧
  RetP (fun v H2 => ∃ p, v = .ref p ∧ PlotAt H2 p (Fm.elders ns (Fm.count ns most - 1)) (Fm.worths ns (Fm.count ns most))) H Q
theorem top3 {w a b c : Int} (h0 : 0 ≤ w) (h1 : w < 3) : atI [V.int a, V.int b, V.int c] w = some (V.int (if w = 0 then a else if w = 1 then b else c)) := by
  have : w = 0 ∨ w = 1 ∨ w = 2 := by omega
  rcases this with rfl | rfl | rfl <;> rfl
theorem has_plot (B : Bi mg) (D : At K mg "_law_tree" s__law_tree p__law_tree) (h_law_draw : Has P w K mg base CX0 "_law_draw" p__law_draw 2 (spDraw K)) (h_law_elders : Has P w K mg base CX0 "_law_elders" p__law_elders 3 (spElders K)) :
    Has P w K mg base CX0 "_law_tree" p__law_tree 4 (spPlot K) := D.has fun f fd F => by
  refine F.ok sc__law_tree (fun vs H Q E h => ?_) (fun cdv A outer s H vs Q E hr h => ?_)
  · obtain ⟨a, ns, k, rfl, _⟩ := h
    rfl
  · obtain ⟨a, ns, most, rfl, hS, hn, hn2, q⟩ := h
    refine ⟨_, (pss_cons (ps_set (i := 2) sc__law_tree.nd rfl (Or.inl rfl) (pe_op op_add pe_int (pe_op op_mod (h_law_draw.call (hr.mono (by decide)) (by rfl) pass0 (pa_cons (pv 0) (pa_cons pe_int pa_nil))) (pv 1))))
      (pss_cons (ps_set (i := 3) sc__law_tree.nd rfl (Or.inr rfl) (pe_ix (ix_listK (K := K)) (pe_lst (pa_cons pe_int (pa_cons pe_int (pa_cons pe_int pa_nil)))) (pe_op op_mod (h_law_draw.call (hr.mono (by decide)) (by rfl) pass0 (pa_cons (pv 0) (pa_cons pe_int pa_nil))) pe_int) (fun _ _ => rfl)))
      (pss_one (ps_ret (pe_tup (pa_cons (h_law_elders.call (hr.mono (by decide)) (by rfl) pass0 (pa_cons (pv 0) (pa_cons (pv 2) pa_nil))) (pa_cons (pe_lc (own := [("k", 4)]) (g := gName 4) rfl sc__law_tree.nd (pi_range1 (by rfl) B.range (pa_cons (pv 2) pa_nil)) (blkOk_by (own := [("k", 4)]) (N := n__law_tree) (sc := defScope s__law_tree) (by decide +kernel)) (fun _ _ _ _ _ => pg_name (i := 4) sc__law_tree.nd rfl (Or.inl rfl)) (fun _ _ _ _ _ => pts_nil) (fun _ _ _ _ _ => (pe_op op_mod (h_law_draw.call (hr.mono (by decide)) (by rfl) pass0 (pa_cons (pv 0) (pa_cons (pe_op op_add pe_int (pv 4)) pa_nil))) (pv 3)))) pa_nil))))))), ?_⟩
    have c1 := Fm.count_lo ns (most := (most : Int)) (by omega)
    have c2 := Fm.count_hi ns (most := (most : Int)) (by omega)
    refine q_asg (v := .int (Fm.count ns most : Int)) (ev_is (ev_op ev_c (ev_op (ev_call0 (ea_cons (ev_var rfl) (ea_cons ev_c ea_nil)) (spv_draw hS (by decide) (by decide))) (ev_var rfl) (rv_I (by show (0 : Int) < (most : Int); omega))) rv_I0) (by rw [Fm.count_eq ns (by omega)])) fun H1 e1 => ?_
    refine q_asg (v := .int (Fm.topOf ns)) (ev_is (ev_opIxN (el_lst (ea_cons ev_c (ea_cons ev_c (ea_cons ev_c ea_nil))) (by show 3 ≤ 100000; decide)) (ev_op (ev_call0 (ea_cons (ev_var rfl) (ea_cons ev_c ea_nil)) (spv_draw (ex_l e1 hS) (by decide) (by decide))) ev_c (rv_I (by decide)))
      (top3 (Int.emod_nonneg _ (by decide)) (Int.emod_lt_of_pos _ (by decide)))) rfl) fun H2 e2 => ?_
    refine s_retP (ep_tupLL (el_call0 (ea_cons (ev_var rfl) (ea_cons (ev_var rfl) ea_nil)) (spl_elders (ex_l (e1.trans e2) hS) c1 (by omega)))
      (el_lcR1v (n := Fm.count ns most) (fun k => (Fm.draw ns (30 + (k : Int)) % Fm.topOf ns).toNat) (ea_cons (ev_var rfl) ea_nil) (by omega) (fun x => rfl) fun i H3 e3 hi => ?_)) fun v H3 e3 ⟨t, p1, p2, ev, ht, h1, h2⟩ => ?_
    · rw [Int.toNat_of_nonneg (Int.emod_nonneg _ (by have := Fm.topOf_pos ns; omega))]
      exact ev_op (ev_call0 (ea_cons (ev_var rfl) (ea_cons (ev_op ev_c (ev_var rfl) rv_I0) ea_nil)) (spv_draw (ex_l ((e1.trans e2).trans e3) hS) (by omega) (by omega))) (ev_var rfl) (rv_I (Fm.topOf_pos ns))
    · exact q v H3 ((e1.trans e2).trans e3) ⟨t, ev, p1, p2, ht, h1, h2⟩
theorem spp_plot {H : Hp} {a : Addr} {ns : List Int} {most : Nat} (hS : SqL K H a (ns.map V.int)) (h1 : 1 ≤ most) (h2 : most ≤ 14) :
    SpP (spPlot K) [.ref a, .int (most : Int)] H (fun v H2 => ∃ p, v = .ref p ∧ PlotAt H2 p (Fm.elders ns (Fm.count ns most - 1)) (Fm.worths ns (Fm.count ns most))) := fun H1 e Q q E => ⟨a, ns, most, rfl, ex_l e hS, h1, h2, q⟩
/-- some tree of at most so many things -/
theorem spp_some {H : Hp} {a : Addr} {ns : List Int} {most : Nat} (hS : SqL K H a (ns.map V.int)) (h1 : 1 ≤ most) (h2 : most ≤ 14) :
    SpP (spPlot K) [.ref a, .int (most : Int)] H (fun v H2 => ∃ p es ws, v = .ref p ∧ PlotAt H2 p es ws ∧ Fm.OkT es ws ∧ ws.length ≤ most) := fun H1 e Q q E => ⟨a, ns, most, rfl, ex_l e hS, h1, h2, fun v H2 e2 ⟨p, ev, hp⟩ => by
  have c1 := Fm.count_lo ns (most := (most : Int)) (by omega)
  have c2 := Fm.count_hi ns (most := (most : Int)) (by omega)
  exact q v H2 e2 ⟨p, _, _, ev, hp, Fm.ok_drawn ns c1 (by omega), by rw [Fm.worths_len]; omega⟩⟩
/-! ### _law_whole, of a whole number -/
def spWhole : Sp := fun vs H Q _ => ∃ (i : Int), vs = [.int i] ∧ RetV (.bl true) H Q
theorem spv_whole {H : Hp} {i : Int} : SpV spWhole [.int i] H (.bl true) := fun H1 e Q q E => ⟨i, rfl, q⟩
/-! ### _law_numbers, of two lists of whole numbers -/
def spNumbers (K : PySem.W.Frag) : Sp := fun vs H Q _ => ∃ (p q : Addr) (l m : List Nat), vs = [.ref p, .ref q] ∧ H p = some (.lst (vi l)) ∧ SqL K H q (vi m) ∧ l.length ≤ 1000 ∧ RetV (.bl (decide (l = m))) H Q
theorem spv_numbers {H : Hp} {p q : Addr} {l m : List Nat} (h1 : H p = some (.lst (vi l))) (h2 : SqL K H q (vi m)) (hl : l.length ≤ 1000) : SpV (spNumbers K) [.ref p, .ref q] H (.bl (decide (l = m))) := fun H1 e Q k E => ⟨p, q, l, m, rfl, e _ _ h1, ex_l e h2, hl, k⟩
end
end Fi
/-! The class Tree: what each method promises. -/
namespace Fi
open PySem L2 Evl
/-! ### lists of whole numbers of any sign, against the empty list -/
theorem dpAll_z {K : PySem.W.Frag} {H : Hp} : ∀ l : List Int, DpAll K H (l.map V.int) (l.map PyData.int)
  | [] => .nil
  | n :: l => .cons (.int _) (dpAll_z l)
theorem canAll_z : ∀ l : List Int, PyData.canLayAll0 (l.map PyData.int) = true
  | [] => by simp [PyData.canLayAll0]
  | n :: l => by simp [PyData.canLayAll0, PyData.canLay0, canAll_z l]
theorem depthAll_z : ∀ l : List Int, PyData.depthAll (l.map PyData.int) = 0
  | [] => by simp [PyData.depthAll]
  | n :: l => by simp [PyData.depthAll, PyData.depth, depthAll_z l]
theorem shaped_z (l : List Int) : SeqAt.shaped (.list (l.map PyData.int)) = true := by
  unfold SeqAt.shaped
  simp [PyData.canLay0, canAll_z, PyData.depth, depthAll_z]
theorem eqv_zNil (l : List Int) : PyData.eqv (.list (l.map PyData.int)) (.list ([].map PyData.int)) = decide (l = []) := by
  cases l with
  | nil => simp [PyData.eqv, PyData.eqvAll]
  | cons a r => simp [PyData.eqv, PyData.eqvAll]
theorem ev_neNilZ {K : PySem.W.Frag} {σ : L2.St} {H : Hp} {ta : TE} {l : List Int} (ha : EvL ta σ H (l.map V.int)) : Ev (tOp (rNeD K) ta (tLst tNil)) σ H (.bl (!decide (l = []))) :=
  ev_opLL ha (el_lst ea_nil (Nat.zero_le _)) fun p q H1 hp hq e => by
    rw [← eqv_zNil]
    exact rv_neD (fun H2 e2 => .lst (ex_l e2 (sq_of hp)) (dpAll_z l)) (fun H2 e2 => .lst (ex_l e2 (sq_of (xs := ([] : List Int).map V.int) hq)) (dpAll_z [])) (shaped_z l) (shaped_z [])
theorem zget {l : List Int} {i : Nat} {x : V} (h : (l.map V.int)[i]? = some x) : ∃ z, l[i]? = some z ∧ x = V.int z := by
  rw [List.getElem?_map] at h
  cases e : l[i]? with
  | none => rw [e] at h; cases h
  | some n => rw [e] at h; exact ⟨n, rfl, (Option.some.inj h).symm⟩
theorem zgetD {l : List Int} {i : Nat} (h : i < l.length) : l[i]? = some (l.getD i 0) := by
  rw [List.getD_eq_getElem?_getD, List.getElem?_eq_getElem h]
  rfl
theorem zat {l : List Int} {i : Int} {j : Nat} (e : i = (j : Int)) (h : j < l.length) : atI (l.map V.int) i = some (V.int (l.getD j 0)) := at_of e (by rw [List.getElem?_map, zgetD h]; rfl)
theorem zfilter (l : List Int) (f : Int → Bool) : given l.length (fun i => f (l.getD i 0)) (fun i => V.int (l.getD i 0)) = (l.filter f).map V.int := by
  have e : (List.range l.length).map (fun i => l.getD i 0) = l := by
    refine List.ext_getElem (by simp) fun i h1 h2 => ?_
    rw [List.length_map, List.length_range] at h1
    simp only [List.getElem_map, List.getElem_range]
    rw [List.getD_eq_getElem?_getD, List.getElem?_eq_getElem h1]
    rfl
  have e2 : l.filter f = ((List.range l.length).filter (fun i => f (l.getD i 0))).map (fun i => l.getD i 0) := by
    conv => lhs; rw [← e]
    rw [List.filter_map]
    rfl
  unfold given
  rw [e2, List.map_map]
  rfl
/-! ### the attributes -/
theorem kaw : ¬ (("above" : Str) = "worth") := by decide +kernel
def flds (a w : Addr) : List (Str × V) := putF "worth" (.ref w) (putF "above" (.ref a) [])
theorem flds_above (a w : Addr) : (flds a w).lookup ("above" : Str) = some (.ref a) := by
  unfold flds
  rw [lookup_putF, if_neg kaw, lookup_putF, if_pos rfl]
theorem flds_worth (a w : Addr) : (flds a w).lookup ("worth" : Str) = some (.ref w) := by
  unfold flds
  rw [lookup_putF, if_pos rfl]
theorem flds_no (a w : Addr) {m : Str} (h1 : ¬ m = "above") (h2 : ¬ m = "worth") : (flds a w).lookup m = none := by
  unfold flds
  rw [lookup_putF, if_neg h2, lookup_putF, if_neg h1]
  rfl
/-- a tree stands at p -/
structure TreeAt (C : Addr) (H : Hp) (p : Addr) (es ws : List Nat) : Prop where
  at_ : ∃ dx a w, H p = some (.ins C dx (flds a w)) ∧ H a = some (.lst (V.int (-1) :: vi es)) ∧ H w = some (.lst (vi ws))
  ok : Fm.OkT es ws
theorem TreeAt.mono {C : Addr} {H H' : Hp} {p : Addr} {es ws : List Nat} (T : TreeAt C H p es ws) (e : Ex H H') : TreeAt C H' p es ws := by
  obtain ⟨⟨dx, a, w, h1, h2, h3⟩, o⟩ := T
  exact ⟨⟨dx, a, w, e _ _ h1, e _ _ h2, e _ _ h3⟩, o⟩
/-- elders and worths that make a tree -/
def Right (le lw : List Int) : Prop := 1 ≤ lw.length ∧ lw.length ≤ 14 ∧ le.length + 1 = lw.length ∧ (∀ k, k < le.length → 0 ≤ le.getD k 0 ∧ le.getD k 0 ≤ (k : Int)) ∧ ∀ z ∈ lw, 0 ≤ z ∧ z ≤ 1000
theorem vi_int (l : List Nat) : vi l = (l.map fun (n : Nat) => (n : Int)).map V.int := vi_ints l
theorem right_of {es ws : List Nat} (o : Fm.OkT es ws) : Right (es.map fun (n : Nat) => (n : Int)) (ws.map fun (n : Nat) => (n : Int)) := by
  have := o.len
  refine ⟨by rw [List.length_map]; omega, by rw [List.length_map]; exact o.most, by rw [List.length_map, List.length_map]; exact o.len, fun k hk => ?_, fun z hz => ?_⟩
  · rw [List.length_map] at hk
    rw [List.getD_eq_getElem?_getD, List.getElem?_map]
    have h := o.up k es[k] (List.getElem?_eq_getElem hk)
    rw [List.getElem?_eq_getElem hk]
    show 0 ≤ ((es[k] : Nat) : Int) ∧ ((es[k] : Nat) : Int) ≤ (k : Int)
    omega
  · obtain ⟨n, hn, rfl⟩ := List.mem_map.mp hz
    have := o.wt n hn
    omega
/-- what stands of the text for the class -/
structure TreeT (K : PySem.W.Frag) (mg : Str → Option Value) (C : Addr) : Prop where
  cl : Cls K C
  nA : NoAttr K C "above"
  nW : NoAttr K C "worth"
  g : mg "Tree" = some (.ref C)
section
variable {P : Program} {w : World} {K : PySem.W.Frag} {mg : Str → Option Value} {base : Heap} {C cBad cNo : Addr}
/-! ### __init__ -/
def spInit (K : PySem.W.Frag) (C cBad : Addr) : Sp := fun vs H Q E => ∃ (p dx pe pw : Addr) (le lw : List Int), vs = [.ref p, .ref pe, .ref pw] ∧ H p = some (.ins C dx []) ∧ SqL K H pe (le.map V.int) ∧ SqL K H pw (lw.map V.int) ∧ le.length ≤ 30000 ∧ lw.length ≤ 30000 ∧
  (Right le lw → ∀ a u H2, H a = none → H u = none → (∀ b o, b ≠ p → H b = some o → H2 b = some o) → H2 p = some (.ins C dx (flds a u)) → H2 a = some (.lst (V.int (-1) :: le.map V.int)) → H2 u = some (.lst (lw.map V.int)) → Q .non H2) ∧
  (¬ Right le lw → ∀ H2, Ex H H2 → E (.ref cBad) none H2)
theorem has_init (B : Bi mg) (T : TreeT K mg C) {t1 t2 : Tok} (c_MOST : mg "MOST" = some (.int 14 t1)) (c_WORTHS : mg "WORTHS" = some (.int 1000 t2)) (e_BadTree : Err K mg "BadTree" cBad) (D : AtI K C "Tree.__init__" s_Tree___init__ p_Tree___init__) :
    HasI P w K mg base (L2.CX P w) C p_Tree___init__ 1 (spInit K C cBad) := D.has fun f fd F => by
  refine F.okX sc_Tree___init__ (fun vs H Q E h => ?_) (fun cdv A outer s H vs Q E hr h => ?_)
  · obtain ⟨p, dx, pe, pw, le, lw, rfl, _⟩ := h
    rfl
  · obtain ⟨p, dx, pe, pw, le, lw, rfl, hp, he, hw, h1, h2, kQ, kE⟩ := h
    refine ⟨_, (pss_cons (ps_if (PW.pt (pw_or (pt_not (pt_chain op_le op_le pe_int (pe_callB (call_lenK (K := K)) (by rfl) B.len PySem.boot_len (pa_cons (pv 2) pa_nil)) (pe_gint (by rfl) c_MOST))) (pw_or1 (pt_cmpR op_ne (pe_callB (call_lenK (K := K)) (by rfl) B.len PySem.boot_len (pa_cons (pv 1) pa_nil)) (pe_op op_sub (pe_callB (call_lenK (K := K)) (by rfl) B.len PySem.boot_len (pa_cons (pv 2) pa_nil)) pe_int) (nomark _))))) (pss_one (ps_raise rfl (takes_of rfl rfl rfl rfl) (e_BadTree.made (by rfl)))) pss_nil)
      (pss_cons (ps_for (passes_of rfl) rfl (pi_range1 (by rfl) B.range (pa_cons (pe_callB (call_lenK (K := K)) (by rfl) B.len PySem.boot_len (pa_cons (pv 1) pa_nil)) pa_nil)) (pg_name (i := 3) sc_Tree___init__.nd rfl (Or.inl rfl)) (pss_one (ps_if (pt_not (pt_chain op_le op_le pe_int (pe_ix (ix_listK (K := K)) (pv 1) (pv 3) (fun _ _ => rfl)) (pv 3))) (pss_one (ps_raise rfl (takes_of rfl rfl rfl rfl) (e_BadTree.made (by rfl)))) pss_nil)))
      (pss_cons (ps_if (pt_cmpR (op_neDK (K := K) hr.units) (pe_lc (own := [("worth", 4)]) (g := gName 4) rfl sc_Tree___init__.nd (pi_list (pv 2)) (blkOk_by (own := [("worth", 4)]) (N := n_Tree___init__) (sc := defScope s_Tree___init__) (by decide +kernel)) (fun _ _ _ _ _ => pg_name (i := 4) sc_Tree___init__.nd rfl (Or.inl rfl)) (fun _ _ _ _ _ => pts_one (pt_not (pt_chain op_le op_le pe_int (pv 4) (pe_gint (by rfl) c_WORTHS)))) (fun _ _ _ _ _ => (pv 4))) (pe_lst pa_nil) (nomark _)) (pss_one (ps_raise rfl (takes_of rfl rfl rfl rfl) (e_BadTree.made (by rfl)))) pss_nil)
      (pss_cons (ps_fld (pv 0) (pe_op op_cat (pe_lst (pa_cons (pe_un un_neg pe_int) pa_nil)) (pe_callTy (call_listK (K := K)) (by rfl) B.list (by decide +kernel) (pa_cons (pv 1) pa_nil))) rfl)
      (pss_one (ps_fld (pv 0) (pe_callTy (call_listK (K := K)) (by rfl) B.list (by decide +kernel) (pa_cons (pv 2) pa_nil)) rfl)))))), ?_⟩
    have lE : (le.map V.int).length = le.length := List.length_map _
    have lW : (lw.map V.int).length = lw.length := List.length_map _
    refine q_when (b := (!(decide ((1 : Int) ≤ (lw.length : Int)) && decide ((lw.length : Int) ≤ 14))) || !decide (V.int (le.length : Int) = V.int ((lw.length : Int) - 1)))
      (et_or (et_not (et_test (ev_chain ev_c (ev_is (ev_lenS (ev_var rfl) hw) (by rw [lW])) (fun _ => ev_c) rv_I0 (fun _ => rv_I0)))) fun _ => et_test (ev_op (ev_is (ev_lenS (ev_var rfl) he) (by rw [lE])) (ev_op (ev_is (ev_lenS (ev_var rfl) hw) (by rw [lW])) ev_c rv_I0) (rv_ne rfl))) (fun hb H1 e1 => ?_) (fun hb H1 e1 => ?_)
    · -- raise
      refine kE (fun R => ?_) H1 e1
      obtain ⟨r1, r2, r3, _⟩ := R
      have x1 : decide ((1 : Int) ≤ (lw.length : Int)) = true := decide_eq_true (by omega)
      have x2 : decide ((lw.length : Int) ≤ 14) = true := decide_eq_true (by omega)
      have x3 : decide (V.int (le.length : Int) = V.int ((lw.length : Int) - 1)) = true := decide_eq_true (by congr 1; omega)
      rw [x1, x2, x3] at hb
      cases hb
    · have x : (1 ≤ lw.length ∧ lw.length ≤ 14) ∧ le.length + 1 = lw.length := by
        simp only [Bool.or_eq_false_iff, Bool.not_eq_false', Bool.and_eq_true, decide_eq_true_eq] at hb
        obtain ⟨⟨a1, a2⟩, a3⟩ := hb
        injection a3 with a3
        omega
      -- for k in range(len(elders))
      refine q_forR1 (n := (le.length : Int)) (ea_cons (ev_is (ev_lenS (ev_var rfl) (ex_l e1 he)) (by rw [lE])) ea_nil) ⟨by omega, by omega⟩
        (fun i σ' H' => ∃ v, σ' = [some (.ref p), some (.ref pe), some (.ref pw), v, none] ∧ Ex H H' ∧ ∀ k, k < i → 0 ≤ le.getD k 0 ∧ le.getD k 0 ≤ (k : Int)) (fun H2 e2 => ⟨none, rfl, e1.trans e2, fun k hk => absurd hk (Nat.not_lt_zero _)⟩) ?_ ?_
      · rintro i σ' H' hi ⟨v, rfl, e, hu⟩
        have hx := zat (l := le) (i := (i : Int)) (j := i) rfl (by omega)
        refine s_when (b := !(decide ((0 : Int) ≤ le.getD i 0) && decide (le.getD i 0 ≤ (i : Int)))) (et_not (et_test (ev_chain ev_c (ev_opIx (ev_var rfl) (ev_var rfl) (ex_l e he) hx) (fun _ => ev_var rfl) rv_I0 (fun _ => rv_I0)))) (fun hb2 H2 e2 => ?_) (fun hb2 H2 e2 => ?_)
        · refine kE (fun R => ?_) H2 (e.trans e2)
          obtain ⟨_, _, _, r4, _⟩ := R
          obtain ⟨y1, y2⟩ := r4 i (by omega)
          rw [decide_eq_true y1, decide_eq_true y2] at hb2
          cases hb2
        · simp only [Bool.not_eq_false', Bool.and_eq_true, decide_eq_true_eq] at hb2
          refine ⟨_, rfl, e.trans e2, fun k hk => ?_⟩
          by_cases hki : k = i
          · rw [hki]; exact hb2
          · exact hu k (by omega)
      · rintro σ' H' ⟨v, rfl, e, hu⟩
        rw [Int.toNat_natCast] at hu
        -- the worths
        refine q_when (b := !decide (lw.filter (fun z => !(decide ((0 : Int) ≤ z) && decide (z ≤ 1000))) = [])) (et_test (ev_neNilZ (el_is (el_lcL (fun i => !(decide ((0 : Int) ≤ lw.getD i 0) && decide (lw.getD i 0 ≤ 1000))) (fun i => V.int (lw.getD i 0)) (ev_var rfl) (ex_l e hw) (by rw [lW]; omega) (fun x => rfl) (fun i x H2 e2 hi => ?_) (fun i x H2 e2 hi _ => ?_))
          (by rw [lW]; exact zfilter lw fun z => !(decide ((0 : Int) ≤ z) && decide (z ≤ 1000)))))) (fun hb2 H2 e2 => ?_) (fun hb2 H2 e2 => ?_)
        · obtain ⟨z, hz, rfl⟩ := zget hi
          have ez : lw.getD i 0 = z := by rw [List.getD_eq_getElem?_getD, hz]; rfl
          rw [ez]
          exact et_not (et_test (ev_chain ev_c (ev_var rfl) (fun _ => ev_c) rv_I0 (fun _ => rv_I0)))
        · obtain ⟨z, hz, rfl⟩ := zget hi
          have ez : lw.getD i 0 = z := by rw [List.getD_eq_getElem?_getD, hz]; rfl
          show Ev _ _ _ (V.int (lw.getD i 0))
          rw [ez]
          exact ev_var rfl
        · refine kE (fun R => ?_) H2 (e.trans e2)
          obtain ⟨_, _, _, _, r5⟩ := R
          have : lw.filter (fun z => !(decide ((0 : Int) ≤ z) && decide (z ≤ 1000))) = [] := by
            rw [List.filter_eq_nil_iff]
            intro z hz
            obtain ⟨y1, y2⟩ := r5 z hz
            rw [decide_eq_true y1, decide_eq_true y2]
            decide
          rw [decide_eq_true this] at hb2
          cases hb2
        · have hnil : lw.filter (fun z => !(decide ((0 : Int) ≤ z) && decide (z ≤ 1000))) = [] := by
            cases hd : decide (lw.filter (fun z => !(decide ((0 : Int) ≤ z) && decide (z ≤ 1000))) = []) with
            | true => exact of_decide_eq_true hd
            | false => rw [hd] at hb2; cases hb2
          have R : Right le lw := ⟨x.1.1, x.1.2, x.2, hu, fun z hz => by
            have := List.filter_eq_nil_iff.mp hnil z hz
            simp only [Bool.not_eq_true', Bool.not_eq_false, Bool.and_eq_true, decide_eq_true_eq] at this
            exact this⟩
          have E2 := e.trans e2
          -- self.above = [-1] + list(elders)
          refine q_fld (EvL.p (el_catNN (xs := [V.int (-1)]) (ys := le.map V.int) (el_lst (ea_cons (ev_un ev_c ru_neg) ea_nil) (by show 1 ≤ 100000; decide)) (el_listS (ev_var rfl) (ex_l E2 he)) (by show 1 + _ ≤ _; rw [lE]; omega))) fun v1 H3 e3 ⟨a, ev, ha, hA⟩ => ⟨dx, [], ev_var rfl, e3 _ _ (E2 _ _ hp), T.cl, T.nA, by show 0 < 1000; decide, fun H4 e4 => ?_⟩
          subst ev
          have E4 := (E2.trans e3).trans e4
          have npa : p ≠ a := ne_of_none (E2 _ _ hp) ha
          have npe : SqL K (upd H4 p (.ins C dx (putF "above" (.ref a) []))) pw (lw.map V.int) := by
            rcases ex_l E4 hw with (h | ⟨o, h⟩) | h
            · exact .inl (.inl (by rw [upd_ne]; exact h; intro z; rw [z] at h; rw [E4 _ _ hp] at h; cases h))
            · exact .inl (.inr ⟨o, by rw [upd_ne]; exact h; intro z; rw [z] at h; rw [E4 _ _ hp] at h; cases h⟩)
            · exact .inr h
          -- self.worth = list(worths)
          refine s_fld (EvL.p (el_listS (ev_var rfl) npe)) fun v2 H5 e5 ⟨u, ev2, hu2, hU⟩ => ⟨dx, putF "above" (.ref a) [], ev_var rfl, e5 _ _ upd_same, T.cl, T.nW, by show 1 < 1000; decide, fun H6 e6 => ?_⟩
          subst ev2
          have npu : p ≠ u := ne_of_none upd_same hu2
          have hA6 : H6 a = some (.lst (V.int (-1) :: le.map V.int)) := e6 _ _ (e5 _ _ (by rw [upd_ne npa.symm]; exact e4 _ _ hA))
          have fa : H a = none := fresh_back E2 ha
          have fu : H u = none := by
            have q : H4 u = none := by rw [upd_ne npu.symm] at hu2; exact hu2
            exact fresh_back E4 q
          refine kQ R a u _ fa fu (fun b o hb hbo => ?_) upd_same (by rw [upd_ne npa.symm]; exact hA6) (by rw [upd_ne npu.symm]; exact e6 _ _ hU)
          rw [upd_ne hb]
          exact e6 _ _ (e5 _ _ (by rw [upd_ne hb]; exact E4 _ _ hbo))
/-- a Tree that was made beside H: nothing of it stood there -/
def TreeNew (C : Addr) (H H2 : Hp) (v : V) (es ws : List Nat) : Prop := ∃ x dx a u, v = .ref x ∧ H x = none ∧ H a = none ∧ H u = none ∧ H2 x = some (.ins C dx (flds a u)) ∧ H2 a = some (.lst (V.int (-1) :: vi es)) ∧ H2 u = some (.lst (vi ws))
theorem spp_tree {H : Hp} {pe pw : Addr} {es ws : List Nat} (he : SqL K H pe (vi es)) (hw : SqL K H pw (vi ws)) (o : Fm.OkT es ws) : ∀ H1, Ex H H1 → ∀ x dx, H1 x = none → H1 dx = none → dx ≠ x → ∀ Q : VK, (∀ H2, Ex H1 H2 → TreeNew C H H2 (.ref x) es ws → Q (.ref x) H2) → ∀ E : XK,
    spInit K C cBad (.ref x :: [.ref pe, .ref pw]) (upd (upd H1 dx (.own x)) x (.ins C dx [])) (fun v H2 => v = .non ∧ Q (.ref x) H2) E := fun H1 e x dx hx hdx ne Q q E => by
  have e0 : Ex H1 (upd (upd H1 dx (.own x)) x (.ins C dx [])) := fun b ob hb => by
    rw [upd_ne (ne_of_none hb hx), upd_ne (ne_of_none hb hdx)]
    exact hb
  have ol := o.len
  have om := o.most
  refine ⟨x, dx, pe, pw, es.map fun (n : Nat) => (n : Int), ws.map fun (n : Nat) => (n : Int), rfl, upd_same, by rw [← vi_int]; exact ex_l (e.trans e0) he, by rw [← vi_int]; exact ex_l (e.trans e0) hw, by rw [List.length_map]; omega, by rw [List.length_map]; omega,
    fun _ a u H2 ha hu k hp hA hU => ⟨rfl, q H2 (fun b ob hb => k b ob (ne_of_none hb hx) (e0 b ob hb)) ⟨x, dx, a, u, rfl, fresh_back e hx, fresh_back (e.trans e0) ha, fresh_back (e.trans e0) hu, hp, by rw [vi_int]; exact hA, by rw [vi_int]; exact hU⟩⟩, fun h => absurd (right_of o) h⟩
theorem TreeNew.at {H H2 : Hp} {v : V} {es ws : List Nat} (h : TreeNew C H H2 v es ws) (o : Fm.OkT es ws) : ∃ x, v = .ref x ∧ TreeAt C H2 x es ws := by
  obtain ⟨x, dx, a, u, rfl, _, _, _, h1, h2, h3⟩ := h
  exact ⟨x, rfl, ⟨dx, a, u, h1, h2, h3⟩, o⟩
/-! ### elders, worths, things -/
def spElders1 (C : Addr) : Sp := fun vs H Q _ => ∃ (p : Addr) (es ws : List Nat), vs = [.ref p] ∧ TreeAt C H p es ws ∧ RetL (vi es) H Q
def spWorths1 (C : Addr) : Sp := fun vs H Q _ => ∃ (p : Addr) (es ws : List Nat), vs = [.ref p] ∧ TreeAt C H p es ws ∧ RetL (vi ws) H Q
def spThings (C : Addr) : Sp := fun vs H Q _ => ∃ (p : Addr) (es ws : List Nat), vs = [.ref p] ∧ TreeAt C H p es ws ∧ RetV (.int (ws.length : Int)) H Q
theorem spl_elders1 {H : Hp} {p : Addr} {es ws : List Nat} (h : TreeAt C H p es ws) : SpL (spElders1 C) [.ref p] H (vi es) := fun H1 e Q q E => ⟨p, es, ws, rfl, h.mono e, q⟩
theorem spl_worths1 {H : Hp} {p : Addr} {es ws : List Nat} (h : TreeAt C H p es ws) : SpL (spWorths1 C) [.ref p] H (vi ws) := fun H1 e Q q E => ⟨p, es, ws, rfl, h.mono e, q⟩
theorem spv_things {H : Hp} {p : Addr} {es ws : List Nat} (h : TreeAt C H p es ws) : SpV (spThings C) [.ref p] H (.int (ws.length : Int)) := fun H1 e Q q E => ⟨p, es, ws, rfl, h.mono e, q⟩
theorem has_elders1 (B : Bi mg) (T : TreeT K mg C) (D : AtM K C "elders" "Tree.elders" s_Tree_elders p_Tree_elders) : HasM P w K mg base CX0 C "elders" p_Tree_elders 1 (spElders1 C) := D.has fun f fd F => by
  refine F.ok sc_Tree_elders (fun vs H Q E h => ?_) (fun cdv A outer s H vs Q E hr h => ?_)
  · obtain ⟨p, es, ws, rfl, _⟩ := h
    rfl
  · obtain ⟨p, es, ws, rfl, ⟨⟨dx, a, u, h1, h2, h3⟩, o⟩, q⟩ := h
    refine ⟨_, (pss_one (ps_ret (pe_callTy (call_listK (K := K)) (by rfl) B.list (by decide +kernel) (pa_cons (pe_slice (sl_listK (K := K)) (pe_fldK (K := K) (pv 0) rfl) (po_some pe_int) po_none) pa_nil)))), ?_⟩
    exact s_retL (el_listN (el_is (el_sl (ev_fld (ev_var rfl) h1 T.cl T.nA (flds_above a u)) (eo_some ev_c) eo_none (sq_of h2)) (by
      unfold cutV
      show (List.drop 1 (V.int (-1) :: vi es)).take _ = _
      exact List.take_of_length_le (by simp [HT.sIx, List.length_drop])))) q
theorem has_worths1 (B : Bi mg) (T : TreeT K mg C) (D : AtM K C "worths" "Tree.worths" s_Tree_worths p_Tree_worths) : HasM P w K mg base CX0 C "worths" p_Tree_worths 1 (spWorths1 C) := D.has fun f fd F => by
  refine F.ok sc_Tree_worths (fun vs H Q E h => ?_) (fun cdv A outer s H vs Q E hr h => ?_)
  · obtain ⟨p, es, ws, rfl, _⟩ := h
    rfl
  · obtain ⟨p, es, ws, rfl, ⟨⟨dx, a, u, h1, h2, h3⟩, o⟩, q⟩ := h
    refine ⟨_, (pss_one (ps_ret (pe_callTy (call_listK (K := K)) (by rfl) B.list (by decide +kernel) (pa_cons (pe_fldK (K := K) (pv 0) rfl) pa_nil)))), ?_⟩
    exact s_retL (el_listS (ev_fld (ev_var rfl) h1 T.cl T.nW (flds_worth a u)) (sq_of h3)) q
theorem has_things (B : Bi mg) (T : TreeT K mg C) (D : AtM K C "things" "Tree.things" s_Tree_things p_Tree_things) : HasM P w K mg base CX0 C "things" p_Tree_things 1 (spThings C) := D.has fun f fd F => by
  refine F.ok sc_Tree_things (fun vs H Q E h => ?_) (fun cdv A outer s H vs Q E hr h => ?_)
  · obtain ⟨p, es, ws, rfl, _⟩ := h
    rfl
  · obtain ⟨p, es, ws, rfl, ⟨⟨dx, a, u, h1, h2, h3⟩, o⟩, q⟩ := h
    refine ⟨_, (pss_one (ps_ret (pe_callB (call_lenK (K := K)) (by rfl) B.len PySem.boot_len (pa_cons (pe_fldK (K := K) (pv 0) rfl) pa_nil)))), ?_⟩
    exact s_ret (ev_is (ev_lenS (ev_fld (ev_var rfl) h1 T.cl T.nW (flds_worth a u)) (sq_of h3)) (by rw [vi_len])) q
end
end Fi
/-! Tree.__init__ once more, its error told with no context. -/
namespace Fi
open PySem L2 Evl
section
variable {P : Program} {w : World} {K : PySem.W.Frag} {mg : Str → Option Value} {base : Heap}
theorem funOkN {x qual : Str} {st : Stmt} {f : Addr} {fd : FuncData} {N ps : List Str} {k : Nat} {sp : Sp} (F : Fun K x qual st f fd) (S : FnScope N ps (defScope st)) (len : ∀ vs H Q E, sp vs H Q E → vs.length = ps.length)
    (body : ∀ (cdv : Value) (A : Around) (outer : List Env) (s : Shared) (H : Hp) (vs : List V) (Q : VK) (E : XK), Room k (A.deeper (PyProof.Rows.envOfC qual (defScope st) s.heap.objs.size f cdv)) → sp vs H Q E →
      ∃ t, PSs (cxOf (L2N.CX P w) P w K mg base N qual (defScope st) f cdv A outer s H E) (defBody st) t ∧ t { nx := fun _ H' => Q .non H', rt := Q } (start N vs) H) : FnOk P w K mg base (L2N.CX P w) (k + 1) f fd ps sp := by
  obtain ⟨_, _, _, _, _, _, cdv, _, _, rfl, lk, hcd⟩ := F.ex
  exact fn_of lk hcd S len fun A outer s H vs Q E hr h => body cdv A outer s H vs Q E hr h
end
theorem Err.madeN {X : Cx} {C : Addr} {x m : Str} {j : Nat} {p p2 pos : Pos} (T : Err X.K X.mg x C) (hg : Gl X x) (hdb : (x == ("__debug__" : Str)) = false := by decide) : L2N.PMk X (.Call (.Name x p) [.Constant (.str m) j p2] [] pos) (fun _ H Q => Q (.ref C) none H) :=
  L2N.pmk_own PySem.F.excBase_ValueError T.q T.g T.k (raises_own T.b T.t) hg hdb
section
variable {P : Program} {w : World} {K : PySem.W.Frag} {mg : Str → Option Value} {base : Heap} {C cBad cNo : Addr}
theorem has_initN (B : Bi mg) (T : TreeT K mg C) {t1 t2 : Tok} (c_MOST : mg "MOST" = some (.int 14 t1)) (c_WORTHS : mg "WORTHS" = some (.int 1000 t2)) (e_BadTree : Err K mg "BadTree" cBad) (D : AtI K C "Tree.__init__" s_Tree___init__ p_Tree___init__) :
    HasI P w K mg base (L2N.CX P w) C p_Tree___init__ 1 (spInit K C cBad) := D.has fun f fd F => by
  refine funOkN F sc_Tree___init__ (fun vs H Q E h => ?_) (fun cdv A outer s H vs Q E hr h => ?_)
  · obtain ⟨p, dx, pe, pw, le, lw, rfl, _⟩ := h
    rfl
  · obtain ⟨p, dx, pe, pw, le, lw, rfl, hp, he, hw, h1, h2, kQ, kE⟩ := h
    refine ⟨_, (pss_cons (ps_if (PW.pt (pw_or (pt_not (pt_chain op_le op_le pe_int (pe_callB (call_lenK (K := K)) (by rfl) B.len PySem.boot_len (pa_cons (pv 2) pa_nil)) (pe_gint (by rfl) c_MOST))) (pw_or1 (pt_cmpR op_ne (pe_callB (call_lenK (K := K)) (by rfl) B.len PySem.boot_len (pa_cons (pv 1) pa_nil)) (pe_op op_sub (pe_callB (call_lenK (K := K)) (by rfl) B.len PySem.boot_len (pa_cons (pv 2) pa_nil)) pe_int) (nomark _))))) (pss_one (L2N.ps_raise rfl (L2N.takes_of rfl rfl rfl rfl) (e_BadTree.madeN (by rfl)))) pss_nil)
      (pss_cons (ps_for (passes_of rfl) rfl (pi_range1 (by rfl) B.range (pa_cons (pe_callB (call_lenK (K := K)) (by rfl) B.len PySem.boot_len (pa_cons (pv 1) pa_nil)) pa_nil)) (pg_name (i := 3) sc_Tree___init__.nd rfl (Or.inl rfl)) (pss_one (ps_if (pt_not (pt_chain op_le op_le pe_int (pe_ix (ix_listK (K := K)) (pv 1) (pv 3) (fun _ _ => rfl)) (pv 3))) (pss_one (L2N.ps_raise rfl (L2N.takes_of rfl rfl rfl rfl) (e_BadTree.madeN (by rfl)))) pss_nil)))
      (pss_cons (ps_if (pt_cmpR (op_neDK (K := K) hr.units) (pe_lc (own := [("worth", 4)]) (g := gName 4) rfl sc_Tree___init__.nd (pi_list (pv 2)) (blkOk_by (own := [("worth", 4)]) (N := n_Tree___init__) (sc := defScope s_Tree___init__) (by decide +kernel)) (fun _ _ _ _ _ => pg_name (i := 4) sc_Tree___init__.nd rfl (Or.inl rfl)) (fun _ _ _ _ _ => pts_one (pt_not (pt_chain op_le op_le pe_int (pv 4) (pe_gint (by rfl) c_WORTHS)))) (fun _ _ _ _ _ => (pv 4))) (pe_lst pa_nil) (nomark _)) (pss_one (L2N.ps_raise rfl (L2N.takes_of rfl rfl rfl rfl) (e_BadTree.madeN (by rfl)))) pss_nil)
      (pss_cons (ps_fld (pv 0) (pe_op op_cat (pe_lst (pa_cons (pe_un un_neg pe_int) pa_nil)) (pe_callTy (call_listK (K := K)) (by rfl) B.list (by decide +kernel) (pa_cons (pv 1) pa_nil))) rfl)
      (pss_one (ps_fld (pv 0) (pe_callTy (call_listK (K := K)) (by rfl) B.list (by decide +kernel) (pa_cons (pv 2) pa_nil)) rfl)))))), ?_⟩
    have lE : (le.map V.int).length = le.length := List.length_map _
    have lW : (lw.map V.int).length = lw.length := List.length_map _
    refine q_when (b := (!(decide ((1 : Int) ≤ (lw.length : Int)) && decide ((lw.length : Int) ≤ 14))) || !decide (V.int (le.length : Int) = V.int ((lw.length : Int) - 1)))
      (et_or (et_not (et_test (ev_chain ev_c (ev_is (ev_lenS (ev_var rfl) hw) (by rw [lW])) (fun _ => ev_c) rv_I0 (fun _ => rv_I0)))) fun _ => et_test (ev_op (ev_is (ev_lenS (ev_var rfl) he) (by rw [lE])) (ev_op (ev_is (ev_lenS (ev_var rfl) hw) (by rw [lW])) ev_c rv_I0) (rv_ne rfl))) (fun hb H1 e1 => ?_) (fun hb H1 e1 => ?_)
    · -- raise
      refine kE (fun R => ?_) H1 e1
      obtain ⟨r1, r2, r3, _⟩ := R
      have x1 : decide ((1 : Int) ≤ (lw.length : Int)) = true := decide_eq_true (by omega)
      have x2 : decide ((lw.length : Int) ≤ 14) = true := decide_eq_true (by omega)
      have x3 : decide (V.int (le.length : Int) = V.int ((lw.length : Int) - 1)) = true := decide_eq_true (by congr 1; omega)
      rw [x1, x2, x3] at hb
      cases hb
    · have x : (1 ≤ lw.length ∧ lw.length ≤ 14) ∧ le.length + 1 = lw.length := by
        simp only [Bool.or_eq_false_iff, Bool.not_eq_false', Bool.and_eq_true, decide_eq_true_eq] at hb
        obtain ⟨⟨a1, a2⟩, a3⟩ := hb
        injection a3 with a3
        omega
      -- for k in range(len(elders))
      refine q_forR1 (n := (le.length : Int)) (ea_cons (ev_is (ev_lenS (ev_var rfl) (ex_l e1 he)) (by rw [lE])) ea_nil) ⟨by omega, by omega⟩
        (fun i σ' H' => ∃ v, σ' = [some (.ref p), some (.ref pe), some (.ref pw), v, none] ∧ Ex H H' ∧ ∀ k, k < i → 0 ≤ le.getD k 0 ∧ le.getD k 0 ≤ (k : Int)) (fun H2 e2 => ⟨none, rfl, e1.trans e2, fun k hk => absurd hk (Nat.not_lt_zero _)⟩) ?_ ?_
      · rintro i σ' H' hi ⟨v, rfl, e, hu⟩
        have hx := zat (l := le) (i := (i : Int)) (j := i) rfl (by omega)
        refine s_when (b := !(decide ((0 : Int) ≤ le.getD i 0) && decide (le.getD i 0 ≤ (i : Int)))) (et_not (et_test (ev_chain ev_c (ev_opIx (ev_var rfl) (ev_var rfl) (ex_l e he) hx) (fun _ => ev_var rfl) rv_I0 (fun _ => rv_I0)))) (fun hb2 H2 e2 => ?_) (fun hb2 H2 e2 => ?_)
        · refine kE (fun R => ?_) H2 (e.trans e2)
          obtain ⟨_, _, _, r4, _⟩ := R
          obtain ⟨y1, y2⟩ := r4 i (by omega)
          rw [decide_eq_true y1, decide_eq_true y2] at hb2
          cases hb2
        · simp only [Bool.not_eq_false', Bool.and_eq_true, decide_eq_true_eq] at hb2
          refine ⟨_, rfl, e.trans e2, fun k hk => ?_⟩
          by_cases hki : k = i
          · rw [hki]; exact hb2
          · exact hu k (by omega)
      · rintro σ' H' ⟨v, rfl, e, hu⟩
        rw [Int.toNat_natCast] at hu
        -- the worths
        refine q_when (b := !decide (lw.filter (fun z => !(decide ((0 : Int) ≤ z) && decide (z ≤ 1000))) = [])) (et_test (ev_neNilZ (el_is (el_lcL (fun i => !(decide ((0 : Int) ≤ lw.getD i 0) && decide (lw.getD i 0 ≤ 1000))) (fun i => V.int (lw.getD i 0)) (ev_var rfl) (ex_l e hw) (by rw [lW]; omega) (fun x => rfl) (fun i x H2 e2 hi => ?_) (fun i x H2 e2 hi _ => ?_))
          (by rw [lW]; exact zfilter lw fun z => !(decide ((0 : Int) ≤ z) && decide (z ≤ 1000)))))) (fun hb2 H2 e2 => ?_) (fun hb2 H2 e2 => ?_)
        · obtain ⟨z, hz, rfl⟩ := zget hi
          have ez : lw.getD i 0 = z := by rw [List.getD_eq_getElem?_getD, hz]; rfl
          rw [ez]
          exact et_not (et_test (ev_chain ev_c (ev_var rfl) (fun _ => ev_c) rv_I0 (fun _ => rv_I0)))
        · obtain ⟨z, hz, rfl⟩ := zget hi
          have ez : lw.getD i 0 = z := by rw [List.getD_eq_getElem?_getD, hz]; rfl
          show Ev _ _ _ (V.int (lw.getD i 0))
          rw [ez]
          exact ev_var rfl
        · refine kE (fun R => ?_) H2 (e.trans e2)
          obtain ⟨_, _, _, _, r5⟩ := R
          have : lw.filter (fun z => !(decide ((0 : Int) ≤ z) && decide (z ≤ 1000))) = [] := by
            rw [List.filter_eq_nil_iff]
            intro z hz
            obtain ⟨y1, y2⟩ := r5 z hz
            rw [decide_eq_true y1, decide_eq_true y2]
            decide
          rw [decide_eq_true this] at hb2
          cases hb2
        · have hnil : lw.filter (fun z => !(decide ((0 : Int) ≤ z) && decide (z ≤ 1000))) = [] := by
            cases hd : decide (lw.filter (fun z => !(decide ((0 : Int) ≤ z) && decide (z ≤ 1000))) = []) with
            | true => exact of_decide_eq_true hd
            | false => rw [hd] at hb2; cases hb2
          have R : Right le lw := ⟨x.1.1, x.1.2, x.2, hu, fun z hz => by
            have := List.filter_eq_nil_iff.mp hnil z hz
            simp only [Bool.not_eq_true', Bool.not_eq_false, Bool.and_eq_true, decide_eq_true_eq] at this
            exact this⟩
          have E2 := e.trans e2
          -- self.above = [-1] + list(elders)
          refine q_fld (EvL.p (el_catNN (xs := [V.int (-1)]) (ys := le.map V.int) (el_lst (ea_cons (ev_un ev_c ru_neg) ea_nil) (by show 1 ≤ 100000; decide)) (el_listS (ev_var rfl) (ex_l E2 he)) (by show 1 + _ ≤ _; rw [lE]; omega))) fun v1 H3 e3 ⟨a, ev, ha, hA⟩ => ⟨dx, [], ev_var rfl, e3 _ _ (E2 _ _ hp), T.cl, T.nA, by show 0 < 1000; decide, fun H4 e4 => ?_⟩
          subst ev
          have E4 := (E2.trans e3).trans e4
          have npa : p ≠ a := ne_of_none (E2 _ _ hp) ha
          have npe : SqL K (upd H4 p (.ins C dx (putF "above" (.ref a) []))) pw (lw.map V.int) := by
            rcases ex_l E4 hw with (h | ⟨o, h⟩) | h
            · exact .inl (.inl (by rw [upd_ne]; exact h; intro z; rw [z] at h; rw [E4 _ _ hp] at h; cases h))
            · exact .inl (.inr ⟨o, by rw [upd_ne]; exact h; intro z; rw [z] at h; rw [E4 _ _ hp] at h; cases h⟩)
            · exact .inr h
          -- self.worth = list(worths)
          refine s_fld (EvL.p (el_listS (ev_var rfl) npe)) fun v2 H5 e5 ⟨u, ev2, hu2, hU⟩ => ⟨dx, putF "above" (.ref a) [], ev_var rfl, e5 _ _ upd_same, T.cl, T.nW, by show 1 < 1000; decide, fun H6 e6 => ?_⟩
          subst ev2
          have npu : p ≠ u := ne_of_none upd_same hu2
          have hA6 : H6 a = some (.lst (V.int (-1) :: le.map V.int)) := e6 _ _ (e5 _ _ (by rw [upd_ne npa.symm]; exact e4 _ _ hA))
          have fa : H a = none := fresh_back E2 ha
          have fu : H u = none := by
            have q : H4 u = none := by rw [upd_ne npu.symm] at hu2; exact hu2
            exact fresh_back E4 q
          refine kQ R a u _ fa fu (fun b o hb hbo => ?_) upd_same (by rw [upd_ne npa.symm]; exact hA6) (by rw [upd_ne npu.symm]; exact e6 _ _ hU)
          rw [upd_ne hb]
          exact e6 _ _ (e5 _ _ (by rw [upd_ne hb]; exact E4 _ _ hbo))
end
end Fi
/-! notes.number_of. -/
namespace Fi
open PySem L2 Evl
section
variable {P : Program} {w : World} {K : PySem.W.Frag} {mg : Str → Option Value} {base : Heap} {cText : Addr}
def spNum (cText : Addr) : Sp := fun vs H Q E => ∃ (x : Str), vs = [.str x] ∧ x.length ≤ 99999 ∧ (∀ n, numS x = some n → RetV (.int (n : Int)) H Q) ∧ (numS x = none → ∀ H2, Ex H H2 → E (.ref cText) none H2)
theorem spv_num {H : Hp} {x : Str} {n : Nat} (h : numS x = some n) (hl : x.length ≤ 99999) : SpV (spNum cText) [.str x] H (.int (n : Int)) := fun H1 e Q q E => ⟨x, rfl, hl, fun m hm => by rw [h] at hm; cases hm; exact q, fun hn => by rw [h] at hn; cases hn⟩
theorem str_zero {c : Nat} : decide (V.str ⟨#[c]⟩ = V.str (Str.ofString "0")) = decide (c = 48) := by
  have e : (Str.ofString "0" : Str) = ⟨#[48]⟩ := by decide +kernel
  rw [e]
  by_cases h : c = 48
  · subst h; simp
  · have h2 : ¬ (V.str (⟨#[c]⟩ : Str) = V.str ⟨#[48]⟩) := fun z => h (one_sign.mp (by injection z))
    rw [decide_eq_false h, decide_eq_false h2]
theorem str_dec {a b : Str} : decide (V.str a = V.str b) = decide (a = b) := by
  by_cases h : a = b
  · subst h; simp
  · have h2 : ¬ (V.str a = V.str b) := fun z => h (by injection z)
    rw [decide_eq_false h, decide_eq_false h2]
theorem has_num (B : Bi mg) {tk : Tok} (c_FIGURES : mg "FIGURES" = some (.str "0123456789" tk)) (e_NoText : Err K mg "NoText" cText) (D : At K mg "number_of" s_number_of p_number_of) : Has P w K mg base (L2.CX P w) "number_of" p_number_of 1 (spNum cText) := D.has fun f fd F => by
  refine F.okX sc_number_of (fun vs H Q E h => ?_) (fun cdv A outer s H vs Q E hr h => ?_)
  · obtain ⟨x, rfl, _⟩ := h
    rfl
  · obtain ⟨x, rfl, hl, k1, k2⟩ := h
    have hll := len_list x
    refine ⟨_, (pss_cons (ps_if (PW.pt (pw_or (pt_not (pt_chain op_le op_le pe_int (pe_callB call_len_str (by rfl) B.len PySem.boot_len (pa_cons (pv 0) pa_nil)) pe_int)) (pw_or1 (PW.pt (pw_and (pt_cmpR op_eq (pe_ix ix_str (pv 0) pe_int (fun _ _ => rfl)) pe_str (nomark _)) (pw_and1 (pt_cmpR op_ne (pv 0) pe_str (nomark _)))))))) (pss_one (ps_raise rfl (takes_of rfl rfl rfl rfl) (e_NoText.made (by rfl)))) pss_nil)
      (pss_cons (ps_for (passes_of rfl) rfl (pi_str (pv 0)) (pg_name (i := 1) sc_number_of.nd rfl (Or.inl rfl)) (pss_one (ps_if (pt_cmpR op_notIn_sign (pv 1) (pe_gstr (by rfl) c_FIGURES) (by with_unfolding_all rfl)) (pss_one (ps_raise rfl (takes_of rfl rfl rfl rfl) (e_NoText.made (by rfl)))) pss_nil)))
      (pss_one (ps_ret (pe_callTy call_int_str (by rfl) B.int (by decide +kernel) (pa_cons (pv 0) pa_nil)))))), ?_⟩
    refine q_when (b := !(decide ((1 : Int) ≤ (x.length : Int)) && decide ((x.length : Int) ≤ 4)) || (decide (x.cps.toList[0]? = some 48) && !decide (x = "0"))) (et_or (et_not (et_test (ev_chain ev_c (ev_cb (ea_cons (ev_var rfl) ea_nil) (rc_lenStr (by omega))) (fun _ => ev_c) rv_I0 (fun _ => rv_I0)))) fun h => et_and (et_test (by
      have hpos : 0 < x.cps.toList.length := by
        simp only [Bool.not_eq_false', Bool.and_eq_true, decide_eq_true_eq] at h
        omega
      have h0 : x.cps.toList[0]? = some x.cps.toList[0] := List.getElem?_eq_getElem hpos
      refine ev_is (ev_op (ev_op (ev_var rfl) ev_c (rv_ixS (i := 0) (by omega) (at0 h0))) ev_c (rv_eq rfl)) ?_
      rw [str_zero, h0]
      simp)) fun _ => et_test (ev_is (ev_op (ev_var rfl) ev_c (rv_ne rfl)) (by rw [str_dec]))) (fun hb H1 e1 => ?_) (fun hb H1 e1 => ?_)
    · have hn : numS x = none := by
        unfold numS
        refine if_neg fun ⟨⟨a1, a2⟩, a3, a4⟩ => ?_
        rw [decide_eq_true (show (1 : Int) ≤ (x.length : Int) by omega), decide_eq_true (show (x.length : Int) ≤ 4 by omega)] at hb
        simp only [Bool.and_true, Bool.not_true, Bool.false_or, Bool.and_eq_true, decide_eq_true_eq, Bool.not_eq_true', decide_eq_false_iff_not] at hb
        exact a3 hb
      exact k2 hn _ e1
    · obtain ⟨hb1, hb2⟩ : (1 ≤ x.length ∧ x.length ≤ 4) ∧ ¬ (x.cps.toList[0]? = some 48 ∧ x ≠ "0") := by
        simp only [Bool.or_eq_false_iff, Bool.not_eq_false', Bool.and_eq_true, decide_eq_true_eq, Bool.and_eq_false_iff, decide_eq_false_iff_not, Bool.not_eq_false'] at hb
        refine ⟨⟨by omega, by omega⟩, fun ⟨z1, z2⟩ => ?_⟩
        rcases hb.2 with z | z
        · exact z z1
        · exact z2 z
      refine q_forSn (z := x) (ev_var rfl) (fun i σ' H' => ∃ v1, σ' = [some (.str x), v1] ∧ Ex H H' ∧ ∀ j c, j < i → x.cps.toList[j]? = some c → 48 ≤ c ∧ c ≤ 57) (fun H2 e2 => ⟨none, rfl, e1.trans e2, fun j c hj => by omega⟩) ?_ ?_
      · rintro i c σ' H' hi ⟨v1, rfl, e, hd⟩
        refine s_when (et_test (ev_op (ev_var rfl) ev_c rv_notInS)) (fun hc H2 e2 => ?_) (fun hc H2 e2 => ⟨_, rfl, e.trans e2, fun j d hj hd2 => ?_⟩)
        · have hc : ¬ (48 ≤ c ∧ c ≤ 57) := fun z => by
            rw [decide_eq_true (figures.mpr z)] at hc
            cases hc
          have hn : numS x = none := by
            unfold numS
            exact if_neg fun ⟨_, _, a4⟩ => hc (a4 c (List.mem_of_getElem? hi))
          exact k2 hn _ (e.trans e2)
        · have hc : 48 ≤ c ∧ c ≤ 57 := by
            refine figures.mp ?_
            simpa using hc
          by_cases hji : j = i
          · subst hji
            rw [hi] at hd2
            cases hd2
            exact hc
          · exact hd j d (by omega) hd2
      · rintro σ' H' ⟨v1, rfl, e, hd⟩
        have hall : ∀ c ∈ x.cps.toList, 48 ≤ c ∧ c ≤ 57 := fun c hc => by
          obtain ⟨j, hj⟩ := List.getElem?_of_mem hc
          exact hd j c (List.getElem?_eq_some_iff.mp hj).1 hj
        have hn : numS x = some (NumText.digitsVal x.cps.toList) := by
          unfold numS
          exact if_pos ⟨hb1, hb2, hall⟩
        refine s_ret (ev_cb (ea_cons (ev_var rfl) ea_nil) (rc_intStr (intText_digits hall (fun h => by rw [h] at hll; simp at hll; omega) (by omega)) (by omega))) fun H2 e2 => k1 _ hn H2 (e.trans e2)
end
end Fi
/-! _law_alone: which of the four an error is. -/
namespace Fi
open PySem L2 Evl
theorem kit_ref {K : PySem.W.Frag} {D C : Addr} {b : Bool} (i : PySem.W.isClsIn K C = true) (t : PySem.W.typeIn K (.ref C) = some (.type "type")) (s : PySem.W.subIn K (.ref D) (.ref C) = some b) (self : PySem.W.subIn K (.ref D) (.ref D) = some true) : PySem.W.kitOne K (.ref D) (.ref C) = some b := by
  unfold PySem.W.kitOne
  split
  · rename_i h
    have e : D = C := Value.ref.inj (beq_iff_eq.mp h)
    subst e
    rw [self] at s
    exact s
  · unfold PySem.W.kitCls
    have i' : (PySem.W.clsIn K C).isSome = true := i
    simp only [i', t]
    rw [if_pos (by rfl)]
    exact s
theorem kit_ve {K : PySem.W.Frag} {D : Addr} {b : Bool} (s : PySem.W.subIn K (.ref D) (.type "ValueError") = some b) : PySem.W.kitOne K (.ref D) (.type "ValueError") = some b := by
  unfold PySem.W.kitOne
  rw [if_neg (by intro h; cases beq_iff_eq.mp h)]
  unfold PySem.W.kitCls
  simp only
  rw [if_pos (by decide +kernel)]
  exact s
/-- the four classes of refusals, and what is above them -/
structure Cs where
  fire : Addr
  bad : Addr
  no : Addr
  plan : Addr
  text : Addr
/-- the class D is the j-th of the four alone -/
structure Alone (K : PySem.W.Frag) (c : Cs) (D : Addr) (j : Nat) : Prop where
  lt : j < 4
  ex : ExcC K D
  k0 : PySem.W.kitOne K (.ref D) (.ref c.bad) = some (j == 0)
  k1 : PySem.W.kitOne K (.ref D) (.ref c.no) = some (j == 1)
  k2 : PySem.W.kitOne K (.ref D) (.ref c.plan) = some (j == 2)
  k3 : PySem.W.kitOne K (.ref D) (.ref c.text) = some (j == 3)
  kf : PySem.W.kitOne K (.ref D) (.ref c.fire) = some true
  kv : PySem.W.kitOne K (.ref D) (.type "ValueError") = some true
structure Gs (mg : Str → Option Value) (c : Cs) : Prop where
  fire : mg "FireError" = some (.ref c.fire)
  bad : mg "BadTree" = some (.ref c.bad)
  no : mg "NoThing" = some (.ref c.no)
  plan : mg "BadPlan" = some (.ref c.plan)
  text : mg "NoText" = some (.ref c.text)
section
variable {P : Program} {w : World} {K : PySem.W.Frag} {mg : Str → Option Value} {base : Heap}
def spAlone (K : PySem.W.Frag) (c : Cs) : Sp := fun vs H Q _ => ∃ (a D : Addr) (j : Nat), vs = [.ref a] ∧ H a = some (ExV (.ref D) a) ∧ Alone K c D j ∧ RetV (.int (j : Int)) H Q
theorem spv_alone {c : Cs} {H : Hp} {a D : Addr} {j : Nat} (h : H a = some (ExV (.ref D) a)) (A : Alone K c D j) : SpV (spAlone K c) [.ref a] H (.int (j : Int)) := fun H1 e Q q E => ⟨a, D, j, rfl, e _ _ h, A, q⟩
theorem rc_isV {H : Hp} {a D : Addr} {cc : V} {u : Value} {b : Bool} (h : H a = some (ExV (.ref D) a)) (x : ExcC K D) (hu : ClsV cc u) (k : PySem.W.kitOne K (.ref D) u = some b) : RC (rIsV K) [.ref a, cc] H (.bl b) := fun H1 e Q q => ⟨a, D, cc, u, b, rfl, e _ _ h, x, hu, k, q H1 (Ex.refl H1)⟩
theorem has_alone (B : Bi mg) {c : Cs} (G : Gs mg c) (D : At K mg "_law_alone" s__law_alone p__law_alone) : Has P w K mg base CX0 "_law_alone" p__law_alone 1 (spAlone K c) := D.has fun f fd F => by
  refine F.ok sc__law_alone (fun vs H Q E h => ?_) (fun cdv A outer s H vs Q E hr h => ?_)
  · obtain ⟨a, D, j, rfl, _⟩ := h
    rfl
  · obtain ⟨a, D, j, rfl, ha, AL, q⟩ := h
    have g_BadTree := G.bad
    have g_NoThing := G.no
    have g_BadPlan := G.plan
    have g_NoText := G.text
    have g_FireError := G.fire
    have lt := AL.lt
    refine ⟨_, (pss_cons (ps_set (i := 1) sc__law_alone.nd rfl (Or.inl rfl) (pe_lst (pa_cons (pe_callB (call_isV (K := K)) (by rfl) B.isinstance (by decide +kernel) (pa_cons (pv 0) (pa_cons (pe_gcls (by rfl) g_BadTree) pa_nil))) (pa_cons (pe_callB (call_isV (K := K)) (by rfl) B.isinstance (by decide +kernel) (pa_cons (pv 0) (pa_cons (pe_gcls (by rfl) g_NoThing) pa_nil))) (pa_cons (pe_callB (call_isV (K := K)) (by rfl) B.isinstance (by decide +kernel) (pa_cons (pv 0) (pa_cons (pe_gcls (by rfl) g_BadPlan) pa_nil))) (pa_cons (pe_callB (call_isV (K := K)) (by rfl) B.isinstance (by decide +kernel) (pa_cons (pv 0) (pa_cons (pe_gcls (by rfl) g_NoText) pa_nil))) pa_nil))))))
      (pss_cons (ps_if (PW.pt (pw_or (pt_not (pt_val (pe_callB (call_isV (K := K)) (by rfl) B.isinstance (by decide +kernel) (pa_cons (pv 0) (pa_cons (pe_gcls (by rfl) g_FireError) pa_nil))))) (pw_or (pt_not (pt_val (pe_callB (call_isV (K := K)) (by rfl) B.isinstance (by decide +kernel) (pa_cons (pv 0) (pa_cons (pe_bltn (v := .ty "ValueError") (u := .type "ValueError") (by rfl) B.ValueError (by decide +kernel) rfl) pa_nil))))) (pw_or1 (pt_cmpR op_ne (pe_bm PySem.F.plainAttrs_list PySem.F.slot_list_count PySem.F.type_list_count (mt_countB (K := K) hr.units) (pv 1) (pa_cons pe_bl pa_nil)) pe_int (nomark _)))))) (pss_one (ps_ret (pe_un un_neg pe_int))) pss_nil)
      (pss_one (ps_ret (pe_bm PySem.F.plainAttrs_list PySem.F.slot_list_index PySem.F.type_list_index (mt_indexK (K := K)) (pv 1) (pa_cons pe_bl pa_nil)))))), ?_⟩
    refine q_asgL (xs := [j == 0, j == 1, j == 2, j == 3].map V.bl) (el_lst (ea_cons (ev_cb (ea_cons (ev_var rfl) (ea_cons ev_c ea_nil)) (rc_isV ha AL.ex (.own _) AL.k0)) (ea_cons (ev_cb (ea_cons (ev_var rfl) (ea_cons ev_c ea_nil)) (rc_isV ha AL.ex (.own _) AL.k1)) (ea_cons (ev_cb (ea_cons (ev_var rfl) (ea_cons ev_c ea_nil)) (rc_isV ha AL.ex (.own _) AL.k2)) (ea_cons (ev_cb (ea_cons (ev_var rfl) (ea_cons ev_c ea_nil)) (rc_isV ha AL.ex (.own _) AL.k3)) ea_nil)))) (by show 4 ≤ 100000; decide)) fun l H1 nl e1 hl => ?_
    have cnt : ([j == 0, j == 1, j == 2, j == 3].countP id : Nat) = 1 := by
      have : j = 0 ∨ j = 1 ∨ j = 2 ∨ j = 3 := by omega
      rcases this with rfl | rfl | rfl | rfl <;> rfl
    have evc : ∀ H2, Ex H1 H2 → Ev (tBM K "list" (rCntB K) (tVar 1) (tCons (tC (.bl true)) tNil)) [some (.ref a), some (.ref l)] H2 (.int 1) := fun H2 e2 H3 e3 Q' k' => by
      have h3 := e3 _ _ (e2 _ _ hl)
      refine ⟨.ref l, rfl, .inl ⟨rfl, _, sq_of h3⟩, ?_⟩
      refine ⟨l, [j == 0, j == 1, j == 2, j == 3], rfl, rfl, sq_of h3, ?_⟩
      rw [cnt]
      exact k' H3 (Ex.refl H3)
    refine q_when (b := false) (et_or (a := false) (b := false) (et_not (a := true) (et_B (ev_cb (ea_cons (ev_var rfl) (ea_cons ev_c ea_nil)) (rc_isV (e1 _ _ ha) AL.ex (.own _) AL.kf)))) fun _ => et_or (a := false) (b := false) (et_not (a := true) (et_B (ev_cb (ea_cons (ev_var rfl) (ea_cons ev_c ea_nil)) (rc_isV (e1 _ _ ha) AL.ex (.ty _) AL.kv))))
      fun _ => et_test (ev_is (ev_op (evc H1 (Ex.refl H1)) ev_c (rv_ne rfl)) (by rw [decide_eq_true rfl]; rfl))) (fun h => no h) fun _ H2 e2 => ?_
    have h2 := e2 _ _ hl
    refine ⟨.ref l, rfl, .inl ⟨rfl, _, sq_of h2⟩, ?_⟩
    refine ⟨l, [j == 0, j == 1, j == 2, j == 3].map V.bl, .bl true, j, .bl true, rfl, rfl, sq_of h2, rfl, by simp [flatV], ?_, rfl, ?_, q H2 (e1.trans e2)⟩
    · have : j = 0 ∨ j = 1 ∨ j = 2 ∨ j = 3 := by omega
      rcases this with rfl | rfl | rfl | rfl <;> rfl
    · intro m z hm hz
      have : j = 0 ∨ j = 1 ∨ j = 2 ∨ j = 3 := by omega
      rcases this with rfl | rfl | rfl | rfl
      · omega
      · have : m = 0 := by omega
        subst this
        cases hz
        rfl
      · have : m = 0 ∨ m = 1 := by omega
        rcases this with rfl | rfl <;> (cases hz; rfl)
      · have : m = 0 ∨ m = 1 ∨ m = 2 := by omega
        rcases this with rfl | rfl | rfl <;> (cases hz; rfl)
end
end Fi
/-! notes.read, both ways out. -/
namespace Fi
open PySem L2 Evl TL
theorem boolOrF {a b : Bool} (h : (a || b) = false) : a = false ∧ b = false := by
  cases a <;> cases b <;> simp_all
/-! ### what a text writes -/
def rowsT (text : Str) : List (List Str) := (Txt.split text " ").map fun w => Txt.split w ":"
def cellS (rows : List (List Str)) (i j : Nat) : Str := (rows.getD i []).getD j ""
def fE (rows : List (List Str)) (i : Nat) : Option Nat := numS (cellS rows (i + 1) 0)
def fW (rows : List (List Str)) (i : Nat) : Option Nat := numS (cellS rows i 1)
def esR (rows : List (List Str)) : List Nat := valsTo (fE rows) (rows.length - 1)
def wsR (rows : List (List Str)) : List Nat := valsTo (fW rows) rows.length
def Two (rows : List (List Str)) : Prop := ∀ r ∈ rows, r.length = 2
instance (rows : List (List Str)) : Decidable (Two rows) := by unfold Two; exact inferInstance
structure GoodR (rows : List (List Str)) : Prop where
  two : Two rows
  dash : cellS rows 0 0 = "-"
  e : ∀ i, i < rows.length - 1 → (fE rows i).isSome = true
  w : ∀ i, i < rows.length → (fW rows i).isSome = true
  ok : Fm.OkT (esR rows) (wsR rows)
theorem rowsT_ne {text : Str} (h : Asc text) : rowsT text ≠ [] := fun z => (split_ok h sp_ok.1 sp_ok.2.1).1 (List.map_eq_nil_iff.mp z)
theorem rowsT_cell {text : Str} (h : Asc text) {r : List Str} (hr : r ∈ rowsT text) : r ≠ [] ∧ ∀ x ∈ r, Asc x ∧ x.length ≤ text.length + 2 := by
  obtain ⟨w, hw, rfl⟩ := List.mem_map.mp hr
  obtain ⟨_, ok⟩ := split_ok h sp_ok.1 sp_ok.2.1
  have wl := mem_len ok hw
  obtain ⟨ne, ok2⟩ := split_ok (ok.asc w hw) sp_ok.2.2.1 sp_ok.2.2.2
  exact ⟨ne, fun x hx => ⟨ok2.asc x hx, by have := mem_len ok2 hx; omega⟩⟩
theorem okT_of {es ws : List Nat} (h : Right (es.map fun (n : Nat) => (n : Int)) (ws.map fun (n : Nat) => (n : Int))) : Fm.OkT es ws := by
  obtain ⟨h1, h2, h3, h4, h5⟩ := h
  rw [List.length_map] at h1 h2
  rw [List.length_map, List.length_map] at h3
  refine ⟨h3, h2, fun k v hv => ?_, fun v hv => ?_⟩
  · have hk := (List.getElem?_eq_some_iff.mp hv).1
    have := (h4 k (by rw [List.length_map]; exact hk)).2
    rw [List.getD_eq_getElem?_getD, List.getElem?_map, hv] at this
    have z : ((v : Nat) : Int) ≤ (k : Int) := this
    omega
  · have := (h5 _ (List.mem_map.mpr ⟨v, hv, rfl⟩)).2
    omega
/-! ### rows as data -/
theorem dpAll_strs {K : PySem.W.Frag} {H : Hp} : ∀ l : List Str, DpAll K H (l.map V.str) (l.map PyData.str)
  | [] => .nil
  | x :: l => .cons (.str x) (dpAll_strs l)
theorem dpAll_by {K : PySem.W.Frag} {H : Hp} {α : Type} (v : α → V) (d : α → PyData) : ∀ l : List α, (∀ i ∈ l, Dp K H (v i) (d i)) → DpAll K H (l.map v) (l.map d)
  | [], _ => .nil
  | x :: l, h => .cons (h x List.mem_cons_self) (dpAll_by v d l fun i hi => h i (List.mem_cons_of_mem _ hi))
theorem canStrs : ∀ l : List Str, (∀ x ∈ l, Asc x) → PyData.canLayAll0 (l.map PyData.str) = true
  | [], _ => by simp [PyData.canLayAll0]
  | x :: l, h => by
    rw [List.map_cons, PyData.canLayAll0, PyData.canLay0, (h x List.mem_cons_self).ok, canStrs l fun y hy => h y (List.mem_cons_of_mem _ hy)]
    rfl
theorem depthStrs : ∀ l : List Str, PyData.depthAll (l.map PyData.str) = 0
  | [] => by simp [PyData.depthAll]
  | x :: l => by rw [List.map_cons, PyData.depthAll, PyData.depth, depthStrs l]; rfl
theorem shapedRows {α : Type} (r : α → List Str) : ∀ l : List α, (∀ i ∈ l, ∀ x ∈ r i, Asc x) → PyData.canLayAll0 (l.map fun i => PyData.list ((r i).map PyData.str)) = true ∧ PyData.depthAll (l.map fun i => PyData.list ((r i).map PyData.str)) ≤ 1
  | [], _ => ⟨by simp [PyData.canLayAll0], by simp [PyData.depthAll]⟩
  | i :: l, h => by
    obtain ⟨h1, h2⟩ := shapedRows r l fun j hj => h j (List.mem_cons_of_mem _ hj)
    refine ⟨?_, ?_⟩
    · rw [List.map_cons, PyData.canLayAll0, h1, PyData.canLay0, canStrs _ (h i List.mem_cons_self)]
      rfl
    · rw [List.map_cons, PyData.depthAll, PyData.depth, depthStrs]
      exact Nat.max_le.mpr ⟨Nat.le_refl _, h2⟩
theorem eqv_nil : ∀ l : List PyData, PyData.eqv (.list l) (.list []) = decide (l = [])
  | [] => by simp [PyData.eqv, PyData.eqvAll]
  | _ :: _ => by simp [PyData.eqv, PyData.eqvAll]
theorem shaped_nil : SeqAt.shaped (.list []) = true := by decide +kernel
section
variable {K : PySem.W.Frag} {σ : L2.St} {H : Hp} {te tl : TE}
/-- [row for row in rows if len(row) != 2] != [] -/
theorem ev_notTwo {lr : Addr} {rs : List Addr} {rows : List (List Str)} {j : Nat} {vs : List Nat} {t : TT} (h : Ev tl σ H (.ref lr)) (hx : H lr = some (.lst (rs.map V.ref))) (R : RowsS H rs rows) (hz : rs.length ≤ 40000) (hasc : ∀ r ∈ rows, ∀ x ∈ r, Asc x) (hw : ∀ x, wipe ((wipe σ vs).set j (some x)) vs = wipe σ vs)
    (ht : ∀ (a : Addr) (r : List Str) H1, Ex H H1 → H1 a = some (.lst (r.map V.str)) → EvT t ((wipe σ vs).set j (some (.ref a))) H1 (!decide (r.length = 2))) (he : ∀ (a : Addr) H1, Ev te ((wipe σ vs).set j (some (.ref a))) H1 (.ref a)) :
    Ev (tOp (rNeD K) (tLc (iList K tl) (gName j) t te vs) (tLst tNil)) σ H (.bl (!decide (Two rows))) := by
  have hlen := R.len
  have at_ : ∀ {i : Nat} {x : V}, (rs.map V.ref)[i]? = some x → ∃ a r, x = .ref a ∧ rs.getD i 0 = a ∧ rows.getD i [] = r ∧ H a = some (.lst (r.map V.str)) := fun {i x} hi => by
    rw [List.getElem?_map] at hi
    cases ha : rs[i]? with
    | none => rw [ha] at hi; cases hi
    | some a =>
      rw [ha] at hi
      cases hi
      obtain ⟨r, hr, hr2⟩ := R.get ha
      exact ⟨a, r, rfl, by rw [List.getD_eq_getElem?_getD, ha]; rfl, by rw [List.getD_eq_getElem?_getD, hr]; rfl, hr2⟩
  have comp := el_lcL (K := K) (t := t) (te := te) (a := lr) (xs := rs.map V.ref) (tl := tl) (σ := σ) (j := j) (vs := vs) (fun i => !decide ((rows.getD i []).length = 2)) (fun i => .ref (rs.getD i 0)) h (sq_of hx) (by rw [List.length_map]; exact hz) hw
    (fun i x H1 e hi => by
      obtain ⟨a, r, rfl, _, h2, h3⟩ := at_ hi
      rw [h2]
      exact ht a r H1 e (e _ _ h3))
    (fun i x H1 e hi _ => by
      obtain ⟨a, r, rfl, h1, _, _⟩ := at_ hi
      rw [h1]
      exact he a H1)
  refine ev_is (ev_opLL comp (el_lst ea_nil (Nat.zero_le _)) fun p q H1 hp hq e => rv_neD (d := .list (((List.range (rs.map V.ref).length).filter fun i => !decide ((rows.getD i []).length = 2)).map fun i => PyData.list ((rows.getD i []).map PyData.str))) (e := .list []) (fun H2 e2 => ?_) (fun H2 e2 => .lst (sq_of (xs := []) (e2 _ _ hq)) .nil) ?_ shaped_nil) ?_
  · refine .lst (sq_of (e2 _ _ hp)) (dpAll_by _ _ _ fun i hi => ?_)
    have hi := List.mem_range.mp (List.mem_filter.mp hi).1
    obtain ⟨a, r, hx', h1, h2, h3⟩ := at_ (List.getElem?_eq_getElem hi)
    rw [h1, h2]
    exact .lst (sq_of (e2 _ _ (e _ _ h3))) (dpAll_strs r)
  · have hs := shapedRows (fun i => rows.getD i []) ((List.range (rs.map V.ref).length).filter fun i => !decide ((rows.getD i []).length = 2)) fun i hi x hx' => by
      have hi := List.mem_range.mp (List.mem_filter.mp hi).1
      rw [List.length_map, hlen] at hi
      have : rows.getD i [] ∈ rows := by
        rw [List.getD_eq_getElem?_getD, List.getElem?_eq_getElem hi]
        exact List.getElem_mem hi
      exact hasc _ this x hx'
    unfold SeqAt.shaped
    rw [PyData.canLay0, PyData.depth, hs.1, Bool.true_and]
    exact decide_eq_true (by have := hs.2; omega)
  · rw [eqv_nil]
    congr 2
    refine decide_eq_decide.mpr ⟨fun hn r hr => ?_, fun h2 => ?_⟩
    · obtain ⟨i, hi⟩ := List.getElem?_of_mem hr
      have hl := (List.getElem?_eq_some_iff.mp hi).1
      have e1 : rows.getD i [] = r := by rw [List.getD_eq_getElem?_getD, hi]; rfl
      have := List.map_eq_nil_iff.mp hn
      rw [List.filter_eq_nil_iff] at this
      have := this i (List.mem_range.mpr (by rw [List.length_map, hlen]; exact hl))
      rw [e1] at this
      simpa using this
    · refine List.map_eq_nil_iff.mpr (List.filter_eq_nil_iff.mpr fun i hi => ?_)
      have hi := List.mem_range.mp hi
      rw [List.length_map, hlen] at hi
      have : rows.getD i [] ∈ rows := by
        rw [List.getD_eq_getElem?_getD, List.getElem?_eq_getElem hi]
        exact List.getElem_mem hi
      rw [h2 _ this]
      decide
end
theorem s_retMake {C : Addr} {sp : Sp} {Ex' : L2.St → XK} {t : TA} {vs : List V} {σ : L2.St} {H : Hp} {D : Ends} (hA : EvA t σ H vs) (k : ∀ H1, Ex H H1 → ∀ x dx, H1 x = none → H1 dx = none → dx ≠ x → sp (.ref x :: vs) (upd (upd H1 dx (.own x)) x (.ins C dx [])) (fun v H2 => v = .non ∧ D.rt (.ref x) H2) (Ex' σ)) : tRet (tMakeE C sp Ex' t) D σ H :=
  hA H (Ex.refl H) _ fun H1 e1 x dx a b c => k H1 e1 x dx a b c
section
variable {P : Program} {w : World} {K : PySem.W.Frag} {mg : Str → Option Value} {base : Heap} {C cText cBad : Addr}
def spRead (C cText : Addr) : Sp := fun vs H Q E => ∃ (text : Str), vs = [.str text] ∧ Asc text ∧ text.length ≤ 20000 ∧ (GoodR (rowsT text) → RetP (fun v H2 => TreeNew C H H2 v (esR (rowsT text)) (wsR (rowsT text))) H Q) ∧ (¬ GoodR (rowsT text) → ∀ H2, Ex H H2 → E (.ref cText) none H2)
theorem tnBack {es ws : List Nat} {H0 H1 H2 : Hp} {v : V} (e : Ex H0 H1) (h : TreeNew C H1 H2 v es ws) : TreeNew C H0 H2 v es ws := by
  obtain ⟨x, dx, a, u, ev, n1, n2, n3, d⟩ := h
  exact ⟨x, dx, a, u, ev, fresh_back e n1, fresh_back e n2, fresh_back e n3, d⟩
theorem has_read (B : Bi mg) (T : TreeT K mg C) (hnumber_of : Has P w K mg base (L2.CX P w) "number_of" p_number_of 1 (spNum cText)) (hI_Tree : HasI P w K mg base (L2N.CX P w) C p_Tree___init__ 1 (spInit K C cBad)) (e_NoText : Err K mg "NoText" cText) (g_BadTree : mg "BadTree" = some (.ref cBad)) (xB : PySem.W.exmOne K (.ref cBad) (.ref cBad) = some true)
    (D : At K mg "read" s_read p_read) : Has P w K mg base (L2.CX P w) "read" p_read 3 (spRead C cText) := D.has fun f fd F => by
  refine F.okX sc_read (fun vs H Q E h => ?_) (fun cdv A outer s H vs Q E hr h => ?_)
  · obtain ⟨text, rfl, _⟩ := h
    rfl
  · obtain ⟨text, rfl, hasc, hlen, kQ, kE⟩ := h
    obtain ⟨wne, wok⟩ := split_ok hasc sp_ok.1 sp_ok.2.1
    refine ⟨_, (pss_cons (ps_setLc (i := 1) (own := [("word", 4)]) (g := gName 4) rfl sc_read.nd rfl rfl (sw_true rfl rfl rfl (by decide +kernel)) (pi_list (pe_split (pv 0) pe_str)) (blkOk_by (own := [("word", 4)]) (N := n_read) (sc := defScope s_read) (by decide +kernel)) (fun _ _ _ _ _ => pg_name (i := 4) sc_read.nd rfl (Or.inl rfl)) (fun _ _ _ _ _ => pts_nil) (fun _ _ _ _ _ => (pe_split (pv 4) pe_str)))
      (pss_cons (ps_if (PW.pt (pw_or (pt_cmpR (op_neDK (K := K) hr.units) (pe_lc (own := [("row", 5)]) (g := gName 5) rfl sc_read.nd (pi_list (pv 1)) (blkOk_by (own := [("row", 5)]) (N := n_read) (sc := defScope s_read) (by decide +kernel)) (fun _ _ _ _ _ => pg_name (i := 5) sc_read.nd rfl (Or.inl rfl)) (fun _ _ _ _ _ => pts_one (pt_cmpR op_ne (pe_callB (call_lenK (K := K)) (by rfl) B.len PySem.boot_len (pa_cons (pv 5) pa_nil)) pe_int (nomark _))) (fun _ _ _ _ _ => (pv 5))) (pe_lst pa_nil) (nomark _)) (pw_or1 (pt_cmpR op_ne (pe_ix (ix_listK (K := K)) (pe_ix (ix_listK (K := K)) (pv 1) pe_int (fun _ _ => rfl)) pe_int (fun _ _ => rfl)) pe_str (nomark _))))) (pss_one (ps_raise rfl (takes_of rfl rfl rfl rfl) (e_NoText.made (by rfl)))) pss_nil)
      (pss_cons (ps_setLcX (i := 2) (own := [("row", 5)]) (g := gName 5) rfl rfl (takes_of rfl rfl rfl rfl) (fun _ _ _ _ h => h) rfl sc_read.nd rfl rfl (sw_true rfl rfl rfl (by decide +kernel)) (pi_list (pe_slice (sl_listK (K := K)) (pv 1) (po_some pe_int) po_none)) (blkOk_by (own := [("row", 5)]) (N := n_read) (sc := defScope s_read) (by decide +kernel)) (fun _ _ _ _ _ => pg_name (i := 5) sc_read.nd rfl (Or.inl rfl)) (fun _ _ _ _ _ _ pB => (hnumber_of.call (hr.mono (by decide)) (by rfl) pB (pa_cons (pe_ix (ix_listK (K := K)) (pv 5) pe_int (fun _ _ => rfl)) pa_nil))))
      (pss_cons (ps_setLcX (i := 3) (own := [("row", 5)]) (g := gName 5) rfl rfl (takes_of rfl rfl rfl rfl) (fun _ _ _ _ h => h) rfl sc_read.nd rfl rfl (sw_true rfl rfl rfl (by decide +kernel)) (pi_list (pv 1)) (blkOk_by (own := [("row", 5)]) (N := n_read) (sc := defScope s_read) (by decide +kernel)) (fun _ _ _ _ _ => pg_name (i := 5) sc_read.nd rfl (Or.inl rfl)) (fun _ _ _ _ _ _ pB => (hnumber_of.call (hr.mono (by decide)) (by rfl) pB (pa_cons (pe_ix (ix_listK (K := K)) (pv 5) pe_int (fun _ _ => rfl)) pa_nil))))
      (pss_one (L2H.ps_try_onlyX rfl rfl ⟨rfl, by decide, Or.inl g_BadTree⟩ (fun hd => L2H.passesAt_of rfl hd) (takes_of rfl rfl rfl rfl) (fun W pn xe tkN tkP hown => (pss_one (ps_ret (hI_Tree.makeS (hr.mono (by decide)) (by rfl) T.g (fun σ => L2N.passAt tkN σ) (pa_cons (pv 2) (pa_cons (pv 3) pa_nil)))))) (fun a oe cls d pn hz hf tkS hot => (pss_one (L2H.ps_raiseH hot tkS (e_NoText.madeN (by rfl))))))))))), ?_⟩
    refine q_asgP (ep_lcRows (fun x => Txt.split x ":") (el_split (ev_var rfl) ev_c (by decide +kernel) (by omega)) (by have := wok.len; omega) (fun x => rfl) fun x H1 e1 hx => el_split (ev_var rfl) ev_c (by decide +kernel) (by have := mem_len wok hx; omega)) fun v H1 e1 ⟨lr, rs, ev, hlr, hR⟩ => ?_
    subst ev
    have hR : RowsS H1 rs (rowsT text) := hR
    have rlen : (rowsT text).length ≤ 20001 := by
      unfold rowsT
      rw [List.length_map]
      have := wok.len
      omega
    have rne := rowsT_ne hasc
    have rcell := fun {r} => rowsT_cell (r := r) hasc
    generalize rowsT text = rows at *
    have hl := hR.len
    have hpos : 0 < rows.length := List.length_pos_iff.mpr rne
    have row : ∀ {i : Nat} {a : Addr}, rs[i]? = some a → ∃ r, rows[i]? = some r ∧ H1 a = some (.lst (r.map V.str)) := fun ha => hR.get ha
    have cell : ∀ {i : Nat} {a : Addr} (j : Nat), j < 2 → Two rows → rs[i]? = some a → ∃ xs, H1 a = some (.lst xs) ∧ xs[j]? = some (V.str (cellS rows i j)) ∧ (cellS rows i j).length ≤ 99999 := fun {i a} j hj two ha => by
      obtain ⟨r, hr, hr2⟩ := row ha
      have hm := List.mem_of_getElem? hr
      have h2 := two r hm
      have e1 : cellS rows i j = r.getD j "" := by unfold cellS; rw [List.getD_eq_getElem?_getD (l := rows), hr]; rfl
      have hx : r[j]? = some (r.getD j "") := by rw [List.getD_eq_getElem?_getD, List.getElem?_eq_getElem (by omega)]; rfl
      refine ⟨_, hr2, by rw [List.getElem?_map, hx, e1]; rfl, ?_⟩
      rw [e1]
      have := (((rcell hm).2 _ (List.mem_of_getElem? hx))).2
      omega
    have h0 : rs[0]? = some rs[0] := List.getElem?_eq_getElem (by omega)
    -- the test
    refine q_when (b := !decide (Two rows) || !decide (cellS rows 0 0 = "-")) (et_or (et_test (ev_notTwo (ev_var rfl) hlr hR (by omega) (fun r hr x hx => ((rcell hr).2 x hx).1) (fun x => rfl) (fun a r H2 e2 ha => et_test (ev_is (ev_op (ev_is (ev_lenS (ev_var rfl) (sq_of ha)) (by rw [List.length_map])) ev_c (rv_ne rfl)) (by rw [show (V.int 2) = V.int ((2 : Nat) : Int) from rfl, dec_int]))) fun a H2 => ev_var rfl))
      fun h => et_test (by
        have two : Two rows := by
          cases hd : decide (Two rows) with
          | true => exact of_decide_eq_true hd
          | false => rw [hd] at h; cases h
        obtain ⟨xs, q1, q2, _⟩ := cell 0 (by decide) two h0
        exact ev_is (ev_op (ev_opIx (ev_opIx (v := .ref rs[0]) (ev_var rfl) ev_c (sq_of hlr) (at_of (j := 0) rfl (by rw [List.getElem?_map, h0]; rfl))) ev_c (sq_of q1) (at_of (j := 0) rfl q2)) ev_c (rv_ne rfl)) (by rw [str_dec]))) (fun hb H2 e2 => ?_) (fun hb H2 e2 => ?_)
    · refine kE (fun g => ?_) H2 (e1.trans e2)
      rw [decide_eq_true g.two, decide_eq_true g.dash] at hb
      cases hb
    · obtain ⟨hb1, hb2⟩ := boolOrF hb
      have two : Two rows := by
        cases hd : decide (Two rows) with
        | true => exact of_decide_eq_true hd
        | false => rw [hd] at hb1; cases hb1
      have dash : cellS rows 0 0 = "-" := by
        cases hd : decide (cellS rows 0 0 = "-") with
        | true => exact of_decide_eq_true hd
        | false => rw [hd] at hb2; cases hb2
      have e12 := e1.trans e2
      have hlr2 := e2 _ _ hlr
      -- elders
      refine q_lcXN (xs := (rs.drop 1).map V.ref) (fE rows) (el_is (el_sl (ev_var rfl) (eo_some ev_c) eo_none (sq_of hlr2)) (by rw [cut1, ← List.map_drop])) (by rw [List.length_map, List.length_drop]; omega) (fun x => rfl) (fun i x H3 e3 hi => ?_) (fun all le H3 nle e3 hle => ?_)
      · rw [List.getElem?_map, List.getElem?_drop] at hi
        cases ha : rs[1 + i]? with
        | none => rw [ha] at hi; cases hi
        | some a =>
          rw [ha] at hi
          cases hi
          rw [Nat.add_comm] at ha
          obtain ⟨xs, q1, q2, q3⟩ := cell 0 (by decide) two ha
          have hil := (List.getElem?_eq_some_iff.mp ha).1
          have arg : EvA (tCons (tOp (rIxL K) (tVar 5) (tC (.int 0))) tNil) ((wipe [some (.str text), some (.ref lr), none, none, none, none] [5]).set 5 (some (.ref a))) H3 [.str (cellS rows (i + 1) 0)] := ea_cons (ev_opIx (ev_var rfl) ev_c (sq_of (e3 _ _ (e2 _ _ q1))) (at_of (j := 0) rfl q2)) ea_nil
          refine ⟨fun n hn => ev_call0 arg (spv_num hn q3), fun hn Q' => arg H3 (Ex.refl _) _ fun H4 e4 => by
            rw [List.append_nil]
            exact ⟨_, rfl, q3, fun n h => (by rw [show numS _ = none from hn] at h; cases h), fun _ H5 e5 => kE (fun g => by
              have := g.e i (by omega)
              rw [hn] at this
              cases this) H5 (((e12.trans e3).trans e4).trans e5)⟩⟩
      · rw [List.length_map, List.length_drop, hl] at all hle
        have hlr3 := e3 _ _ hlr2
        refine q_lcX (xs := rs.map V.ref) (fW rows) (ev_var rfl) (sq_of hlr3) (by rw [List.length_map]; omega) (fun x => rfl) (fun i x H4 e4 hi => ?_) (fun all2 lw H4 nlw e4 hlw => ?_)
        · rw [List.getElem?_map] at hi
          cases ha : rs[i]? with
          | none => rw [ha] at hi; cases hi
          | some a =>
            rw [ha] at hi
            cases hi
            obtain ⟨xs, q1, q2, q3⟩ := cell 1 (by decide) two ha
            have hil := (List.getElem?_eq_some_iff.mp ha).1
            have arg : EvA (tCons (tOp (rIxL K) (tVar 5) (tC (.int 1))) tNil) ((wipe [some (.str text), some (.ref lr), some (.ref le), none, none, none] [5]).set 5 (some (.ref a))) H4 [.str (cellS rows i 1)] := ea_cons (ev_opIx (ev_var rfl) ev_c (sq_of (e4 _ _ (e3 _ _ (e2 _ _ q1)))) (at_of (j := 1) rfl q2)) ea_nil
            refine ⟨fun n hn => ev_call0 arg (spv_num hn q3), fun hn Q' => arg H4 (Ex.refl _) _ fun H5 e5 => by
              rw [List.append_nil]
              exact ⟨_, rfl, q3, fun n h => (by rw [show numS _ = none from hn] at h; cases h), fun _ H6 e6 => kE (fun g => by
                have := g.w i (by omega)
                rw [hn] at this
                cases this) H6 ((((e12.trans e3).trans e4).trans e5).trans e6)⟩⟩
        · rw [List.length_map, hl] at all2 hlw
          have E4 := (e12.trans e3).trans e4
          have hle4 : H4 le = some (.lst (vi (esR rows))) := e4 _ _ hle
          have hlw4 : H4 lw = some (.lst (vi (wsR rows))) := hlw
          by_cases ok : Fm.OkT (esR rows) (wsR rows)
          · have q := kQ ⟨two, dash, all, all2, ok⟩
            refine s_retMake (vs := [.ref le, .ref lw]) (ea_cons (ev_var rfl) (ea_cons (ev_var rfl) ea_nil)) fun H5 e5 x dx hx hdx ne => ?_
            exact spp_tree (sq_of (e5 _ _ hle4)) (sq_of (e5 _ _ hlw4)) ok H5 (Ex.refl _) x dx hx hdx ne _ (fun H6 e6 t => q _ H6 ((E4.trans e5).trans e6) (tnBack (E4.trans e5) t)) _
          · have nR : ¬ Right ((esR rows).map fun (n : Nat) => (n : Int)) ((wsR rows).map fun (n : Nat) => (n : Int)) := fun z => ok (okT_of z)
            refine s_retMake (vs := [.ref le, .ref lw]) (ea_cons (ev_var rfl) (ea_cons (ev_var rfl) ea_nil)) fun H5 e5 x dx hx hdx ne => ?_
            have hle5 := e5 _ _ hle4
            have hlw5 := e5 _ _ hlw4
            have n1 : le ≠ x := ne_of_none hle5 hx
            have n2 : le ≠ dx := ne_of_none hle5 hdx
            have n3 : lw ≠ x := ne_of_none hlw5 hx
            have n4 : lw ≠ dx := ne_of_none hlw5 hdx
            refine ⟨x, dx, le, lw, (esR rows).map fun (n : Nat) => (n : Int), (wsR rows).map fun (n : Nat) => (n : Int), rfl, upd_same, sq_of (by rw [upd_ne n1, upd_ne n2, ← vi_ints]; exact hle5), sq_of (by rw [upd_ne n3, upd_ne n4, ← vi_ints]; exact hlw5), ?_, ?_, fun z => absurd z nR, fun _ H6 e6 => ?_⟩
            · rw [List.length_map, esR, valsTo_len]; omega
            · rw [List.length_map, wsR, valsTo_len]; omega
            · refine ⟨true, xB, fun _ a ha => ?_, fun z => (by cases z)⟩
              refine kE (fun g => ok g.ok) H6 fun b o hb => ?_
              have hb5 := (E4.trans e5) _ _ hb
              refine e6 _ _ ?_
              rw [upd_ne (ne_of_none hb5 hx), upd_ne (ne_of_none hb5 hdx)]
              exact hb5
end
end Fi
/-! _law_number, _law_told. -/
namespace Fi
open PySem L2 Evl TL
def nV : Option Nat → V
  | none => .non
  | some n => .int (n : Int)
section
variable {P : Program} {w : World} {K : PySem.W.Frag} {mg : Str → Option Value} {base : Heap} {C cText cFire : Addr}
def spLNum : Sp := fun vs H Q _ => ∃ (x : Str), vs = [.str x] ∧ x.length ≤ 99999 ∧ RetV (nV (numS x)) H Q
theorem spv_lnum {H : Hp} {x : Str} (hl : x.length ≤ 99999) : SpV spLNum [.str x] H (nV (numS x)) := fun H1 e Q q E => ⟨x, rfl, hl, q⟩
theorem str_empty {x : Str} : x = "" ↔ x.length = 0 := by
  constructor
  · intro h
    subst h
    rfl
  · intro h
    refine ext_tl ?_
    rw [len_tl] at h
    rw [List.length_eq_zero_iff.mp h]
    rfl
theorem has_lnum (B : Bi mg) (D : At K mg "_law_number" s__law_number p__law_number) : Has P w K mg base CX0 "_law_number" p__law_number 1 spLNum := D.has fun f fd F => by
  refine F.ok sc__law_number (fun vs H Q E h => ?_) (fun cdv A outer s H vs Q E hr h => ?_)
  · obtain ⟨x, rfl, _⟩ := h
    rfl
  · obtain ⟨x, rfl, hl, q⟩ := h
    have hll := len_list x
    refine ⟨_, (pss_cons (ps_if (PW.pt (pw_or (pt_cmpR op_eq (pv 0) pe_str (nomark _)) (pw_or (pt_cmpR op_gt (pe_callB call_len_str (by rfl) B.len PySem.boot_len (pa_cons (pv 0) pa_nil)) pe_int (nomark _)) (pw_or1 (PW.pt (pw_and (pt_cmpR op_eq (pe_ix ix_str (pv 0) pe_int (fun _ _ => rfl)) pe_str (nomark _)) (pw_and1 (pt_cmpR op_ne (pv 0) pe_str (nomark _))))))))) (pss_one (ps_ret pe_non)) pss_nil)
      (pss_cons (ps_for PassesOwn.never rfl (pi_str (pv 0)) (pg_name (i := 1) sc__law_number.nd rfl (Or.inl rfl)) (pss_one (ps_if (pt_cmpR op_notIn_sign (pv 1) pe_str (by with_unfolding_all rfl)) (pss_one (ps_ret pe_non)) pss_nil)))
      (pss_one (ps_ret (pe_callTy call_int_str (by rfl) B.int (by decide +kernel) (pa_cons (pv 0) pa_nil)))))), ?_⟩
    refine q_when (b := decide (x = "") || (decide ((4 : Int) < (x.length : Int)) || (decide (x.cps.toList[0]? = some 48) && !decide (x = "0")))) (et_or (et_test (ev_is (ev_op (ev_var rfl) ev_c (rv_eq rfl)) (by rw [str_dec]))) fun h => et_or (et_test (ev_op (ev_cb (ea_cons (ev_var rfl) ea_nil) (rc_lenStr (by omega))) ev_c rv_I0)) fun h2 => et_and (et_test (by
      have hx : x ≠ "" := of_decide_eq_false h
      have hpos : 0 < x.cps.toList.length := by
        have : ¬ x.length = 0 := fun z => hx (str_empty.mpr z)
        omega
      have h0 : x.cps.toList[0]? = some x.cps.toList[0] := List.getElem?_eq_getElem hpos
      refine ev_is (ev_op (ev_op (ev_var rfl) ev_c (rv_ixS (i := 0) (by omega) (at0 h0))) ev_c (rv_eq rfl)) ?_
      rw [str_zero, h0]
      simp)) fun _ => et_test (ev_is (ev_op (ev_var rfl) ev_c (rv_ne rfl)) (by rw [str_dec]))) (fun hb H1 e1 => ?_) (fun hb H1 e1 => ?_)
    · have hn : numS x = none := by
        unfold numS
        refine if_neg fun ⟨⟨a1, a2⟩, a3, a4⟩ => ?_
        rw [decide_eq_false (show ¬ x = "" from fun z => by rw [str_empty] at z; omega), decide_eq_false (show ¬ (4 : Int) < (x.length : Int) by omega)] at hb
        simp only [Bool.false_or, Bool.and_eq_true, decide_eq_true_eq, Bool.not_eq_true', decide_eq_false_iff_not] at hb
        exact a3 hb
      rw [hn] at q
      exact s_ret ev_c fun H2 e2 => q H2 (e1.trans e2)
    · obtain ⟨hb1, hb2⟩ : (1 ≤ x.length ∧ x.length ≤ 4) ∧ ¬ (x.cps.toList[0]? = some 48 ∧ x ≠ "0") := by
        obtain ⟨c1, c2⟩ := boolOrF hb
        obtain ⟨c2, c3⟩ := boolOrF c2
        have c1 := of_decide_eq_false c1
        have c2 := of_decide_eq_false c2
        have : ¬ x.length = 0 := fun z => c1 (str_empty.mpr z)
        refine ⟨⟨by omega, by omega⟩, fun ⟨z1, z2⟩ => ?_⟩
        rw [decide_eq_true z1, decide_eq_false z2] at c3
        cases c3
      refine q_forSn (z := x) (ev_var rfl) (fun i σ' H' => ∃ v1, σ' = [some (.str x), v1] ∧ Ex H H' ∧ ∀ j c, j < i → x.cps.toList[j]? = some c → 48 ≤ c ∧ c ≤ 57) (fun H2 e2 => ⟨none, rfl, e1.trans e2, fun j c hj => by omega⟩) ?_ ?_
      · rintro i c σ' H' hi ⟨v1, rfl, e, hd⟩
        refine s_when (et_test (ev_op (ev_var rfl) ev_c rv_notInS)) (fun hc H2 e2 => ?_) (fun hc H2 e2 => ⟨_, rfl, e.trans e2, fun j d hj hd2 => ?_⟩)
        · have hc : ¬ (48 ≤ c ∧ c ≤ 57) := fun z => by
            rw [decide_eq_true (figures.mpr z)] at hc
            cases hc
          have hn : numS x = none := by
            unfold numS
            exact if_neg fun ⟨_, _, a4⟩ => hc (a4 c (List.mem_of_getElem? hi))
          rw [hn] at q
          exact s_ret ev_c fun H3 e3 => q H3 ((e.trans e2).trans e3)
        · have hc : 48 ≤ c ∧ c ≤ 57 := by
            refine figures.mp ?_
            simpa using hc
          by_cases hji : j = i
          · subst hji
            rw [hi] at hd2
            cases hd2
            exact hc
          · exact hd j d (by omega) hd2
      · rintro σ' H' ⟨v1, rfl, e, hd⟩
        have hall : ∀ c ∈ x.cps.toList, 48 ≤ c ∧ c ≤ 57 := fun c hc => by
          obtain ⟨j, hj⟩ := List.getElem?_of_mem hc
          exact hd j c (List.getElem?_eq_some_iff.mp hj).1 hj
        have hn : numS x = some (NumText.digitsVal x.cps.toList) := by
          unfold numS
          exact if_pos ⟨hb1, hb2, hall⟩
        rw [hn] at q
        refine s_ret (ev_cb (ea_cons (ev_var rfl) ea_nil) (rc_intStr (intText_digits hall (fun h => by rw [h] at hll; simp at hll; omega) (by omega)) (by omega))) fun H2 e2 => q H2 (e.trans e2)
/-! ### _law_told -/
def spTold (C cText : Addr) : Sp := fun vs H Q _ => ∃ (text : Str), vs = [.str text] ∧ Asc text ∧ text.length ≤ 20000 ∧ (GoodR (rowsT text) → RetP (fun v H2 => TreeNew C H H2 v (esR (rowsT text)) (wsR (rowsT text))) H Q) ∧ (¬ GoodR (rowsT text) → RetP (fun v H2 => ∃ a, v = .ref a ∧ H2 a = some (ExV (.ref cText) a)) H Q)
theorem has_told (g_FireError : mg "FireError" = some (.ref cFire)) (xT : PySem.W.exmOne K (.ref cText) (.ref cFire) = some true) (hread : Has P w K mg base (L2.CX P w) "read" p_read 3 (spRead C cText)) (D : At K mg "_law_told" s__law_told p__law_told) : Has P w K mg base CX0 "_law_told" p__law_told 4 (spTold C cText) := D.has fun f fd F => by
  refine F.ok sc__law_told (fun vs H Q E h => ?_) (fun cdv A outer s H vs Q E hr h => ?_)
  · obtain ⟨text, rfl, _⟩ := h
    rfl
  · obtain ⟨text, rfl, hasc, hlen, k1, k2⟩ := h
    refine ⟨_, (pss_cons (ps_set (i := 1) sc__law_told.nd rfl (Or.inl rfl) pe_non)
      (pss_cons (ps_try_asV (i := 2) rfl rfl rfl sc__law_told.nd rfl rfl ⟨rfl, by decide, Or.inl g_FireError⟩ (fun W pn xe tk _ => (pss_one (ps_set (i := 1) sc__law_told.nd rfl (Or.inl rfl) (hread.callS (hr.mono (by decide)) (by rfl) (fun σ => passAt tk σ) (pa_cons (pv 0) pa_nil))))) (fun a oe cls pn hz hf => (pss_one (ps_set (i := 1) sc__law_told.nd rfl (Or.inl rfl) (pv 2)))))
      (pss_one (ps_ret (pv 1))))), ?_⟩
    refine q_asg ev_c fun H1 e1 => ?_
    refine ⟨.str text, rfl, text, rfl, hasc, hlen, fun g v H3 e3 t => ?_, fun ng H3 e3 => ⟨rfl, xT, fun a na => ⟨_, rfl, ?_⟩⟩⟩
    · exact s_ret (ev_var rfl) fun H4 e4 => k1 g v H4 ((e1.trans e3).trans e4) (by
        obtain ⟨x, dx, b, u, ev, n1, n2, n3, d1, d2, d3⟩ := tnBack e1 t
        exact ⟨x, dx, b, u, ev, n1, n2, n3, e4 _ _ d1, e4 _ _ d2, e4 _ _ d3⟩)
    · exact s_ret (ev_var rfl) fun H4 e4 => k2 ng _ H4 (((e1.trans e3).trans (Ex.new na)).trans e4) ⟨a, rfl, e4 _ _ upd_same⟩
end
end Fi
/-! _law_due. -/
namespace Fi
open PySem L2 Evl TL
theorem numS_dash : numS "-" = none := by
  unfold numS
  refine if_neg fun ⟨_, _, h⟩ => ?_
  have : (45 : Nat) ∈ ("-" : Str).cps.toList := by decide +kernel
  have := h 45 this
  omega
theorem flat_nV (f : Nat → Option Nat) (n : Nat) : ((List.range n).map fun i => nV (f i)).all flatV = true := by
  rw [List.all_eq_true]
  intro x hx
  obtain ⟨i, _, rfl⟩ := List.mem_map.mp hx
  cases f i <;> rfl
theorem inV_nV (f : Nat → Option Nat) (n : Nat) : inV .non ((List.range n).map fun i => nV (f i)) = !decide (∀ i, i < n → (f i).isSome = true) := by
  by_cases h : ∀ i, i < n → (f i).isSome = true
  · rw [decide_eq_true h]
    unfold inV
    rw [show (!true) = false from rfl, List.any_eq_false]
    intro x hx
    obtain ⟨i, hi, rfl⟩ := List.mem_map.mp hx
    have := h i (List.mem_range.mp hi)
    cases hf : f i with
    | none => rw [hf] at this; cases this
    | some m => exact Bool.noConfusion
  · rw [decide_eq_false h]
    unfold inV
    rw [show (!false) = true from rfl, List.any_eq_true]
    obtain ⟨i, hi⟩ := Classical.not_forall.mp h
    obtain ⟨hi, hn⟩ := Classical.not_imp.mp hi
    refine ⟨nV (f i), List.mem_map.mpr ⟨i, List.mem_range.mpr hi, rfl⟩, ?_⟩
    cases hf : f i with
    | none => rfl
    | some m => rw [hf] at hn; exact absurd rfl hn
theorem nV_vi {f : Nat → Option Nat} {n : Nat} (h : ∀ i, i < n → (f i).isSome = true) : ((List.range n).map fun i => nV (f i)) = vi (valsTo f n) := by
  unfold vi valsTo
  rw [List.map_map]
  refine List.map_congr_left fun i hi => ?_
  have := h i (List.mem_range.mp hi)
  cases hf : f i with
  | none => rw [hf] at this; cases this
  | some m => show nV (some m) = V.int (((f i).getD 0 : Nat) : Int); rw [hf]; rfl
/-- the greatest -/
def mx (l : List Nat) : Nat := l.foldl max 0
theorem mx_props : ∀ (l : List Nat) (b : Nat), b ≤ l.foldl max b ∧ (∀ y ∈ l, y ≤ l.foldl max b) ∧ (l.foldl max b = b ∨ l.foldl max b ∈ l)
  | [], b => ⟨Nat.le_refl _, fun y h => (by cases h), .inl rfl⟩
  | a :: l, b => by
    rw [List.foldl_cons]
    obtain ⟨h1, h2, h3⟩ := mx_props l (max b a)
    refine ⟨by omega, fun y hy => ?_, ?_⟩
    · rcases List.mem_cons.mp hy with rfl | hy
      · omega
      · exact h2 y hy
    · rcases h3 with h | h
      · by_cases c : b ≤ a
        · right; rw [h, Nat.max_eq_right c]; exact List.mem_cons_self
        · left; rw [h, Nat.max_eq_left (by omega)]
      · exact .inr (List.mem_cons_of_mem _ h)
theorem mx_is {l : List Nat} {m : Nat} (h : m ∈ l) (h2 : ∀ y ∈ l, y ≤ m) : m = mx l := by
  obtain ⟨_, a, b⟩ := mx_props l 0
  have h3 := a m h
  unfold mx
  rcases b with b | b
  · omega
  · have := h2 _ b
    omega
theorem rc_mx {K : PySem.W.Frag} {H : Hp} {p : Addr} {l : List Nat} (h : SqL K H p (vi l)) (hne : l ≠ []) : RC (rMax K) [.ref p] H (.int (mx l : Int)) := fun H1 e Q q =>
  ⟨p, l.map fun (n : Nat) => (n : Int), rfl, by rw [← vi_ints]; exact ex_l e h, by rw [List.length_map]; exact List.length_pos_iff.mpr hne, fun z hz hy => by
    obtain ⟨x, hx, rfl⟩ := List.mem_map.mp hz
    have := mx_is hx fun y hyl => by
      have := hy _ (List.mem_map.mpr ⟨y, hyl, rfl⟩)
      omega
    rw [this]
    exact q H1 (Ex.refl H1)⟩
section
variable {K : PySem.W.Frag} {σ : L2.St} {H : Hp} {te : TE} {D : Ends} {tz tu : TS}
/-- for k, x in enumerate(a new list) -/
theorem q_forEn {xs : List V} {a b : Nat} (h : EvL te σ H xs) (Pv : Addr → Nat → L2.St → Hp → Prop) (h0 : ∀ p H1, H p = none → Ex H H1 → H1 p = some (.lst xs) → Pv p 0 σ H1) (hl : ∀ p i σ' H', i ≤ xs.length → Pv p i σ' H' → SqL K H' p xs)
    (hs : ∀ p (i : Nat) x σ' H' T, xs[i]? = some x → Pv p i σ' H' → H' T = none → tu { D with nx := Pv p (i + 1), ct := Pv p (i + 1), bk := tz D } ((σ'.set a (some (.int (i : Int)))).set b (some x)) (upd H' T (.tup [.int (i : Int), x]))) (hd : ∀ p σ' H', Pv p xs.length σ' H' → tz D σ' H') :
    tSeq (tFor (iEnum K (tCons te tNil)) (gTup K 2 (gCons (gName a) (gCons (gName b) gNil))) tu) tz D σ H :=
  h H (Ex.refl H) _ fun p H1 np e1 hp => ⟨p, xs, rfl, sq_of hp, fun i m σ H => m = xs.length - i ∧ i ≤ xs.length ∧ Pv p i σ H, ⟨xs.length, rfl, Nat.zero_le _, h0 p H1 np e1 hp⟩, by
    rintro i m σ H ⟨rfl, hi, pv⟩
    have q := hl p i σ H hi pv
    by_cases hlt : i < xs.length
    · refine .inr ⟨⟨xs, xs[i], q, List.getElem?_eq_getElem hlt⟩, Pv p (i + 1), fun σ' H' p' => ⟨xs.length - (i + 1), by omega, rfl, hlt, p'⟩, fun x H' y => ?_⟩
      obtain ⟨T, z, rfl, nT, rfl, y⟩ := y
      exact ⟨T, [.int (i : Int), z], rfl, st_of upd_same, rfl, .int (i : Int), [z], rfl, z, [], rfl, rfl, hs p i z σ H T (y xs q) pv nT⟩
    · have e : i = xs.length := by omega
      subst e
      exact .inl ⟨⟨xs, q, Nat.le_refl _⟩, hd p σ H pv⟩⟩
end
section
variable {P : Program} {w : World} {K : PySem.W.Frag} {mg : Str → Option Value} {base : Heap}
def spDue : Sp := fun vs H Q _ => ∃ (text : Str), vs = [.str text] ∧ Asc text ∧ text.length ≤ 20000 ∧ (GoodR (rowsT text) → RetP (fun v H2 => ∃ t a b, v = .ref t ∧ H2 t = some (.tup [.ref a, .ref b]) ∧ H2 a = some (.lst (vi (esR (rowsT text)))) ∧ H2 b = some (.lst (vi (wsR (rowsT text))))) H Q) ∧ (¬ GoodR (rowsT text) → RetV .non H Q)
theorem has_due (B : Bi mg) (h_law_number : Has P w K mg base CX0 "_law_number" p__law_number 1 spLNum) (D : At K mg "_law_due" s__law_due p__law_due) : Has P w K mg base CX0 "_law_due" p__law_due 2 spDue := D.has fun f fd F => by
  refine F.ok sc__law_due (fun vs H Q E h => ?_) (fun cdv A outer s H vs Q E hr h => ?_)
  · obtain ⟨text, rfl, _⟩ := h
    rfl
  · obtain ⟨text, rfl, hasc, hlen, k1, k2⟩ := h
    obtain ⟨wne, wok⟩ := split_ok hasc sp_ok.1 sp_ok.2.1
    have rne := rowsT_ne hasc
    have rcell := fun {r} => rowsT_cell (r := r) hasc
    have hrw : ∀ {i : Nat} {x : Str}, (Txt.split text " ")[i]? = some x → (rowsT text)[i]? = some (Txt.split x ":") := fun {i x} h => by
      unfold rowsT
      rw [List.getElem?_map, h]
      rfl
    have rl : (rowsT text).length = (Txt.split text " ").length := List.length_map _
    have wl := wok.len
    refine ⟨_, (pss_cons (ps_set (i := 1) sc__law_due.nd rfl (Or.inr rfl) (pe_lst pa_nil))
      (pss_cons (ps_set (i := 2) sc__law_due.nd rfl (Or.inl rfl) (pe_lst pa_nil))
      (pss_cons (ps_for PassesOwn.never rfl (pi_enum (by rfl) B.enumerate (pa_cons (pe_split (pv 0) pe_str) pa_nil)) (pg_tup (by rfl) (pgs_cons (pg_name (i := 3) sc__law_due.nd rfl (Or.inl rfl)) (pgs_cons (pg_name (i := 4) sc__law_due.nd rfl (Or.inl rfl)) pgs_nil))) (pss_cons (ps_set (i := 5) sc__law_due.nd rfl (Or.inl rfl) (pe_split (pv 4) pe_str))
        (pss_cons (ps_if (PW.pt (pw_or (pt_cmpR op_ne (pe_callB (call_lenK (K := K)) (by rfl) B.len PySem.boot_len (pa_cons (pv 5) pa_nil)) pe_int (nomark _)) (pw_or1 (pt_cmpR op_ne (pe_cmpR op_eq (pe_ix (ix_listK (K := K)) (pv 5) pe_int (fun _ _ => rfl)) pe_str (nomark _)) (pe_cmpR op_eq (pv 3) pe_int (nomark _)) (nomark _))))) (pss_one (ps_ret pe_non)) pss_nil)
        (pss_cons (ps_expr (pe_bm PySem.F.plainAttrs_list PySem.F.slot_list_append PySem.F.type_list_append mt_append (pv 2) (pa_cons (h_law_number.call (hr.mono (by decide)) (by rfl) pass0 (pa_cons (pe_ix (ix_listK (K := K)) (pv 5) pe_int (fun _ _ => rfl)) pa_nil)) pa_nil)))
        (pss_one (ps_if (pt_cmpR op_gt (pv 3) pe_int (nomark _)) (pss_one (ps_expr (pe_bm PySem.F.plainAttrs_list PySem.F.slot_list_append PySem.F.type_list_append mt_append (pv 1) (pa_cons (h_law_number.call (hr.mono (by decide)) (by rfl) pass0 (pa_cons (pe_ix (ix_listK (K := K)) (pv 5) pe_int (fun _ _ => rfl)) pa_nil)) pa_nil)))) pss_nil))))))
      (pss_cons (ps_if (PW.pt (pw_or (pt_cmpR (op_inK (K := K)) pe_non (pv 1) (by with_unfolding_all rfl)) (pw_or (pt_cmpR (op_inK (K := K)) pe_non (pv 2) (by with_unfolding_all rfl)) (pw_or (pt_cmpR op_gt (pe_callB (call_lenK (K := K)) (by rfl) B.len PySem.boot_len (pa_cons (pv 2) pa_nil)) pe_int (nomark _)) (pw_or1 (pt_cmpR op_gt (pe_callB (cr_maxK (K := K) rfl) (by rfl) B.max (by decide +kernel) (pa_cons (pv 2) pa_nil)) pe_int (nomark _))))))) (pss_one (ps_ret pe_non)) pss_nil)
      (pss_cons (ps_if (pt_cmpR (op_inK (K := K)) pe_bl (pe_lc (own := [("k", 3)]) (g := gName 3) rfl sc__law_due.nd (pi_range1 (by rfl) B.range (pa_cons (pe_callB (call_lenK (K := K)) (by rfl) B.len PySem.boot_len (pa_cons (pv 1) pa_nil)) pa_nil)) (blkOk_by (own := [("k", 3)]) (N := n__law_due) (sc := defScope s__law_due) (by decide +kernel)) (fun _ _ _ _ _ => pg_name (i := 3) sc__law_due.nd rfl (Or.inl rfl)) (fun _ _ _ _ _ => pts_nil) (fun _ _ _ _ _ => (pe_cmpR op_gt (pe_ix (ix_listK (K := K)) (pv 1) (pv 3) (fun _ _ => rfl)) (pv 3) (nomark _)))) (by with_unfolding_all rfl)) (pss_one (ps_ret pe_non)) pss_nil)
      (pss_one (ps_ret (pe_tup (pa_cons (pv 1) (pa_cons (pv 2) pa_nil)))))))))), ?_⟩
    generalize rowsT text = rows at *
    refine q_asgL (xs := []) (el_lst ea_nil (Nat.zero_le _)) fun le H1 nle e1 hle => ?_
    refine q_asgL (xs := []) (el_lst ea_nil (Nat.zero_le _)) fun lw H2 nlw e2 hlw => ?_
    have ne : le ≠ lw := ne_of_none hle nlw
    have nlwH : H lw = none := fresh_back e1 nlw
    have e12 := e1.trans e2
    refine q_forEn (el_split (ev_var rfl) ev_c (by decide +kernel) (by omega)) (fun p i σ' H' => ∃ v3 v4 v5, σ' = [some (.str text), some (.ref le), some (.ref lw), v3, v4, v5] ∧ Ex H H' ∧ H' p = some (.lst ((Txt.split text " ").map V.str)) ∧ (p ≠ le ∧ p ≠ lw) ∧ H' lw = some (.lst ((List.range i).map fun i => nV (fW rows i))) ∧ H' le = some (.lst ((List.range (i - 1)).map fun i => nV (fE rows i))) ∧
        (∀ j r, j < i → rows[j]? = some r → r.length = 2) ∧ (0 < i → cellS rows 0 0 = "-"))
      (fun p H3 np e3 hp => ⟨none, none, none, rfl, e12.trans e3, hp, ⟨(ne_of_none (e2 _ _ hle) np).symm, (ne_of_none hlw np).symm⟩, e3 _ _ hlw, e3 _ _ (e2 _ _ hle), fun j r hj => (by omega), fun h => (by omega)⟩)
      (fun p i σ' H' _ ⟨_, _, _, _, _, h, _⟩ => sq_of h) ?_ ?_
    · rintro p i x σ' H' T hi ⟨v3, v4, v5, rfl, e, hp, ⟨np1, np2⟩, hW, hE, hT, hD⟩ nT
      rw [List.getElem?_map] at hi
      cases hx : (Txt.split text " ")[i]? with
      | none => rw [hx] at hi; cases hi
      | some x =>
        rw [hx] at hi
        cases hi
        have hrow := hrw hx
        have hil := (List.getElem?_eq_some_iff.mp hx).1
        have hxm := List.mem_of_getElem? hx
        have xl := mem_len wok hxm
        have rm := List.mem_of_getElem? hrow
        obtain ⟨pne, pc⟩ := rcell rm
        have eT := Ex.new (H := H') (o := .tup [.int (i : Int), .str x]) nT
        generalize upd H' T (.tup [.int (i : Int), .str x]) = H3 at eT
        refine q_asgL (el_split (ev_var rfl) ev_c (by decide +kernel) (by omega)) fun lp H4 nlp e4 hlp => ?_
        have E4 := eT.trans e4
        have hgr : rows.getD i [] = Txt.split x ":" := by rw [List.getD_eq_getElem?_getD, hrow]; rfl
        generalize Txt.split x ":" = parts at *
        have pz : parts.length ≠ 0 := fun z => pne (List.length_eq_zero_iff.mp z)
        have p0 : parts[0]? = some (cellS rows i 0) := by
          unfold cellS
          rw [hgr, List.getD_eq_getElem?_getD, List.getElem?_eq_getElem (by omega)]
          rfl
        have c0l := (pc _ (List.mem_of_getElem? p0)).2
        refine q_when (b := !decide (parts.length = 2) || !decide (V.bl (decide (cellS rows i 0 = "-")) = V.bl (decide (i = 0)))) (et_or (et_test (ev_is (ev_op (ev_is (ev_lenS (ev_var rfl) (sq_of hlp)) (by rw [List.length_map])) ev_c (rv_ne rfl)) (by rw [show (V.int 2) = V.int ((2 : Nat) : Int) from rfl, dec_int])))
          fun _ => et_test (ev_op (ev_is (ev_op (ev_opIx (ev_var rfl) ev_c (sq_of hlp) (at_of (j := 0) rfl (by rw [List.getElem?_map, p0]; rfl))) ev_c (rv_eq rfl)) (by rw [str_dec])) (ev_is (ev_op (ev_var rfl) ev_c (rv_eq rfl)) (by rw [show (V.int 0) = V.int ((0 : Nat) : Int) from rfl, dec_int])) (rv_ne rfl))) (fun hb H5 e5 => ?_) (fun hb H5 e5 => ?_)
        · refine s_ret ev_c fun H6 e6 => k2 (fun g => ?_) H6 ((((e.trans E4).trans e5).trans e6))
          rw [decide_eq_true (g.two _ rm)] at hb
          have hz : decide (cellS rows i 0 = "-") = decide (i = 0) := by
            by_cases c : i = 0
            · subst c
              rw [decide_eq_true g.dash]
              rfl
            · rw [decide_eq_false c]
              refine decide_eq_false fun z => ?_
              have := g.e (i - 1) (by omega)
              unfold fE at this
              rw [show i - 1 + 1 = i by omega, z, numS_dash] at this
              cases this
          rw [hz, decide_eq_true rfl] at hb
          cases hb
        · obtain ⟨b1, b2⟩ := boolOrF hb
          have two : parts.length = 2 := by
            cases hd : decide (parts.length = 2) with
            | true => exact of_decide_eq_true hd
            | false => rw [hd] at b1; cases b1
          have dash : decide (cellS rows i 0 = "-") = decide (i = 0) := by
            cases hd : decide (V.bl (decide (cellS rows i 0 = "-")) = V.bl (decide (i = 0))) with
            | true => exact V.bl.inj (of_decide_eq_true hd)
            | false => rw [hd] at b2; cases b2
          have p1 : parts[1]? = some (cellS rows i 1) := by
            unfold cellS
            rw [hgr, List.getD_eq_getElem?_getD, List.getElem?_eq_getElem (by omega)]
            rfl
          have c1l := (pc _ (List.mem_of_getElem? p1)).2
          have E5 := E4.trans e5
          have hlp5 := e5 _ _ hlp
          refine q_app (v := nV (fW rows i)) (E5 _ _ hW) (ev_var rfl) (ev_call0 (ea_cons (ev_opIx (ev_var rfl) ev_c (sq_of hlp5) (at_of (j := 1) rfl (by rw [List.getElem?_map, p1]; rfl))) ea_nil) (spv_lnum (by omega))) (by rw [List.length_map, List.length_range]; omega) fun H6 e6 => ?_
          have E6 := E5.trans e6
          have nlplw : lp ≠ lw := (ne_of_none (eT _ _ hW) nlp).symm
          have keep : ∀ b o, b ≠ lw → H6 b = some o → (upd H6 lw (.lst ((List.range i).map (fun i => nV (fW rows i)) ++ [nV (fW rows i)]))) b = some o := fun b o hb h => by rw [upd_ne hb]; exact h
          have hW7 : (upd H6 lw (.lst ((List.range i).map (fun i => nV (fW rows i)) ++ [nV (fW rows i)]))) lw = some (.lst ((List.range (i + 1)).map fun i => nV (fW rows i))) := by rw [upd_same, List.range_succ, List.map_append]; rfl
          have E7 : Ex H (upd H6 lw (.lst ((List.range i).map (fun i => nV (fW rows i)) ++ [nV (fW rows i)]))) := Ex.mut (e.trans E6) nlwH
          generalize upd H6 lw (.lst ((List.range i).map (fun i => nV (fW rows i)) ++ [nV (fW rows i)])) = H7 at keep hW7 E7
          have hp7 := keep _ _ np2 (E6 _ _ hp)
          have hE7 := keep _ _ ne (E6 _ _ hE)
          have hlp7 := keep _ _ nlplw (e6 _ _ hlp5)
          have hT' : ∀ j r, j < i + 1 → rows[j]? = some r → r.length = 2 := fun j r hj hr => by
            by_cases c : j = i
            · subst c
              rw [hrow] at hr
              cases hr
              exact two
            · exact hT j r (by omega) hr
          have hD' : 0 < i + 1 → cellS rows 0 0 = "-" := fun _ => by
            by_cases c : i = 0
            · subst c
              exact of_decide_eq_true (dash.trans (decide_eq_true rfl))
            · exact hD (by omega)
          refine s_when (b := decide ((0 : Int) < (i : Int))) (et_test (ev_op (ev_var rfl) ev_c rv_I0)) (fun hc H8 e8 => ?_) (fun hc H8 e8 => ?_)
          · have hc : 0 < i := by have := of_decide_eq_true hc; omega
            have nlple : lp ≠ le := (ne_of_none (eT _ _ hE) nlp).symm
            refine s_app (v := nV (fE rows (i - 1))) (e8 _ _ hE7) (ev_var rfl) (ev_is (ev_call0 (ea_cons (ev_opIx (ev_var rfl) ev_c (sq_of (e8 _ _ hlp7)) (at_of (j := 0) rfl (by rw [List.getElem?_map, p0]; rfl))) ea_nil) (spv_lnum (by omega))) (by unfold fE; rw [show i - 1 + 1 = i by omega])) (by rw [List.length_map, List.length_range]; omega) fun H9 e9 => ⟨_, _, _, rfl, Ex.mut ((E7.trans e8).trans e9) nle, ?_, ⟨np1, np2⟩, ?_, ?_, hT', hD'⟩
            · rw [upd_ne np1]; exact e9 _ _ (e8 _ _ hp7)
            · rw [upd_ne ne.symm]; exact e9 _ _ (e8 _ _ hW7)
            · rw [upd_same, show i + 1 - 1 = (i - 1) + 1 by omega, List.range_succ, List.map_append]
              rfl
          · have hc : i = 0 := by have := of_decide_eq_false hc; omega
            subst hc
            exact ⟨_, _, _, rfl, E7.trans e8, e8 _ _ hp7, ⟨np1, np2⟩, e8 _ _ hW7, e8 _ _ hE7, hT', hD'⟩
    · rintro p σ' H3 ⟨v3, v4, v5, rfl, e, hp, _, hW, hE, hT, hD⟩
      rw [List.length_map, ← rl] at hW hE hT hD
      have hpos : 0 < rows.length := List.length_pos_iff.mpr rne
      have two : Two rows := fun r hr => by
        obtain ⟨j, hj⟩ := List.getElem?_of_mem hr
        exact hT j r (List.getElem?_eq_some_iff.mp hj).1 hj
      have dash := hD hpos
      have wsl : (wsR rows).length = rows.length := valsTo_len _ _
      have esl : (esR rows).length = rows.length - 1 := valsTo_len _ _
      have wne' : wsR rows ≠ [] := fun z => by rw [z] at wsl; exact absurd wsl.symm (Nat.ne_of_gt hpos)
      have num : ∀ {f : Nat → Option Nat} {n : Nat}, (!decide (∀ i, i < n → (f i).isSome = true)) = false → ∀ i, i < n → (f i).isSome = true := fun {f n} h => by
        cases hd : decide (∀ i, i < n → (f i).isSome = true) with
        | true => exact of_decide_eq_true hd
        | false => rw [hd] at h; cases h
      refine q_when (b := !decide (∀ i, i < rows.length - 1 → (fE rows i).isSome = true) || (!decide (∀ i, i < rows.length → (fW rows i).isSome = true) || (decide ((14 : Int) < (rows.length : Int)) || decide ((1000 : Int) < (mx (wsR rows) : Int)))))
        (et_or (et_test (ev_is (ev_op ev_c (ev_var rfl) (rv_isL (sq_of hE) rfl (flat_nV _ _))) (by rw [inV_nV]))) fun _ => et_or (et_test (ev_is (ev_op ev_c (ev_var rfl) (rv_isL (sq_of hW) rfl (flat_nV _ _))) (by rw [inV_nV]))) fun h2 => et_or (et_test (ev_op (ev_is (ev_lenS (ev_var rfl) (sq_of hW)) (by rw [List.length_map, List.length_range])) ev_c rv_I0))
          fun _ => et_test (ev_op (ev_cb (ea_cons (ev_var rfl) ea_nil) (rc_mx (l := wsR rows) (sq_of (by rw [hW, nV_vi (num h2)]; rfl)) wne')) ev_c rv_I0)) (fun hb H4 e4 => ?_) (fun hb H4 e4 => ?_)
      · refine s_ret ev_c fun H5 e5 => k2 (fun g => ?_) H5 ((e.trans e4).trans e5)
        have gl := g.ok.most
        rw [wsl] at gl
        have gm : mx (wsR rows) ≤ 1000 := by
          obtain ⟨_, _, h3⟩ := mx_props (wsR rows) 0
          unfold mx
          rcases h3 with h | h
          · omega
          · exact g.ok.wt _ h
        rw [decide_eq_true g.e, decide_eq_true g.w, decide_eq_false (show ¬ (14 : Int) < (rows.length : Int) by omega), decide_eq_false (show ¬ (1000 : Int) < (mx (wsR rows) : Int) by omega)] at hb
        cases hb
      · obtain ⟨b1, hb⟩ := boolOrF hb
        obtain ⟨b2, hb⟩ := boolOrF hb
        obtain ⟨b3, b4⟩ := boolOrF hb
        have allE := num b1
        have allW := num b2
        have b3 := of_decide_eq_false b3
        have b4 := of_decide_eq_false b4
        have hE4 : H4 le = some (.lst (vi (esR rows))) := by rw [e4 _ _ hE, nV_vi allE]; rfl
        have hW4 : H4 lw = some (.lst (vi (wsR rows))) := by rw [e4 _ _ hW, nV_vi allW]; rfl
        have E4 := e.trans e4
        refine q_when (b := !decide (∀ i, i < rows.length - 1 → (esR rows).getD i 0 ≤ i)) (et_test (ev_is (ev_opL (xs := (List.range (rows.length - 1)).map fun (i : Nat) => V.bl (decide ((i : Int) < (((esR rows).getD i 0 : Nat) : Int)))) ev_c (el_is (el_lcR1 (n := ((rows.length - 1 : Nat) : Int)) (fun _ => true) (fun (i : Nat) => V.bl (decide ((i : Int) < (((esR rows).getD i 0 : Nat) : Int)))) (ea_cons (ev_is (ev_lenS (ev_var rfl) (sq_of hE4)) (by rw [vi_len, esl])) ea_nil) ⟨by omega, by omega⟩ (fun x => rfl) (fun _ _ _ _ => et_yes) (fun i H5 e5 hi _ =>
            ev_op (ev_opIx (ev_var rfl) (ev_var rfl) (sq_of (e5 _ _ hE4)) (vi_at rfl (getD_get (by rw [esl]; omega)))) (ev_var rfl) rv_I0)) (by rw [Int.toNat_natCast, given_all])) fun r H5 hr5 e5 => rv_isL (sq_of hr5) rfl (by simp [flatV])) ?_)) (fun hb5 H5 e5 => ?_) (fun hb5 H5 e5 => ?_)
        · congr 1
          by_cases c : ∀ i, i < rows.length - 1 → (esR rows).getD i 0 ≤ i
          · rw [decide_eq_true c]
            unfold inV
            rw [show (!true) = false from rfl, List.any_eq_false]
            intro x hx
            obtain ⟨i, hi, rfl⟩ := List.mem_map.mp hx
            have := c i (List.mem_range.mp hi)
            rw [decide_eq_false (by omega)]
            decide
          · rw [decide_eq_false c]
            unfold inV
            rw [show (!false) = true from rfl, List.any_eq_true]
            obtain ⟨i, hi⟩ := Classical.not_forall.mp c
            obtain ⟨hi, hn⟩ := Classical.not_imp.mp hi
            refine ⟨_, List.mem_map.mpr ⟨i, List.mem_range.mpr hi, rfl⟩, ?_⟩
            rw [decide_eq_true (by omega)]
            rfl
        · refine s_ret ev_c fun H6 e6 => k2 (fun g => ?_) H6 ((E4.trans e5).trans e6)
          rw [decide_eq_true fun i hi => g.ok.up i _ (getD_get (by rw [esl]; exact hi))] at hb5
          cases hb5
        · have hup : ∀ i, i < rows.length - 1 → (esR rows).getD i 0 ≤ i := by
            cases hd : decide (∀ i, i < rows.length - 1 → (esR rows).getD i 0 ≤ i) with
            | true => exact of_decide_eq_true hd
            | false => rw [hd] at hb5; cases hb5
          have ok : Fm.OkT (esR rows) (wsR rows) := ⟨by rw [esl, wsl]; omega, by rw [wsl]; omega, fun k v hv => by
            have hk := (List.getElem?_eq_some_iff.mp hv).1
            have := hup k (by rw [← esl]; exact hk)
            rw [List.getD_eq_getElem?_getD, hv] at this
            exact this, fun v hv => by
            have := (mx_props (wsR rows) 0).2.1 v hv
            unfold mx at b4
            omega⟩
          refine s_retU (eu_tup (ea_cons (ev_var rfl) (ea_cons (ev_var rfl) ea_nil)) (by show 2 ≤ 100000; decide)) fun t H6 nt e6 ht => k1 ⟨two, dash, allE, allW, ok⟩ _ H6 ((E4.trans e5).trans e6) ⟨t, le, lw, rfl, ht, e6 _ _ (e5 _ _ hE4), e6 _ _ (e5 _ _ hW4)⟩
end
end Fi
/-! _law_turned. -/
namespace Fi
open PySem L2 Evl TL
section
variable {σ : L2.St} {H : Hp} {te : TE} {t1 t2 : TO}
theorem ev_slS {z : Str} {lo hi : Option Int} (h : Ev te σ H (.str z)) (h1 : EvO t1 σ H lo) (h2 : EvO t2 σ H hi) (hl : z.length ≤ 100000) : Ev (tSl rSlS te t1 t2) σ H (.str (cutS z lo hi)) := fun H1 e Q q =>
  h H1 e _ fun H2 e2 => h1 H2 (e.trans e2) _ fun H3 e3 => h2 H3 ((e.trans e2).trans e3) _ fun H4 e4 => ⟨z, rfl, sz_of hl, q H4 ((e2.trans e3).trans e4)⟩
theorem signs17 : (Str.ofString "0123456789 -:+_\n\t").cps.toList.length = 17 ∧ (Str.ofString "0123456789 -:+_\n\t").length ≤ 100000 ∧ ∀ c ∈ (Str.ofString "0123456789 -:+_\n\t").cps.toList, c < 128 := by decide +kernel
def oddL : List Str := ["", "-", "-:", "0:1", "-:1 ", " -:1", "-:1 1:1", "-:1001", "-:1 0:1001", "-:00"]
theorem odd_ok : oddL.length = 10 ∧ ∀ x ∈ oddL, x.length ≤ 20 ∧ ∀ c ∈ tl x, c < 128 := by decide +kernel
theorem at_nat {α : Type} {l : List α} {i : Int} (h0 : 0 ≤ i) (h1 : i < (l.length : Int)) : ∃ x, atI l i = some x ∧ x ∈ l := by
  have hj : i.toNat < l.length := by omega
  refine ⟨l[i.toNat], ?_, List.getElem_mem hj⟩
  unfold atI ixN
  rw [if_pos h0, if_pos h1]
  exact List.getElem?_eq_getElem hj
theorem one_len (c : Nat) : (⟨#[c]⟩ : Str).length = 1 := rfl
theorem asc_one {c : Nat} (h : c < 128) : Asc ⟨#[c]⟩ := fun d hd => by
  have hd : d ∈ [c] := hd
  rw [List.mem_singleton.mp hd]
  exact h
end
section
variable {P : Program} {w : World} {K : PySem.W.Frag} {mg : Str → Option Value} {base : Heap}
def spTurned : Sp := fun vs H Q _ => ∃ (text : Str) (way cell : Int), vs = [.str text, .int way, .int cell] ∧ Asc text ∧ text.length ≤ 140 ∧ 0 ≤ cell ∧ RetP (fun v H2 => ∃ x, v = .str x ∧ Asc x ∧ x.length ≤ 20000) H Q
theorem spp_turned {H : Hp} {text : Str} {way cell : Int} (h : Asc text) (hl : text.length ≤ 140) (hc : 0 ≤ cell) : SpP spTurned [.str text, .int way, .int cell] H (fun v H2 => ∃ x, v = .str x ∧ Asc x ∧ x.length ≤ 20000) := fun H1 e Q q E => ⟨text, way, cell, rfl, h, hl, hc, q⟩
theorem has_turned (B : Bi mg) (D : At K mg "_law_turned" s__law_turned p__law_turned) : Has P w K mg base CX0 "_law_turned" p__law_turned 1 spTurned := D.has fun f fd F => by
  refine F.ok sc__law_turned (fun vs H Q E h => ?_) (fun cdv A outer s H vs Q E hr h => ?_)
  · obtain ⟨text, way, cell, rfl, _⟩ := h
    rfl
  · obtain ⟨text, way, cell, rfl, hasc, hlen, hc0, q⟩ := h
    obtain ⟨wne, wok⟩ := split_ok hasc sp_ok.1 sp_ok.2.1
    refine ⟨_, (pss_cons (ps_set (i := 3) sc__law_turned.nd rfl (Or.inl rfl) (pe_op op_mod (pv 2) (pe_op op_add (pe_callB call_len_str (by rfl) B.len PySem.boot_len (pa_cons (pv 0) pa_nil)) pe_int)))
      (pss_cons (ps_set (i := 4) sc__law_turned.nd rfl (Or.inl rfl) (pe_ix ix_str pe_str (pe_op op_mod (pe_op op_fdiv (pv 2) pe_int) pe_int) (fun _ _ => rfl)))
      (pss_cons (ps_if (pt_cmpR op_eq (pv 1) pe_int (nomark _)) (pss_one (ps_ret (pe_op op_add_str (pe_op op_add_str (pe_slice sl_str (pv 0) po_none (po_some (pv 3))) (pv 4)) (pe_slice sl_str (pv 0) (po_some (pv 3)) po_none)))) pss_nil)
      (pss_cons (ps_if (pt_cmpR op_eq (pv 1) pe_int (nomark _)) (pss_one (ps_ret (pe_op op_add_str (pe_op op_add_str (pe_slice sl_str (pv 0) po_none (po_some (pv 3))) (pv 4)) (pe_slice sl_str (pv 0) (po_some (pe_op op_add (pv 3) pe_int)) po_none)))) pss_nil)
      (pss_cons (ps_if (pt_cmpR op_eq (pv 1) pe_int (nomark _)) (pss_one (ps_ret (pe_op op_add_str (pe_slice sl_str (pv 0) po_none (po_some (pv 3))) (pe_slice sl_str (pv 0) (po_some (pe_op op_add (pv 3) pe_int)) po_none)))) pss_nil)
      (pss_cons (ps_set (i := 5) sc__law_turned.nd rfl (Or.inl rfl) (pe_split (pv 0) pe_str))
      (pss_cons (ps_set (i := 6) sc__law_turned.nd rfl (Or.inl rfl) (pe_op op_mod (pe_op op_fdiv (pv 2) pe_int) (pe_callB (call_lenK (K := K)) (by rfl) B.len PySem.boot_len (pa_cons (pv 5) pa_nil))))
      (pss_cut (ps_if (pt_cmpR op_eq (pv 1) pe_int (nomark _)) (pss_one (ps_set (i := 5) sc__law_turned.nd rfl (Or.inl rfl) (pe_op op_cat (pe_slice (sl_listK (K := K)) (pv 5) po_none (po_some (pv 6))) (pe_slice (sl_listK (K := K)) (pv 5) (po_some (pe_op op_add (pv 6) pe_int)) po_none)))) pss_nil)
      (pss_cut (ps_if (pt_cmpR op_eq (pv 1) pe_int (nomark _)) (pss_one (ps_set (i := 5) sc__law_turned.nd rfl (Or.inl rfl) (pe_op op_cat (pe_slice (sl_listK (K := K)) (pv 5) po_none (po_some (pe_op op_add (pv 6) pe_int))) (pe_slice (sl_listK (K := K)) (pv 5) (po_some (pv 6)) po_none)))) pss_nil)
      (pss_cut (ps_if (pt_cmpR op_eq (pv 1) pe_int (nomark _)) (pss_cons (ps_set (i := 7) sc__law_turned.nd rfl (Or.inl rfl) (pe_op op_cat (pe_slice (sl_listK (K := K)) (pv 5) po_none (po_some (pv 6))) (pe_slice (sl_listK (K := K)) (pv 5) (po_some (pe_op op_add (pv 6) pe_int)) (po_some (pe_op op_add (pv 6) pe_int)))))
        (pss_one (ps_set (i := 5) sc__law_turned.nd rfl (Or.inl rfl) (pe_op op_cat (pe_op op_cat (pv 7) (pe_slice (sl_listK (K := K)) (pv 5) (po_some (pv 6)) (po_some (pe_op op_add (pv 6) pe_int)))) (pe_slice (sl_listK (K := K)) (pv 5) (po_some (pe_op op_add (pv 6) pe_int)) po_none))))) pss_nil)
      (pss_cons (ps_if (pt_cmpR op_eq (pv 1) pe_int (nomark _)) (pss_one (ps_ret (pe_ix (ix_listK (K := K)) (pe_lst (pa_cons pe_str (pa_cons pe_str (pa_cons pe_str (pa_cons pe_str (pa_cons pe_str (pa_cons pe_str (pa_cons pe_str (pa_cons pe_str (pa_cons pe_str (pa_cons pe_str pa_nil))))))))))) (pe_op op_mod (pv 2) pe_int) (fun _ _ => rfl)))) pss_nil)
      (pss_one (ps_ret (pe_join pe_str (pv 5))))))))))))))), ?_⟩
    have npos : (0 : Int) < (text.length : Int) + 1 := by omega
    refine q_asg (v := .int (cell % ((text.length : Int) + 1))) (ev_op (ev_var rfl) (ev_op (ev_cb (ea_cons (ev_var rfl) ea_nil) (rc_lenStr (by omega))) ev_c rv_I0) (rv_I npos)) fun H1 e1 => ?_
    obtain ⟨s17, s17l, s17a⟩ := signs17
    have i0 := Int.emod_nonneg (cell / 1009) (show (17 : Int) ≠ 0 by decide)
    have i1 := Int.emod_lt_of_pos (cell / 1009) (show (0 : Int) < 17 by decide)
    obtain ⟨c, hc, hcm⟩ := at_nat (l := (Str.ofString "0123456789 -:+_\n\t").cps.toList) i0 (by rw [s17]; exact i1)
    have hca := s17a c hcm
    refine q_asg (v := .str ⟨#[c]⟩) (ev_op ev_c (ev_op (ev_op (ev_var rfl) ev_c (rv_I ⟨by decide, by decide⟩)) ev_c (rv_I (by decide))) (rv_ixS s17l hc)) fun H2 e2 => ?_
    have E2 := e1.trans e2
    have cl := fun lo hi => cutS_length text lo hi
    have ca := fun lo hi => cutS_asc hasc lo hi
    generalize cell % ((text.length : Int) + 1) = at_
    -- 1
    refine q_when (et_test (ev_op (ev_var rfl) ev_c (rv_eq rfl))) (fun _ H3 e3 => ?_) (fun _ H3 e3 => ?_)
    · refine s_ret (v := .str (cutS text none (some at_) ++ ⟨#[c]⟩ ++ cutS text (some at_) none)) (ev_op (ev_op (ev_slS (ev_var rfl) eo_none (eo_some (ev_var rfl)) (by omega)) (ev_var rfl) (rv_adds (by have := cl none (some at_); rw [one_len]; omega))) (ev_slS (ev_var rfl) (eo_some (ev_var rfl)) eo_none (by omega)) (rv_adds (by have := cl none (some at_); have := cl (some at_) none; rw [len_app, one_len]; omega)))
        fun H4 e4 => q _ H4 ((E2.trans e3).trans e4) ⟨_, rfl, Asc.app (Asc.app (ca _ _) (asc_one hca)) (ca _ _), by have := cl none (some at_); have := cl (some at_) none; rw [len_app, len_app, one_len]; omega⟩
    have E3 := E2.trans e3
    -- 2
    refine q_when (et_test (ev_op (ev_var rfl) ev_c (rv_eq rfl))) (fun _ H4 e4 => ?_) (fun _ H4 e4 => ?_)
    · refine s_ret (v := .str (cutS text none (some at_) ++ ⟨#[c]⟩ ++ cutS text (some (at_ + 1)) none)) (ev_op (ev_op (ev_slS (ev_var rfl) eo_none (eo_some (ev_var rfl)) (by omega)) (ev_var rfl) (rv_adds (by have := cl none (some at_); rw [one_len]; omega))) (ev_slS (ev_var rfl) (eo_some (ev_op (ev_var rfl) ev_c rv_I0)) eo_none (by omega)) (rv_adds (by have := cl none (some at_); have := cl (some (at_ + 1)) none; rw [len_app, one_len]; omega)))
        fun H5 e5 => q _ H5 ((E3.trans e4).trans e5) ⟨_, rfl, Asc.app (Asc.app (ca _ _) (asc_one hca)) (ca _ _), by have := cl none (some at_); have := cl (some (at_ + 1)) none; rw [len_app, len_app, one_len]; omega⟩
    have E4 := E3.trans e4
    -- 3
    refine q_when (et_test (ev_op (ev_var rfl) ev_c (rv_eq rfl))) (fun _ H5 e5 => ?_) (fun _ H5 e5 => ?_)
    · refine s_ret (v := .str (cutS text none (some at_) ++ cutS text (some (at_ + 1)) none)) (ev_op (ev_slS (ev_var rfl) eo_none (eo_some (ev_var rfl)) (by omega)) (ev_slS (ev_var rfl) (eo_some (ev_op (ev_var rfl) ev_c rv_I0)) eo_none (by omega)) (rv_adds (by have := cl none (some at_); have := cl (some (at_ + 1)) none; omega)))
        fun H6 e6 => q _ H6 ((E4.trans e5).trans e6) ⟨_, rfl, Asc.app (ca _ _) (ca _ _), by have := cl none (some at_); have := cl (some (at_ + 1)) none; rw [len_app]; omega⟩
    have E5 := E4.trans e5
    -- words
    refine q_asgL (xs := (Txt.split text " ").map V.str) (el_split (ev_var rfl) ev_c (by decide +kernel) (by omega)) fun lw H6 nlw e6 hlw => ?_
    have E6 := E5.trans e6
    have wpos : (0 : Int) < ((Txt.split text " ").length : Int) := by have := List.length_pos_iff.mpr wne; omega
    refine q_asg (v := .int (cell / 14 % ((Txt.split text " ").length : Int))) (ev_op (ev_op (ev_var rfl) ev_c (rv_I ⟨by decide, by decide⟩)) (ev_is (ev_lenS (ev_var rfl) (sq_of hlw)) (by rw [List.length_map])) (rv_I wpos)) fun H7 e7 => ?_
    have E7 := E6.trans e7
    have wok := wok.mono (m := 141) (by omega)
    generalize cell / 14 % ((Txt.split text " ").length : Int) = spot
    have hlw7 := e7 _ _ hlw
    generalize Txt.split text " " = ws at wok hlw7
    -- a slice of the words
    have sl : ∀ {ws : List Str} {n : Nat} (lo hi : Option Int), WOk ws n → ∃ vs : List Str, WOk vs n ∧ ∀ {σ' : L2.St} {H' : Hp} {lw : Addr} {t1 t2 : TO}, σ'[5]? = some (some (.ref lw)) → H' lw = some (.lst (ws.map V.str)) → EvO t1 σ' H' lo → EvO t2 σ' H' hi → EvL (tSl (rSlL K) (tVar 5) t1 t2) σ' H' (vs.map V.str) := fun {ws n} lo hi ok => by
      obtain ⟨vs, h1, h2⟩ := cutV_sub ws lo hi
      exact ⟨vs, ok.sub h2, fun hv hw o1 o2 => el_is (el_sl (ev_var hv) o1 o2 (sq_of hw)) h1⟩
    have cat : ∀ {σ' : L2.St} {H' : Hp} {a b : TE} {vs us : List Str} {n m : Nat}, WOk vs n → WOk us m → n + m ≤ 100000 → EvL a σ' H' (vs.map V.str) → EvL b σ' H' (us.map V.str) → EvL (tOp rCat a b) σ' H' ((vs ++ us).map V.str) := fun {σ' H' a b vs us n m} o1 o2 hz h1 h2 => by
      have := o1.len
      have := o2.len
      exact el_is (el_catNN h1 h2 (by rw [List.length_map, List.length_map]; omega)) List.map_append.symm
    -- 4
    refine q_cut (M := fun σ' H' => ∃ (lw : Addr) (ws : List Str), σ' = [some (.str text), some (.int way), some (.int cell), some (.int at_), some (.str ⟨#[c]⟩), some (.ref lw), some (.int spot), none] ∧ Ex H H' ∧ H' lw = some (.lst (ws.map V.str)) ∧ WOk ws 282) ?_ ?_
    · refine s_when (et_test (ev_op (ev_var rfl) ev_c (rv_eq rfl))) (fun _ H8 e8 => ?_) (fun _ H8 e8 => ⟨lw, ws, rfl, E7.trans e8, e8 _ _ hlw7, wok.mono (by decide)⟩)
      obtain ⟨v1, o1, h1⟩ := sl none (some spot) wok
      obtain ⟨v2, o2, h2⟩ := sl (some (spot + 1)) none wok
      exact s_asgL (cat o1 o2 (by decide) (h1 rfl (e8 _ _ hlw7) eo_none (eo_some (ev_var rfl))) (h2 rfl (e8 _ _ hlw7) (eo_some (ev_op (ev_var rfl) ev_c rv_I0)) eo_none)) fun l2 H9 nl2 e9 hl2 => ⟨l2, _, rfl, (E7.trans e8).trans e9, hl2, o1.app o2⟩
    · rintro σ' H8 ⟨lw, ws, rfl, E8, hw8, wok⟩
      -- 5
      refine q_cut (M := fun σ' H' => ∃ (lw : Addr) (ws : List Str), σ' = [some (.str text), some (.int way), some (.int cell), some (.int at_), some (.str ⟨#[c]⟩), some (.ref lw), some (.int spot), none] ∧ Ex H H' ∧ H' lw = some (.lst (ws.map V.str)) ∧ WOk ws 564) ?_ ?_
      · refine s_when (et_test (ev_op (ev_var rfl) ev_c (rv_eq rfl))) (fun _ H9 e9 => ?_) (fun _ H9 e9 => ⟨lw, ws, rfl, E8.trans e9, e9 _ _ hw8, wok.mono (by decide)⟩)
        obtain ⟨v1, o1, h1⟩ := sl none (some (spot + 1)) wok
        obtain ⟨v2, o2, h2⟩ := sl (some spot) none wok
        exact s_asgL (cat o1 o2 (by decide) (h1 rfl (e9 _ _ hw8) eo_none (eo_some (ev_op (ev_var rfl) ev_c rv_I0))) (h2 rfl (e9 _ _ hw8) (eo_some (ev_var rfl)) eo_none)) fun l2 H10 nl2 e10 hl2 => ⟨l2, _, rfl, (E8.trans e9).trans e10, hl2, o1.app o2⟩
      · rintro σ' H9 ⟨lw, ws, rfl, E9, hw9, wok⟩
        -- 6
        refine q_cut (M := fun σ' H' => ∃ (lw : Addr) (ws : List Str) (v7 : Option V), σ' = [some (.str text), some (.int way), some (.int cell), some (.int at_), some (.str ⟨#[c]⟩), some (.ref lw), some (.int spot), v7] ∧ Ex H H' ∧ H' lw = some (.lst (ws.map V.str)) ∧ WOk ws 2256) ?_ ?_
        · refine s_when (et_test (ev_op (ev_var rfl) ev_c (rv_eq rfl))) (fun _ H10 e10 => ?_) (fun _ H10 e10 => ⟨lw, ws, _, rfl, E9.trans e10, e10 _ _ hw9, wok.mono (by decide)⟩)
          have hw10 := e10 _ _ hw9
          obtain ⟨v1, o1, h1⟩ := sl none (some spot) wok
          obtain ⟨v2, o2, h2⟩ := sl (some (spot + 1)) (some (spot + 2)) wok
          refine q_asgL (cat o1 o2 (by decide) (h1 rfl hw10 eo_none (eo_some (ev_var rfl))) (h2 rfl hw10 (eo_some (ev_op (ev_var rfl) ev_c rv_I0)) (eo_some (ev_op (ev_var rfl) ev_c rv_I0)))) fun la H11 nla e11 hla => ?_
          have hw11 := e11 _ _ hw10
          obtain ⟨v3, o3, h3⟩ := sl (some spot) (some (spot + 1)) wok
          obtain ⟨v4, o4, h4⟩ := sl (some (spot + 2)) none wok
          have o12 := o1.app o2
          have first : EvL (tOp rCat (tVar 7) (tSl (rSlL K) (tVar 5) (tPart (tVar 6)) (tPart (tOp (rI0 fun i j => .int (i + j)) (tVar 6) (tC (.int 1)))))) ([some (.str text), some (.int way), some (.int cell), some (.int at_), some (.str ⟨#[c]⟩), some (.ref lw), some (.int spot), some (.ref la)] : L2.St) H11 (((v1 ++ v2) ++ v3).map V.str) := by
            have := o12.len
            have := o3.len
            exact el_is (el_catVN (ev_var rfl) hla (h3 rfl hw11 (eo_some (ev_var rfl)) (eo_some (ev_op (ev_var rfl) ev_c rv_I0))) (by rw [List.length_map, List.length_map]; omega)) List.map_append.symm
          exact s_asgL (cat (o12.app o3) o4 (by decide) first (h4 rfl hw11 (eo_some (ev_op (ev_var rfl) ev_c rv_I0)) eo_none)) fun l2 H12 nl2 e12 hl2 => ⟨l2, _, _, rfl, ((E9.trans e10).trans e11).trans e12, hl2, (o12.app o3).app o4⟩
        · rintro σ' H10 ⟨lw, ws, v7, rfl, E10, hw10, wok⟩
          -- 7
          refine q_when (et_test (ev_op (ev_var rfl) ev_c (rv_eq rfl))) (fun _ H11 e11 => ?_) (fun _ H11 e11 => ?_)
          · have j0 := Int.emod_nonneg cell (show (10 : Int) ≠ 0 by decide)
            have j1 := Int.emod_lt_of_pos cell (show (0 : Int) < 10 by decide)
            obtain ⟨ol, oa⟩ := odd_ok
            obtain ⟨x, hx, hxm⟩ := at_nat (l := oddL) j0 (by rw [ol]; exact j1)
            have hxv : atI (oddL.map V.str) (cell % 10) = some (V.str x) := by
              unfold atI ixN at hx ⊢
              rw [List.length_map]
              rw [if_pos j0, if_pos (by rw [ol]; exact j1)] at hx ⊢
              have hx : oddL[(cell % 10).toNat]? = some x := hx
              show (oddL.map V.str)[(cell % 10).toNat]? = _
              rw [List.getElem?_map, hx]
              rfl
            refine s_ret (ev_opIxN (xs := oddL.map V.str) (el_lst (ea_cons ev_c (ea_cons ev_c (ea_cons ev_c (ea_cons ev_c (ea_cons ev_c (ea_cons ev_c (ea_cons ev_c (ea_cons ev_c (ea_cons ev_c (ea_cons ev_c ea_nil)))))))))) (by show 10 ≤ 100000; decide)) (ev_op (ev_var rfl) ev_c (rv_I (by decide))) hxv) fun H12 e12 => q _ H12 ((E10.trans e11).trans e12) ⟨x, rfl, (oa x hxm).2, by have := (oa x hxm).1; omega⟩
          · have jo := join_ok wok
            refine s_ret (ev_join ev_c (ev_var rfl) (sq_of (e11 _ _ hw10)) (by have := wok.len; have := wok.sum; rw [len_lit2.2.2]; omega)) fun H12 e12 => q _ H12 ((E10.trans e11).trans e12) ⟨_, rfl, jo.2, by have := jo.1; omega⟩
end
end Fi
/-! The law of texts read. -/
namespace Fi
open PySem L2 Evl
section
variable {P : Program} {w : World} {K : PySem.W.Frag} {mg : Str → Option Value} {base : Heap} {C cBad cText : Addr}
def spLaw (K : PySem.W.Frag) : Sp := fun vs H Q _ => ∃ (a : Addr) (ns : List Int), vs = [.ref a] ∧ SqL K H a (ns.map V.int) ∧ ns.length ≤ 63 ∧ ∀ H', Q (.bl true) H'
theorem ok_law (B : Bi mg) (T : TreeT K mg C) (I : IsiT K C) {c : Cs} (al : Alone K c cText 3) (hM_elders : HasM P w K mg base CX0 C "elders" p_Tree_elders 1 (spElders1 C)) (hM_worths : HasM P w K mg base CX0 C "worths" p_Tree_worths 1 (spWorths1 C))
    (h_law_draw : Has P w K mg base CX0 "_law_draw" p__law_draw 2 (spDraw K)) (h_law_tree : Has P w K mg base CX0 "_law_tree" p__law_tree 4 (spPlot K)) (h_law_turned : Has P w K mg base CX0 "_law_turned" p__law_turned 1 spTurned) (h_law_due : Has P w K mg base CX0 "_law_due" p__law_due 2 spDue) (h_law_told : Has P w K mg base CX0 "_law_told" p__law_told 4 (spTold C cText)) (h_law_alone : Has P w K mg base CX0 "_law_alone" p__law_alone 1 (spAlone K c)) :
    ∀ f fd, Fun K "law" "law" s_law f fd → FnOk P w K mg base CX0 6 f fd p_law (spLaw K) := fun f fd F => by
  refine F.ok sc_law (fun vs H Q E h => ?_) (fun cdv A outer s H vs Q E hr h => ?_)
  · obtain ⟨a, ns, rfl, _⟩ := h
    rfl
  · obtain ⟨sa, ns, rfl, hS, _, q⟩ := h
    refine ⟨_, (pss_cons (ps_set (i := 1) sc_law.nd rfl (Or.inl rfl) (h_law_tree.call (hr.mono (by decide)) (by rfl) pass0 (pa_cons (pv 0) (pa_cons pe_int pa_nil))))
      (pss_cons (ps_set (i := 2) sc_law.nd rfl (Or.inl rfl) (pe_op op_add_str pe_str (pe_callTy call_str_int (by rfl) B.str (by decide +kernel) (pa_cons (pe_ix (ix_listK (K := K)) (pe_ix (ix_tupK (K := K)) (pv 1) pe_int (fun _ _ => rfl)) pe_int (fun _ _ => rfl)) pa_nil))))
      (pss_cons (ps_for PassesOwn.never rfl (pi_range1 (by rfl) B.range (pa_cons (pe_callB (call_lenK (K := K)) (by rfl) B.len PySem.boot_len (pa_cons (pe_ix (ix_tupK (K := K)) (pv 1) pe_int (fun _ _ => rfl)) pa_nil)) pa_nil)) (pg_name (i := 3) sc_law.nd rfl (Or.inl rfl)) (pss_one (ps_set (i := 2) sc_law.nd rfl (Or.inl rfl) (pe_op op_add_str (pe_op op_add_str (pe_op op_add_str (pe_op op_add_str (pv 2) pe_str) (pe_callTy call_str_int (by rfl) B.str (by decide +kernel) (pa_cons (pe_ix (ix_listK (K := K)) (pe_ix (ix_tupK (K := K)) (pv 1) pe_int (fun _ _ => rfl)) (pv 3) (fun _ _ => rfl)) pa_nil))) pe_str) (pe_callTy call_str_int (by rfl) B.str (by decide +kernel) (pa_cons (pe_ix (ix_listK (K := K)) (pe_ix (ix_tupK (K := K)) (pv 1) pe_int (fun _ _ => rfl)) (pe_op op_add (pv 3) pe_int) (fun _ _ => rfl)) pa_nil))))))
      (pss_cons (ps_set (i := 2) sc_law.nd rfl (Or.inl rfl) (h_law_turned.call (hr.mono (by decide)) (by rfl) pass0 (pa_cons (pv 2) (pa_cons (pe_op op_mod (h_law_draw.call (hr.mono (by decide)) (by rfl) pass0 (pa_cons (pv 0) (pa_cons pe_int pa_nil))) pe_int) (pa_cons (h_law_draw.call (hr.mono (by decide)) (by rfl) pass0 (pa_cons (pv 0) (pa_cons pe_int pa_nil))) pa_nil)))))
      (pss_cons (ps_set (i := 4) sc_law.nd rfl (Or.inl rfl) (h_law_due.call (hr.mono (by decide)) (by rfl) pass0 (pa_cons (pv 2) pa_nil)))
      (pss_cons (ps_for PassesOwn.never rfl (pi_range1 (by rfl) B.range (pa_cons pe_int pa_nil)) (pg_name (i := 5) sc_law.nd rfl (Or.inl rfl)) (pss_cons (ps_set (i := 6) sc_law.nd rfl (Or.inl rfl) (h_law_told.call (hr.mono (by decide)) (by rfl) pass0 (pa_cons (pv 2) pa_nil)))
        (pss_cons (ps_if (PW.pt (pw_and (pt_cmpR op_isN (pv 4) pe_non (nomark _)) (pw_and1 (pt_cmpR op_ne (h_law_alone.call (hr.mono (by decide)) (by rfl) pass0 (pa_cons (pv 6) pa_nil)) pe_int (nomark _))))) (pss_one (ps_ret pe_bl)) pss_nil)
        (pss_cons (ps_if (PW.pt (pw_and (pt_cmpR op_notN (pv 4) pe_non (nomark _)) (pw_and1 (pt_not (pt_val (pe_callB (call_isiK1 (K := K)) (by rfl) B.isinstance (by decide +kernel) (pa_cons (pv 6) (pa_cons (pe_gcls (by rfl) T.g) pa_nil)))))))) (pss_one (ps_ret pe_bl)) pss_nil)
        (pss_one (ps_if (PW.pt (pw_and (pt_cmpR op_notN (pv 4) pe_non (nomark _)) (pw_and1 (PW.pt (pw_or (pt_cmpR (op_neDK (K := K) hr.units) (hM_elders.call0 T.cl (pv 6) (hr.mono (by decide)) (by first | exact pass0 | exact passL)) (pe_ix (ix_tupK (K := K)) (pv 4) pe_int (fun _ _ => rfl)) (nomark _)) (pw_or1 (pt_cmpR (op_neDK (K := K) hr.units) (hM_worths.call0 T.cl (pv 6) (hr.mono (by decide)) (by first | exact pass0 | exact passL)) (pe_ix (ix_tupK (K := K)) (pv 4) pe_int (fun _ _ => rfl)) (nomark _)))))))) (pss_one (ps_ret pe_bl)) pss_nil))))))
      (pss_one (ps_ret pe_bl)))))))), ?_⟩
    refine q_asgP (ep_call0 (ea_cons (ev_var rfl) (ea_cons ev_c ea_nil)) (spp_some (most := 14) hS (by decide) (by decide))) fun v H1 e1 ⟨p, es, ws, ev, hP, o, _⟩ => ?_
    subst ev
    obtain ⟨pe, pw, hp, hpe, hpw⟩ := id hP
    have ol := o.len
    have om := o.most
    have sm := small_ok o
    have l2 := len_lit2
    have w0 := numT_len (sm.w 0)
    -- text
    refine q_asg (v := .str (dueTo es ws 0)) (ev_adds ev_c (ev_numT (ev_opIx (ev_opIxT (ev_var rfl) ev_c (st_of hp) rfl) ev_c (sq_of hpw) (vi_at (j := 0) rfl (getD_get (by omega)))) (sm.w 0)) (by omega)) fun H2 e2 => ?_
    refine q_forR1 (n := (es.length : Int)) (ea_cons (ev_is (ev_lenS (ev_opIxT (ev_var rfl) ev_c (st_of (e2 _ _ hp)) rfl) (sq_of (e2 _ _ hpe))) (by rw [vi_len])) ea_nil) ⟨by omega, by omega⟩
      (fun i σ' H' => ∃ v3, σ' = [some (.ref sa), some (.ref p), some (.str (dueTo es ws i)), v3, none, none, none] ∧ Ex H1 H') (fun H3 e3 => ⟨none, rfl, e2.trans e3⟩) ?_ ?_
    · rintro i σ' H' hi ⟨v3, rfl, e⟩
      have hi2 : i < es.length := by omega
      have we := numT_len (sm.e i)
      have ww := numT_len (sm.w (i + 1))
      have wd := dueTo_len sm i
      refine s_asg (v := .str (dueTo es ws (i + 1))) (ev_adds (ev_adds (ev_adds (ev_adds (ev_var rfl) ev_c (by omega)) (ev_numT (ev_opIx (ev_opIxT (ev_var rfl) ev_c (st_of (e _ _ hp)) rfl) (ev_var rfl) (sq_of (e _ _ hpe)) (vi_at (j := i) rfl (getD_get hi2))) (sm.e i)) (by rw [len_app]; omega)) ev_c (by rw [len_app, len_app]; omega))
        (ev_numT (ev_opIx (ev_opIxT (ev_var rfl) ev_c (st_of (e _ _ hp)) rfl) (ev_op (ev_var rfl) ev_c rv_I0) (sq_of (e _ _ hpw)) (vi_at (j := i + 1) (by omega) (getD_get (by omega)))) (sm.w (i + 1))) (by rw [len_app, len_app, len_app]; omega)) fun H3 e3 => ⟨_, rfl, e.trans e3⟩
    · rintro σ' H3 ⟨v3, rfl, e⟩
      rw [Int.toNat_natCast]
      have tlen := dueTo_len sm es.length
      have tasc := due_asc es ws es.length
      generalize dueTo es ws es.length = text at tlen tasc
      have hS3 := ex_l (e1.trans e) hS
      refine q_asgP (ep_call0 (vs := [.str text, .int (Fm.draw ns 91 % 9), .int (Fm.draw ns 92)]) (ea_cons (ev_var rfl) (ea_cons (ev_op (ev_call0 (ea_cons (ev_var rfl) (ea_cons ev_c ea_nil)) (spv_draw hS3 (by decide) (by decide))) ev_c (rv_I (by decide))) (ea_cons (ev_call0 (ea_cons (ev_var rfl) (ea_cons ev_c ea_nil)) (spv_draw hS3 (by decide) (by decide))) ea_nil))) (spp_turned tasc (by omega) (Fm.draw_lo ns 92))) fun v H4 e4 ⟨x, ev, xasc, xlen⟩ => ?_
      subst ev
      by_cases g : GoodR (rowsT x)
      · refine q_asgP (P := fun v H2 => ∃ t a b, v = .ref t ∧ H2 t = some (.tup [.ref a, .ref b]) ∧ H2 a = some (.lst (vi (esR (rowsT x)))) ∧ H2 b = some (.lst (vi (wsR (rowsT x))))) (ep_call0 (ea_cons (ev_var rfl) ea_nil) fun H5 e5 Q' q' E' => ⟨x, rfl, xasc, xlen, fun _ => q', fun ng => absurd g ng⟩) fun v H5 e5 ⟨t, a, b, ev, ht, ha, hb⟩ => ?_
        subst ev
        refine q_forR1 (n := 2) (ea_cons ev_c ea_nil) ⟨by decide, by decide⟩ (fun i σ' H' => ∃ v5 v6, σ' = [some (.ref sa), some (.ref p), some (.str x), v3, some (.ref t), v5, v6] ∧ Ex H5 H') (fun H6 e6 => ⟨_, _, rfl, e6⟩) ?_ ?_
        · rintro i σ' H6 hi ⟨v5, v6, rfl, e6⟩
          refine q_asgP (P := fun v H2 => TreeNew C H6 H2 v (esR (rowsT x)) (wsR (rowsT x))) (ep_call0 (ea_cons (ev_var rfl) ea_nil) fun H7 e7 Q' q' E' => ⟨x, rfl, xasc, xlen, fun _ v H8 e8 tn => q' v H8 e8 (tnBack e7 tn), fun ng => absurd g ng⟩) fun v H7 e7 tn => ?_
          obtain ⟨y, ev, TA⟩ := tn.at g.ok
          subst ev
          obtain ⟨⟨dx, fa, fu, h1, h2, h3⟩, _⟩ := id TA
          have E7 := e6.trans e7
          have noM : ∀ m : Str, ¬ m = "above" → ¬ m = "worth" → (flds fa fu).lookup m = none := fun m => flds_no fa fu
          have isn : decide (V.ref t = V.non) = false := decide_eq_false fun h => by cases h
          refine q_when (b := false && false) (et_and (et_test (ev_is (ev_opIsN (ev_var rfl)) (by rw [isn]))) fun h => no h) (fun hb => no hb) fun _ H8 e8 => ?_
          refine q_when (b := true && false) (et_and (et_test (ev_is (ev_opNotN (ev_var rfl)) (by rw [isn]; rfl))) fun _ => et_not (a := true) (et_B (ev_isiOwn I T.cl (ev_var rfl) (e8 _ _ h1)))) (fun hb => no hb) fun _ H9 e9 => ?_
          have e79 := e8.trans e9
          have E9 := E7.trans e79
          refine s_when (b := true && (false || false)) (et_and (et_test (ev_is (ev_opNotN (ev_var rfl)) (by rw [isn]; rfl))) fun _ => et_or (a := false) (b := false)
            (et_test (ev_is (ev_opL1 (el_meth (ev_var rfl) (e79 _ _ h1) (noM _ (by decide +kernel) (by decide +kernel)) ea_nil (spl_elders1 (TA.mono e79))) (fun H10 e10 => ev_opIxT (ev_var rfl) ev_c (st_of (e10 _ _ (E9 _ _ ht))) rfl) fun pl H10 hpl e10 => rv_neI (sq_of hpl) (sq_of (e10 _ _ (E9 _ _ ha)))) (by simp)))
            fun _ => et_test (ev_is (ev_opL1 (el_meth (ev_var rfl) (e79 _ _ h1) (noM _ (by decide +kernel) (by decide +kernel)) ea_nil (spl_worths1 (TA.mono e79))) (fun H10 e10 => ev_opIxT (ev_var rfl) ev_c (st_of (e10 _ _ (E9 _ _ ht))) rfl) fun pl H10 hpl e10 => rv_neI (sq_of hpl) (sq_of (e10 _ _ (E9 _ _ hb)))) (by simp))) (fun hb => no hb) fun _ H10 e10 => ⟨_, _, rfl, E9.trans e10⟩
        · rintro σ' H6 ⟨v5, v6, rfl, e6⟩
          exact s_ret ev_c fun H7 e7 => q H7
      · refine q_asg (v := .non) (ev_call0 (ea_cons (ev_var rfl) ea_nil) fun H5 e5 Q' q' E' => ⟨x, rfl, xasc, xlen, fun g' => absurd g' g, fun _ => q'⟩) fun H5 e5 => ?_
        refine q_forR1 (n := 2) (ea_cons ev_c ea_nil) ⟨by decide, by decide⟩ (fun i σ' H' => ∃ v5 v6, σ' = [some (.ref sa), some (.ref p), some (.str x), v3, some .non, v5, v6]) (fun H6 e6 => ⟨_, _, rfl⟩) ?_ ?_
        · rintro i σ' H6 hi ⟨v5, v6, rfl⟩
          refine q_asgP (P := fun v H2 => ∃ a, v = .ref a ∧ H2 a = some (ExV (.ref cText) a)) (ep_call0 (ea_cons (ev_var rfl) ea_nil) fun H7 e7 Q' q' E' => ⟨x, rfl, xasc, xlen, fun g' => absurd g' g, fun _ => q'⟩) fun v H7 e7 ⟨a, ev, ha⟩ => ?_
          subst ev
          refine q_when (b := true && false) (et_and (et_test (ev_is (ev_opIsN (ev_var rfl)) (by simp))) fun _ => et_test (ev_is (ev_op (x := .int ((3 : Nat) : Int)) (ev_call0 (ea_cons (ev_var rfl) ea_nil) (spv_alone ha al)) ev_c (rv_ne rfl)) (by rfl))) (fun hb => no hb) fun _ H8 e8 => ?_
          refine q_when (b := false && false) (et_and (et_test (ev_is (ev_opNotN (ev_var rfl)) (by simp))) fun h => no h) (fun hb => no hb) fun _ H9 e9 => ?_
          exact s_when (b := false && false) (et_and (et_test (ev_is (ev_opNotN (ev_var rfl)) (by simp))) fun h => no h) (fun hb => no hb) fun _ H10 e10 => ⟨_, _, rfl⟩
        · rintro σ' H6 ⟨v5, v6, rfl⟩
          exact s_ret ev_c fun H7 e7 => q H7
theorem chain (B : Bi mg) (T : TreeT K mg C) {t1 t2 t3 : Tok} (cM : mg "MOST" = some (.int 14 t1)) (cW : mg "WORTHS" = some (.int 1000 t2)) (cF : mg "FIGURES" = some (.str "0123456789" t3)) (eB : Err K mg "BadTree" cBad) (eT : Err K mg "NoText" cText) (I : IsiT K C)
    {c : Cs} (G : Gs mg c) (xT : PySem.W.exmOne K (.ref cText) (.ref c.fire) = some true) (al : Alone K c cText 3) (xB : PySem.W.exmOne K (.ref cBad) (.ref cBad) = some true)
    (D6 : AtI K C "Tree.__init__" s_Tree___init__ p_Tree___init__) (De : AtM K C "elders" "Tree.elders" s_Tree_elders p_Tree_elders) (Dw : AtM K C "worths" "Tree.worths" s_Tree_worths p_Tree_worths)
    (D9 : At K mg "number_of" s_number_of p_number_of) (D10 : At K mg "read" s_read p_read)
    (D12 : At K mg "_law_cell_at" s__law_cell_at p__law_cell_at) (D13 : At K mg "_law_draw" s__law_draw p__law_draw) (D15 : At K mg "_law_elders" s__law_elders p__law_elders) (D16 : At K mg "_law_tree" s__law_tree p__law_tree)
    (D17 : At K mg "_law_alone" s__law_alone p__law_alone) (D18 : At K mg "_law_turned" s__law_turned p__law_turned) (D19 : At K mg "_law_number" s__law_number p__law_number) (D20 : At K mg "_law_due" s__law_due p__law_due) (D21 : At K mg "_law_told" s__law_told p__law_told) : ∀ f fd, Fun K "law" "law" s_law f fd → FnOk P w K mg base CX0 6 f fd p_law (spLaw K) := by
  have ce := has_cell (P := P) (w := w) (base := base) B D12
  have d := has_draw D13 ce
  have el := has_elders B D15 d
  have pl := has_plot B D16 d el
  have ini := has_initN (P := P) (w := w) (base := base) B T cM cW eB D6
  have e1 := has_elders1 (P := P) (w := w) (base := base) B T De
  have w1 := has_worths1 (P := P) (w := w) (base := base) B T Dw
  have nu := has_num (P := P) (w := w) (base := base) B cF eT D9
  have rd := has_read B T nu ini eT eB.g xB D10
  have ln := has_lnum (P := P) (w := w) (base := base) B D19
  have du := has_due B ln D20
  have tu := has_turned (P := P) (w := w) (base := base) B D18
  have to_ := has_told G.fire xT rd D21
  have ao := has_alone (P := P) (w := w) (base := base) B G D17
  exact ok_law B T I al e1 w1 d pl tu du to_ ao
end
end Fi
namespace Fi
open PySem L2 Evl
theorem all_mk {l : PySem.W.OpenLaw} {w : World} {K : PySem.W.Frag} {h : Heap} {mg : Str → Option Value} {fa : Addr} (X : K.In h) (G : h.Ns mainGlobals mg) (hfa : mg "law" = some (.ref fa))
    {C : Addr}
    {tk0 : Tok}
    {tk1 : Tok}
    {tk2 : Tok}
    {E_BadTree : Addr}
    {E_NoText : Addr}
    {E_FireError : Addr}
    {E_NoThing : Addr}
    {E_BadPlan : Addr}
    {f1 : Addr} {od1 an1 : Option Addr} {sl1 : Array (Option Value)} {oc1 kV1 dc1 pm1 cd1 ct1 : Value}
    {f2 : Addr} {od2 an2 : Option Addr} {sl2 : Array (Option Value)} {oc2 kV2 dc2 pm2 cd2 ct2 : Value}
    {f3 : Addr} {od3 an3 : Option Addr} {sl3 : Array (Option Value)} {oc3 kV3 dc3 pm3 cd3 ct3 : Value}
    {f9 : Addr} {od9 an9 : Option Addr} {sl9 : Array (Option Value)} {oc9 kV9 dc9 pm9 cd9 ct9 : Value}
    {f10 : Addr} {od10 an10 : Option Addr} {sl10 : Array (Option Value)} {oc10 kV10 dc10 pm10 cd10 ct10 : Value}
    {f11 : Addr} {od11 an11 : Option Addr} {sl11 : Array (Option Value)} {oc11 kV11 dc11 pm11 cd11 ct11 : Value}
    {f12 : Addr} {od12 an12 : Option Addr} {sl12 : Array (Option Value)} {oc12 kV12 dc12 pm12 cd12 ct12 : Value}
    {f13 : Addr} {od13 an13 : Option Addr} {sl13 : Array (Option Value)} {oc13 kV13 dc13 pm13 cd13 ct13 : Value}
    {f14 : Addr} {od14 an14 : Option Addr} {sl14 : Array (Option Value)} {oc14 kV14 dc14 pm14 cd14 ct14 : Value}
    {f15 : Addr} {od15 an15 : Option Addr} {sl15 : Array (Option Value)} {oc15 kV15 dc15 pm15 cd15 ct15 : Value}
    {f16 : Addr} {od16 an16 : Option Addr} {sl16 : Array (Option Value)} {oc16 kV16 dc16 pm16 cd16 ct16 : Value}
    {f17 : Addr} {od17 an17 : Option Addr} {sl17 : Array (Option Value)} {oc17 kV17 dc17 pm17 cd17 ct17 : Value}
    {f18 : Addr} {od18 an18 : Option Addr} {sl18 : Array (Option Value)} {oc18 kV18 dc18 pm18 cd18 ct18 : Value}
    {f19 : Addr} {od19 an19 : Option Addr} {sl19 : Array (Option Value)} {oc19 kV19 dc19 pm19 cd19 ct19 : Value}
    {f20 : Addr} {od20 an20 : Option Addr} {sl20 : Array (Option Value)} {oc20 kV20 dc20 pm20 cd20 ct20 : Value}
    (z1 : PySem.W.nsIn K mainGlobals "len" = some none)
    (z2 : PySem.W.nsIn K mainGlobals "range" = some none)
    (z3 : PySem.W.nsIn K mainGlobals "list" = some none)
    (z4 : PySem.W.nsIn K mainGlobals "sum" = some none)
    (z5 : PySem.W.nsIn K mainGlobals "max" = some none)
    (z6 : PySem.W.nsIn K mainGlobals "min" = some none)
    (z7 : PySem.W.nsIn K mainGlobals "isinstance" = some none)
    (z8 : PySem.W.nsIn K mainGlobals "int" = some none)
    (z9 : PySem.W.nsIn K mainGlobals "bool" = some none)
    (z10 : PySem.W.nsIn K mainGlobals "str" = some none)
    (z11 : PySem.W.nsIn K mainGlobals "tuple" = some none)
    (z12 : PySem.W.nsIn K mainGlobals "enumerate" = some none)
    (z13 : PySem.W.nsIn K mainGlobals "ValueError" = some none)
    (aC : PySem.W.nsIn K mainGlobals "Tree" = some (some (.ref C)))
    (pg : PySem.W.plainGet K C Str.empty = true)
    (hd : PySem.W.hasDictIn K C = true)
    (po : PySem.W.plainOver K C = true)
    (sa : PySem.W.findIn K (.ref C) "__setattr__" = some (some (.builtin "object.__setattr__")))
    (mk : PySem.W.makesIn K C = true)
    (kc : PySem.W.keepIn K (.ref C) = true)
    (nA : PySem.W.findIn K (.ref C) "above" = some none)
    (nW : PySem.W.findIn K (.ref C) "worth" = some none)
    (k_MOST : PySem.W.nsIn K mainGlobals "MOST" = some (some (.int 14 tk0)))
    (k_WORTHS : PySem.W.nsIn K mainGlobals "WORTHS" = some (some (.int 1000 tk1)))
    (k_FIGURES : PySem.W.nsIn K mainGlobals "FIGURES" = some (some (.str "0123456789" tk2)))
    (ea_BadTree : PySem.W.nsIn K mainGlobals "BadTree" = some (some (.ref E_BadTree)))
    (eq_BadTree : PySem.W.excIn K E_BadTree [.type "ValueError", .type "Exception", .type "BaseException", .type "object"] "ValueError.__new__" = true)
    (ek_BadTree : PySem.W.keepIn K (.ref E_BadTree) = true)
    (eb_BadTree : PySem.W.subIn K (.ref E_BadTree) (.type "BaseException") = some true)
    (et_BadTree : PySem.W.typeIn K (.ref E_BadTree) = some (.type "type"))
    (ea_NoText : PySem.W.nsIn K mainGlobals "NoText" = some (some (.ref E_NoText)))
    (eq_NoText : PySem.W.excIn K E_NoText [.type "ValueError", .type "Exception", .type "BaseException", .type "object"] "ValueError.__new__" = true)
    (ek_NoText : PySem.W.keepIn K (.ref E_NoText) = true)
    (eb_NoText : PySem.W.subIn K (.ref E_NoText) (.type "BaseException") = some true)
    (et_NoText : PySem.W.typeIn K (.ref E_NoText) = some (.type "type"))
    (ia_Tree : PySem.W.findIn K (.ref C) "__class__" = some (some (.builtin "object.__class__")))
    (in_Tree : PySem.W.specialIn K (.builtin "object.__class__") "__get__" = some (some (.builtin "getset_descriptor.__get__")))
    (it_Tree : PySem.W.takesIn K (.builtin "object.__class__") = some true)
    (im_Tree : PySem.W.mroIn K C (.type "object") = some true)
    (ea_FireError : PySem.W.nsIn K mainGlobals "FireError" = some (some (.ref E_FireError)))
    (et_FireError : PySem.W.typeIn K (.ref E_FireError) = some (.type "type"))
    (eb_FireError : PySem.W.subIn K (.ref E_FireError) (.type "BaseException") = some true)
    (ei_FireError : PySem.W.isClsIn K E_FireError = true)
    (ei_BadTree : PySem.W.isClsIn K E_BadTree = true)
    (ea_NoThing : PySem.W.nsIn K mainGlobals "NoThing" = some (some (.ref E_NoThing)))
    (et_NoThing : PySem.W.typeIn K (.ref E_NoThing) = some (.type "type"))
    (eb_NoThing : PySem.W.subIn K (.ref E_NoThing) (.type "BaseException") = some true)
    (ei_NoThing : PySem.W.isClsIn K E_NoThing = true)
    (ea_BadPlan : PySem.W.nsIn K mainGlobals "BadPlan" = some (some (.ref E_BadPlan)))
    (et_BadPlan : PySem.W.typeIn K (.ref E_BadPlan) = some (.type "type"))
    (eb_BadPlan : PySem.W.subIn K (.ref E_BadPlan) (.type "BaseException") = some true)
    (ei_BadPlan : PySem.W.isClsIn K E_BadPlan = true)
    (ei_NoText : PySem.W.isClsIn K E_NoText = true)
    (fd_Fire : PySem.W.hasDictIn K E_FireError = true)
    (xn : PySem.W.specialIn K (.builtin "object.__class__") "__get__" = some (some (.builtin "getset_descriptor.__get__")))
    (xt : PySem.W.takesIn K (.builtin "object.__class__") = some true)
    (xg_NoText : PySem.W.findIn K (.ref E_NoText) "__getattribute__" = some (some (.builtin "BaseException.__getattribute__")))
    (xk_NoText : PySem.W.findIn K (.ref E_NoText) "__getattr__" = some none)
    (xd_NoText : PySem.W.hasDictIn K E_NoText = true)
    (xa_NoText : PySem.W.findIn K (.ref E_NoText) "__class__" = some (some (.builtin "object.__class__")))
    (xm_NoText : PySem.W.mroIn K E_NoText (.type "object") = some true)
    (sb_NoText_FireError : PySem.W.subIn K (.ref E_NoText) (.ref E_FireError) = some true)
    (sb_NoText_BadTree : PySem.W.subIn K (.ref E_NoText) (.ref E_BadTree) = some false)
    (sb_NoText_NoThing : PySem.W.subIn K (.ref E_NoText) (.ref E_NoThing) = some false)
    (sb_NoText_BadPlan : PySem.W.subIn K (.ref E_NoText) (.ref E_BadPlan) = some false)
    (sb_NoText_NoText : PySem.W.subIn K (.ref E_NoText) (.ref E_NoText) = some true)
    (sv_NoText : PySem.W.subIn K (.ref E_NoText) (.type "ValueError") = some true)
    (sd_BadTree : PySem.W.hasDictIn K E_BadTree = true)
    (ss_BadTree : PySem.W.subIn K (.ref E_BadTree) (.ref E_BadTree) = some true)
    (a1 : PySem.W.findIn K (.ref C) "__init__" = some (some (.ref f1)))
    (i1 : PySem.W.isFn K (.ref f1) = true)
    (l1 : K.lookup f1 = some ⟨oc1, od1, .func (PySem.W.fnOf "__init__" "Tree.__init__" (defArgs s_Tree___init__) (defBody s_Tree___init__) (defScope s_Tree___init__) .none kV1 dc1 pm1 an1 cd1 ct1), sl1⟩)
    (c1 : PySem.W.codeIn K cd1 "Tree.__init__" = true)
    (k1 : PySem.W.keepIn K (.ref f1) = true)
    (a2 : PySem.W.findIn K (.ref C) "elders" = some (some (.ref f2)))
    (i2 : PySem.W.isFn K (.ref f2) = true)
    (l2 : K.lookup f2 = some ⟨oc2, od2, .func (PySem.W.fnOf "elders" "Tree.elders" (defArgs s_Tree_elders) (defBody s_Tree_elders) (defScope s_Tree_elders) .none kV2 dc2 pm2 an2 cd2 ct2), sl2⟩)
    (c2 : PySem.W.codeIn K cd2 "Tree.elders" = true)
    (k2 : PySem.W.keepIn K (.ref f2) = true)
    (a3 : PySem.W.findIn K (.ref C) "worths" = some (some (.ref f3)))
    (i3 : PySem.W.isFn K (.ref f3) = true)
    (l3 : K.lookup f3 = some ⟨oc3, od3, .func (PySem.W.fnOf "worths" "Tree.worths" (defArgs s_Tree_worths) (defBody s_Tree_worths) (defScope s_Tree_worths) .none kV3 dc3 pm3 an3 cd3 ct3), sl3⟩)
    (c3 : PySem.W.codeIn K cd3 "Tree.worths" = true)
    (k3 : PySem.W.keepIn K (.ref f3) = true)
    (a9 : PySem.W.nsIn K mainGlobals "number_of" = some (some (.ref f9)))
    (l9 : K.lookup f9 = some ⟨oc9, od9, .func (PySem.W.fnOf "number_of" "number_of" (defArgs s_number_of) (defBody s_number_of) (defScope s_number_of) .none kV9 dc9 pm9 an9 cd9 ct9), sl9⟩)
    (c9 : PySem.W.codeIn K cd9 "number_of" = true)
    (k9 : PySem.W.keepIn K (.ref f9) = true)
    (a10 : PySem.W.nsIn K mainGlobals "read" = some (some (.ref f10)))
    (l10 : K.lookup f10 = some ⟨oc10, od10, .func (PySem.W.fnOf "read" "read" (defArgs s_read) (defBody s_read) (defScope s_read) .none kV10 dc10 pm10 an10 cd10 ct10), sl10⟩)
    (c10 : PySem.W.codeIn K cd10 "read" = true)
    (k10 : PySem.W.keepIn K (.ref f10) = true)
    (a11 : PySem.W.nsIn K mainGlobals "_law_cell_at" = some (some (.ref f11)))
    (l11 : K.lookup f11 = some ⟨oc11, od11, .func (PySem.W.fnOf "_law_cell_at" "_law_cell_at" (defArgs s__law_cell_at) (defBody s__law_cell_at) (defScope s__law_cell_at) .none kV11 dc11 pm11 an11 cd11 ct11), sl11⟩)
    (c11 : PySem.W.codeIn K cd11 "_law_cell_at" = true)
    (k11 : PySem.W.keepIn K (.ref f11) = true)
    (a12 : PySem.W.nsIn K mainGlobals "_law_draw" = some (some (.ref f12)))
    (l12 : K.lookup f12 = some ⟨oc12, od12, .func (PySem.W.fnOf "_law_draw" "_law_draw" (defArgs s__law_draw) (defBody s__law_draw) (defScope s__law_draw) .none kV12 dc12 pm12 an12 cd12 ct12), sl12⟩)
    (c12 : PySem.W.codeIn K cd12 "_law_draw" = true)
    (k12 : PySem.W.keepIn K (.ref f12) = true)
    (a13 : PySem.W.nsIn K mainGlobals "_law_elders" = some (some (.ref f13)))
    (l13 : K.lookup f13 = some ⟨oc13, od13, .func (PySem.W.fnOf "_law_elders" "_law_elders" (defArgs s__law_elders) (defBody s__law_elders) (defScope s__law_elders) .none kV13 dc13 pm13 an13 cd13 ct13), sl13⟩)
    (c13 : PySem.W.codeIn K cd13 "_law_elders" = true)
    (k13 : PySem.W.keepIn K (.ref f13) = true)
    (a14 : PySem.W.nsIn K mainGlobals "_law_tree" = some (some (.ref f14)))
    (l14 : K.lookup f14 = some ⟨oc14, od14, .func (PySem.W.fnOf "_law_tree" "_law_tree" (defArgs s__law_tree) (defBody s__law_tree) (defScope s__law_tree) .none kV14 dc14 pm14 an14 cd14 ct14), sl14⟩)
    (c14 : PySem.W.codeIn K cd14 "_law_tree" = true)
    (k14 : PySem.W.keepIn K (.ref f14) = true)
    (a15 : PySem.W.nsIn K mainGlobals "_law_alone" = some (some (.ref f15)))
    (l15 : K.lookup f15 = some ⟨oc15, od15, .func (PySem.W.fnOf "_law_alone" "_law_alone" (defArgs s__law_alone) (defBody s__law_alone) (defScope s__law_alone) .none kV15 dc15 pm15 an15 cd15 ct15), sl15⟩)
    (c15 : PySem.W.codeIn K cd15 "_law_alone" = true)
    (k15 : PySem.W.keepIn K (.ref f15) = true)
    (a16 : PySem.W.nsIn K mainGlobals "_law_turned" = some (some (.ref f16)))
    (l16 : K.lookup f16 = some ⟨oc16, od16, .func (PySem.W.fnOf "_law_turned" "_law_turned" (defArgs s__law_turned) (defBody s__law_turned) (defScope s__law_turned) .none kV16 dc16 pm16 an16 cd16 ct16), sl16⟩)
    (c16 : PySem.W.codeIn K cd16 "_law_turned" = true)
    (k16 : PySem.W.keepIn K (.ref f16) = true)
    (a17 : PySem.W.nsIn K mainGlobals "_law_number" = some (some (.ref f17)))
    (l17 : K.lookup f17 = some ⟨oc17, od17, .func (PySem.W.fnOf "_law_number" "_law_number" (defArgs s__law_number) (defBody s__law_number) (defScope s__law_number) .none kV17 dc17 pm17 an17 cd17 ct17), sl17⟩)
    (c17 : PySem.W.codeIn K cd17 "_law_number" = true)
    (k17 : PySem.W.keepIn K (.ref f17) = true)
    (a18 : PySem.W.nsIn K mainGlobals "_law_due" = some (some (.ref f18)))
    (l18 : K.lookup f18 = some ⟨oc18, od18, .func (PySem.W.fnOf "_law_due" "_law_due" (defArgs s__law_due) (defBody s__law_due) (defScope s__law_due) .none kV18 dc18 pm18 an18 cd18 ct18), sl18⟩)
    (c18 : PySem.W.codeIn K cd18 "_law_due" = true)
    (k18 : PySem.W.keepIn K (.ref f18) = true)
    (a19 : PySem.W.nsIn K mainGlobals "_law_told" = some (some (.ref f19)))
    (l19 : K.lookup f19 = some ⟨oc19, od19, .func (PySem.W.fnOf "_law_told" "_law_told" (defArgs s__law_told) (defBody s__law_told) (defScope s__law_told) .none kV19 dc19 pm19 an19 cd19 ct19), sl19⟩)
    (c19 : PySem.W.codeIn K cd19 "_law_told" = true)
    (k19 : PySem.W.keepIn K (.ref f19) = true)
    (a20 : PySem.W.nsIn K mainGlobals "law" = some (some (.ref f20)))
    (l20 : K.lookup f20 = some ⟨oc20, od20, .func (PySem.W.fnOf "law" "law" (defArgs s_law) (defBody s_law) (defScope s_law) .none kV20 dc20 pm20 an20 cd20 ct20), sl20⟩)
    (c20 : PySem.W.codeIn K cd20 "law" = true)
    (k20 : PySem.W.keepIn K (.ref f20) = true)
    : ∃ fd : FuncData, (∀ (s : Shared) (v : Value), BindsTo s fd ⟨[v], []⟩ [("script", v)]) ∧ ∀ base : Heap, K.In base → base.Ns mainGlobals mg → FnOk l.prog w K mg base CX0 6 fa fd ["script"] (spLaw K) := by
  have e := hfa.symm.trans (PySem.W.mg_of X G a20)
  cases e
  exact ⟨PySem.W.fnOf "law" "law" (defArgs s_law) (defBody s_law) (defScope s_law) .none kV20 dc20 pm20 an20 cd20 ct20, fun s v => .of_eq rfl, fun base _ _ => chain (bi_mk X G z1 z2 z3 z4 z5 z6 z7 z8 z9 z10 z11 z12 z13) ⟨⟨pg, hd, po, sa⟩, nA, nW, PySem.W.mg_of X G aC⟩ (PySem.W.mg_of X G k_MOST) (PySem.W.mg_of X G k_WORTHS) (PySem.W.mg_of X G k_FIGURES) (err_mk X G ea_BadTree eq_BadTree ek_BadTree eb_BadTree et_BadTree) (err_mk X G ea_NoText eq_NoText ek_NoText eb_NoText et_NoText) ⟨ia_Tree, in_Tree, it_Tree, im_Tree⟩ (c := ⟨E_FireError, E_BadTree, E_NoThing, E_BadPlan, E_NoText⟩) ⟨PySem.W.mg_of X G ea_FireError, PySem.W.mg_of X G ea_BadTree, PySem.W.mg_of X G ea_NoThing, PySem.W.mg_of X G ea_BadPlan, PySem.W.mg_of X G ea_NoText⟩ (PySem.W.exm_ref eb_FireError fd_Fire et_FireError sb_NoText_FireError) ⟨by decide, ⟨xg_NoText, xk_NoText, eb_NoText, xd_NoText, xa_NoText, xn, xt, xm_NoText⟩, kit_ref ei_BadTree et_BadTree sb_NoText_BadTree sb_NoText_NoText, kit_ref ei_NoThing et_NoThing sb_NoText_NoThing sb_NoText_NoText, kit_ref ei_BadPlan et_BadPlan sb_NoText_BadPlan sb_NoText_NoText, kit_ref ei_NoText et_NoText sb_NoText_NoText sb_NoText_NoText, kit_ref ei_FireError et_FireError sb_NoText_FireError sb_NoText_NoText, kit_ve sv_NoText⟩ (PySem.W.exm_ref eb_BadTree sd_BadTree et_BadTree ss_BadTree) (ati_mk a1 i1 l1 c1 k1 mk kc bd_Tree___init__) (atm_mk a2 i2 l2 c2 k2 bd_Tree_elders) (atm_mk a3 i3 l3 c3 k3 bd_Tree_worths) (at_mk X G a9 l9 c9 k9 bd_number_of) (at_mk X G a10 l10 c10 k10 bd_read) (at_mk X G a11 l11 c11 k11 bd__law_cell_at) (at_mk X G a12 l12 c12 k12 bd__law_draw) (at_mk X G a13 l13 c13 k13 bd__law_elders) (at_mk X G a14 l14 c14 k14 bd__law_tree) (at_mk X G a15 l15 c15 k15 bd__law_alone) (at_mk X G a16 l16 c16 k16 bd__law_turned) (at_mk X G a17 l17 c17 k17 bd__law_number) (at_mk X G a18 l18 c18 k18 bd__law_due) (at_mk X G a19 l19 c19 k19 bd__law_told) _ _ (fun_mk l20 c20 k20)⟩
theorem walk {l : PySem.W.OpenLaw} {q : Program} {loose : List Str} {XP : (Str → Option Value) → Heap → Prop} {YP : World → Heap → Prop} {d : DefRec} {K : Params → PySem.W.Frag} (hn : l.most = some 63) (hdf : d.params.defaults = [])
    (hY : ∀ (w : World) (h : Heap), YP w h → (K w.params).In h)
    (F : ∀ (w : World) (mg : Str → Option Value) (fa : Addr) (h : Heap), (K w.params).In h → h.Ns mainGlobals mg → mg d.name = some (.ref fa) →
      ∃ fd : FuncData, (∀ (s : Shared) (u : Value), BindsTo s fd ⟨[u], []⟩ [("script", u)]) ∧ ∀ base : Heap, (K w.params).In base → base.Ns mainGlobals mg → FnOk l.prog w (K w.params) mg base CX0 6 fa fd ["script"] (spLaw (K w.params))) :
    PySem.W.WalkO q loose XP YP l.row.toRowW d [] (fun f vs => PySem.call f vs) :=
  L2.walk_of (n := 63) (k := 6) (x := "script") (CX := fun _ => CX0) (sp := fun w => spLaw (K w.params)) hn (by decide) hdf ⟨rfl, by decide, by decide⟩ hY F (fun _ _ a ns hl _ hS => ⟨a, ns, rfl, hS, hl, fun _ => rfl⟩) fun _ _ _ _ _ z => z
end Fi
open PySem PySem.W PyProof.Rows
set_option maxRecDepth 100000 in
set_option maxHeartbeats 0 in
theorem PySem.Challenge.cw_firetree_k08_texts_read_holds : PySem.Challenge.rw_firetree_k08_texts_read.Holds := by
  w_on; o_law; k_head; (case hw => w_witness2)
  k_fill
  refine Fi.walk (l := PySem.Challenge.rw_firetree_k08_texts_read) rfl rfl (fun w h Y => PySem.W.kIn_of Y) ?F
  case F =>
    intro w mg fa h KX G hmg
    refine' Fi.all_mk KX G hmg ?z1 ?z2 ?z3 ?z4 ?z5 ?z6 ?z7 ?z8 ?z9 ?z10 ?z11 ?z12 ?z13 ?aC ?pg ?hd ?po ?sa ?mk ?kc ?nA ?nW ?k_MOST ?k_WORTHS ?k_FIGURES ?ea_BadTree ?eq_BadTree ?ek_BadTree ?eb_BadTree ?et_BadTree ?ea_NoText ?eq_NoText ?ek_NoText ?eb_NoText ?et_NoText ?ia_Tree ?in_Tree ?it_Tree ?im_Tree ?ea_FireError ?et_FireError ?eb_FireError ?ei_FireError ?ei_BadTree ?ea_NoThing ?et_NoThing ?eb_NoThing ?ei_NoThing ?ea_BadPlan ?et_BadPlan ?eb_BadPlan ?ei_BadPlan ?ei_NoText ?fd_Fire ?xn ?xt ?xg_NoText ?xk_NoText ?xd_NoText ?xa_NoText ?xm_NoText ?sb_NoText_FireError ?sb_NoText_BadTree ?sb_NoText_NoThing ?sb_NoText_BadPlan ?sb_NoText_NoText ?sv_NoText ?sd_BadTree ?ss_BadTree ?a1 ?i1 ?l1 ?c1 ?k1 ?a2 ?i2 ?l2 ?c2 ?k2 ?a3 ?i3 ?l3 ?c3 ?k3 ?a9 ?l9 ?c9 ?k9 ?a10 ?l10 ?c10 ?k10 ?a11 ?l11 ?c11 ?k11 ?a12 ?l12 ?c12 ?k12 ?a13 ?l13 ?c13 ?k13 ?a14 ?l14 ?c14 ?k14 ?a15 ?l15 ?c15 ?k15 ?a16 ?l16 ?c16 ?k16 ?a17 ?l17 ?c17 ?k17 ?a18 ?l18 ?c18 ?k18 ?a19 ?l19 ?c19 ?k19 ?a20 ?l20 ?c20 ?k20
    (case z1 => k_is)
    (case z2 => k_is)
    (case z3 => k_is)
    (case z4 => k_is)
    (case z5 => k_is)
    (case z6 => k_is)
    (case z7 => k_is)
    (case z8 => k_is)
    (case z9 => k_is)
    (case z10 => k_is)
    (case z11 => k_is)
    (case z12 => k_is)
    (case z13 => k_is)
    (case aC => k_is)
    (case pg => k_is)
    (case hd => k_is)
    (case po => k_is)
    (case sa => k_is)
    (case mk => k_is)
    (case kc => k_is)
    (case nA => k_is)
    (case nW => k_is)
    (case k_MOST => k_is)
    (case k_WORTHS => k_is)
    (case k_FIGURES => k_is)
    (case ea_BadTree => k_is)
    (case eq_BadTree => k_exc)
    (case ek_BadTree => k_is)
    (case eb_BadTree => k_is)
    (case et_BadTree => k_is)
    (case ea_NoText => k_is)
    (case eq_NoText => k_exc)
    (case ek_NoText => k_is)
    (case eb_NoText => k_is)
    (case et_NoText => k_is)
    (case ia_Tree => k_is)
    (case in_Tree => k_is)
    (case it_Tree => k_is)
    (case im_Tree => k_is)
    (case ea_FireError => k_is)
    (case et_FireError => k_is)
    (case eb_FireError => k_is)
    (case ei_FireError => k_is)
    (case ei_BadTree => k_is)
    (case ea_NoThing => k_is)
    (case et_NoThing => k_is)
    (case eb_NoThing => k_is)
    (case ei_NoThing => k_is)
    (case ea_BadPlan => k_is)
    (case et_BadPlan => k_is)
    (case eb_BadPlan => k_is)
    (case ei_BadPlan => k_is)
    (case ei_NoText => k_is)
    (case fd_Fire => k_is)
    (case xn => k_is)
    (case xt => k_is)
    (case xg_NoText => k_is)
    (case xk_NoText => k_is)
    (case xd_NoText => k_is)
    (case xa_NoText => k_is)
    (case xm_NoText => k_is)
    (case sb_NoText_FireError => k_is)
    (case sb_NoText_BadTree => k_is)
    (case sb_NoText_NoThing => k_is)
    (case sb_NoText_BadPlan => k_is)
    (case sb_NoText_NoText => k_is)
    (case sv_NoText => k_is)
    (case sd_BadTree => k_is)
    (case ss_BadTree => k_is)
    (case a1 => k_is)
    (case i1 => k_is)
    (case l1 => k_is)
    (case c1 => k_is)
    (case k1 => k_is)
    (case a2 => k_is)
    (case i2 => k_is)
    (case l2 => k_is)
    (case c2 => k_is)
    (case k2 => k_is)
    (case a3 => k_is)
    (case i3 => k_is)
    (case l3 => k_is)
    (case c3 => k_is)
    (case k3 => k_is)
    (case a9 => k_is)
    (case l9 => k_is)
    (case c9 => k_is)
    (case k9 => k_is)
    (case a10 => k_is)
    (case l10 => k_is)
    (case c10 => k_is)
    (case k10 => k_is)
    (case a11 => k_is)
    (case l11 => k_is)
    (case c11 => k_is)
    (case k11 => k_is)
    (case a12 => k_is)
    (case l12 => k_is)
    (case c12 => k_is)
    (case k12 => k_is)
    (case a13 => k_is)
    (case l13 => k_is)
    (case c13 => k_is)
    (case k13 => k_is)
    (case a14 => k_is)
    (case l14 => k_is)
    (case c14 => k_is)
    (case k14 => k_is)
    (case a15 => k_is)
    (case l15 => k_is)
    (case c15 => k_is)
    (case k15 => k_is)
    (case a16 => k_is)
    (case l16 => k_is)
    (case c16 => k_is)
    (case k16 => k_is)
    (case a17 => k_is)
    (case l17 => k_is)
    (case c17 => k_is)
    (case k17 => k_is)
    (case a18 => k_is)
    (case l18 => k_is)
    (case c18 => k_is)
    (case k18 => k_is)
    (case a19 => k_is)
    (case l19 => k_is)
    (case c19 => k_is)
    (case k19 => k_is)
    (case a20 => k_is)
    (case l20 => k_is)
    (case c20 => k_is)
    (case k20 => k_is)
#print axioms PySem.Challenge.cw_firetree_k08_texts_read_holds
