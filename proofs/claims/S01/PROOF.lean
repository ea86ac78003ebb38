import PyProof.Rows.All
import Wide.All
import OpenK.AllK
import Wide.FinOn
import Open.SpecLaws
import KE.OsGo
import HandS.ForSpec
import HandS.Comp
import HandS.Iter
import HandS.NoneIn
import HandS.CallLocal
import PyCl02
import PySem.Challenge.RW_placeclocks_s01_answers
set_option Elab.async false
set_option linter.all false
set_option maxRecDepth 100000
set_option maxHeartbeats 4000000
/-! The program's defs as total functions on whole numbers and lists; nothing here speaks of Python. -/
namespace Pc
/-- a decree: since, offset, more, begins, ends -/
structure D where
  since : Int
  offset : Int
  more : Int
  begins : List Int
  ends : List Int
def isMoment (n : Int) : Bool := decide (0 ≤ n) && decide (n < 52596000)
def isOffset (n : Int) : Bool := decide (-840 ≤ n) && decide (n ≤ 840)
def lengths : List Int := [31, 28, 31, 30, 31, 30, 31, 31, 30, 31, 30, 31]
def yearStart (y : Int) : Int := 365 * y + (y + 3) / 4
def yearOf (d : Int) : Int := if d % 1461 < 366 then 4 * (d / 1461) else 4 * (d / 1461) + 1 + (d % 1461 - 366) / 365
def monthLength (y m : Int) : Int := if m = 2 ∧ y % 4 = 0 then 29 else lengths.getD (m - 1).toNat 0
/-- the first day of the month behind n months of the year -/
def monthsOn (y : Int) : Nat → Int
  | 0 => yearStart y
  | n + 1 => monthsOn y n + monthLength y (1 + (n : Int))
def monthStart (y m : Int) : Int := monthsOn y (m - 1).toNat
/-- month_of's loop behind n turns -/
def monthUpto (d : Int) : Nat → Int
  | 0 => 1
  | n + 1 => if monthStart (yearOf d) (2 + (n : Int)) ≤ d then 2 + (n : Int) else monthUpto d n
def monthOf (d : Int) : Int := monthUpto d 11
def weekdayOf (d : Int) : Int := (d + 5) % 7 + 1
def fromBeginning (y m w t : Int) : Int := monthStart y m + (w - weekdayOf (monthStart y m)) % 7 + 7 * (t - 1)
def fromEnd (y m w t : Int) : Int := (monthStart y m + monthLength y m - 1) - (weekdayOf (monthStart y m + monthLength y m - 1) - w) % 7 - 7 * (t - 1)
def dateNumbers (s : Int) : List Int := if isMoment s = true then
    [2000 + yearOf (s / 1440), monthOf (s / 1440), s / 1440 - monthStart (yearOf (s / 1440)) (monthOf (s / 1440)) + 1, s % 1440, weekdayOf (s / 1440)]
  else []
def isRule : List Int → Bool
  | [b, k, w, m, t] => (decide (b = 0) || decide (b = 1)) && (decide (1 ≤ k) && (decide (k ≤ 4) && (decide (1 ≤ w) && (decide (w ≤ 7) && (decide (1 ≤ m) && (decide (m ≤ 12) && (decide (0 ≤ t) && decide (t < 1440))))))))
  | _ => false
def monthOfRule (r : List Int) : Int := r.getD 3 0
def isSummerRule (x : Int) (a b : List Int) : Bool := decide (1 ≤ x) && (decide (x ≤ 120) && (isRule a && (isRule b && decide (monthOfRule a ≠ monthOfRule b))))
def ruleMoment (r : List Int) (y : Int) : Int := match r with
  | [b, k, w, m, t] => (if b = 0 then fromBeginning y m w k else fromEnd y m w k) * 1440 + t
  | _ => 0
def isSummer (a b : List Int) (u : Int) : Bool :=
  if ruleMoment a (yearOf (u / 1440)) < ruleMoment b (yearOf (u / 1440)) then decide (ruleMoment a (yearOf (u / 1440)) ≤ u) && decide (u < ruleMoment b (yearOf (u / 1440)))
  else decide (u < ruleMoment b (yearOf (u / 1440))) || decide (ruleMoment a (yearOf (u / 1440)) ≤ u)
def plain (since offset : Int) : D := ⟨since, offset, 0, [], []⟩
def aheadBy (d : D) (u : Int) : Int := if d.more > 0 ∧ isSummer d.begins d.ends u = true then d.offset + d.more else d.offset
/-- in_force's loop: the last one that has begun -/
def force (u : Int) (found : D) (l : List D) : D := l.foldl (fun f d => if d.since ≤ u then d else f) found
def inForce (l : List D) (u : Int) : D := force u (l.headD (plain 0 0)) l
def hasSince (l : List D) (t : Int) : Bool := l.any fun d => decide (d.since = t)
def withDecree (l : List D) (a : D) : List D := (l.filter fun d => decide (d.since < a.since)) ++ [a] ++ (l.filter fun d => decide (a.since < d.since))
def withoutSince (l : List D) (t : Int) : List D := l.filter fun d => decide (d.since ≠ t)
abbrev Span := Int × Int × Int
def yearSpans (d : D) (y : Int) : List Span :=
  [(yearStart y * 1440, min (ruleMoment d.begins y) (ruleMoment d.ends y), aheadBy d (yearStart y * 1440)),
   (min (ruleMoment d.begins y) (ruleMoment d.ends y), max (ruleMoment d.begins y) (ruleMoment d.ends y), aheadBy d (min (ruleMoment d.begins y) (ruleMoment d.ends y))),
   (max (ruleMoment d.begins y) (ruleMoment d.ends y), yearStart (y + 1) * 1440, aheadBy d (max (ruleMoment d.begins y) (ruleMoment d.ends y)))]
/-- decree_spans' inner loop -/
def clip (a b : Int) (l : List Span) : List Span := l.filterMap fun s => if max s.1 a < min s.2.1 b then some (max s.1 a, min s.2.1 b, s.2.2) else none
/-- decree_spans' outer loop behind n turns -/
def yearsOn (d : D) (upto first : Int) : Nat → List Span
  | 0 => []
  | n + 1 => yearsOn d upto first n ++ clip d.since upto (yearSpans d (first + (n : Int)))
def decreeSpans (d : D) (upto : Int) : List Span := if d.more > 0 then
    yearsOn d upto (yearOf (d.since / 1440)) (yearOf ((upto - 1) / 1440) + 1 - yearOf (d.since / 1440)).toNat
  else [(d.since, upto, d.offset)]
/-- up to which moment the i-th decree is in force -/
def uptoOf (l : List D) (i : Nat) : Int := match l[i + 1]? with
  | some e => e.since
  | none => 52596000
def placesOn (l : List D) : Nat → List Span
  | 0 => []
  | n + 1 => placesOn l n ++ (match l[n]? with
    | some d => decreeSpans d (uptoOf l n)
    | none => [])
def placeSpans (l : List D) : List Span := placesOn l l.length
def aheadAt (l : List D) (u : Int) : Int := aheadBy (inForce l u) u
def showsNumbers (l : List D) (u : Int) : List Int := [0, u + aheadAt l u] ++ dateNumbers (u + aheadAt l u)
def within (l : List Span) (z : Int) : List Int := l.filterMap fun s => if s.1 ≤ z - s.2.2 ∧ z - s.2.2 < s.2.1 then some (z - s.2.2) else none
def beyond (l : List Span) (z : Int) : Option Int := l.findSome? fun s => if max s.1 (z - s.2.2 + 1) < s.2.1 then some (max s.1 (z - s.2.2 + 1)) else none
def meantNumbers (l : List D) (z : Int) : List Int := match within (placeSpans l) z with
  | m :: _ => [m, 1]
  | [] => match beyond (placeSpans l) z with
    | some m => [m, 0]
    | none => [-6]
/-- change_numbers' loop, from the span ahead on -/
def changeIn (u : Int) : Span → List Span → Option (List Int)
  | _, [] => none
  | p, s :: l => if s.1 > u ∧ s.2.2 ≠ p.2.2 then some [s.1, p.2.2, s.2.2] else changeIn u s l
def changeNumbers (l : List D) (u : Int) : List Int := match placeSpans l with
  | [] => [-6]
  | s :: r => match changeIn u s r with
    | some x => x
    | none => [-6]
/-- what the house keeps -/
structure S where
  places : List (List D)
  kept : List (Int × Int)
def S.init : S := ⟨[], []⟩
def S.hasPlace (s : S) (p : Int) : Bool := decide (0 ≤ p) && decide (p < (s.places.length : Int))
def S.hasKept (s : S) (p : Int) : Bool := decide (0 ≤ p) && decide (p < (s.kept.length : Int))
def S.decrees (s : S) (p : Int) : List D := s.places.getD p.toNat []
def S.give (s : S) (p : Int) (l : List D) : S := { s with places := s.places.set p.toNat l }
def doPlace (s : S) (z : Int) : S × List Int := if isOffset z = false then (s, [-1]) else if 6 ≤ s.places.length then (s, [-5]) else
  ({ s with places := s.places ++ [[plain 0 z]] }, [(s.places.length : Int)])
def putDecree (s : S) (p : Int) (d : D) : S × List Int := if 8 < (withDecree (s.decrees p) d).length then (s, [-5]) else
  (s.give p (withDecree (s.decrees p) d), [((withDecree (s.decrees p) d).length : Int)])
def doDecree (s : S) (p m z : Int) : S × List Int := if s.hasPlace p = false then (s, [-3]) else if isMoment m = false ∨ isOffset z = false then (s, [-1]) else putDecree s p (plain m z)
def doSummer (s : S) (p m z x : Int) (a b : List Int) : S × List Int := if s.hasPlace p = false then (s, [-3]) else if isMoment m = false ∨ isOffset z = false then (s, [-1]) else
  if isSummerRule x a b = false then (s, [-1]) else putDecree s p ⟨m, z, x, a, b⟩
def doDrop (s : S) (p m : Int) : S × List Int := if s.hasPlace p = false then (s, [-3]) else if m = 0 ∨ hasSince (s.decrees p) m = false then (s, [-4]) else
  (s.give p (withoutSince (s.decrees p) m), [((withoutSince (s.decrees p) m).length : Int)])
def doOffset (s : S) (p u : Int) : List Int := if s.hasPlace p = false then [-3] else if isMoment u = false then [-1] else [1000 + aheadAt (s.decrees p) u]
def doShows (s : S) (p u : Int) : List Int := if s.hasPlace p = false then [-3] else if isMoment u = false then [-1] else showsNumbers (s.decrees p) u
def doMoments (s : S) (p z : Int) : List Int := if s.hasPlace p = false then [-3] else ((within (placeSpans (s.decrees p)) z).length : Int) :: within (placeSpans (s.decrees p)) z
def doMeant (s : S) (p z : Int) : List Int := if s.hasPlace p = false then [-3] else meantNumbers (s.decrees p) z
def doChange (s : S) (p u : Int) : List Int := if s.hasPlace p = false then [-3] else if isMoment u = false then [-1] else changeNumbers (s.decrees p) u
def doKeep (s : S) (p z : Int) : S × List Int := if s.hasPlace p = false then (s, [-3]) else if 20 ≤ s.kept.length then (s, [-5]) else
  ({ s with kept := s.kept ++ [(p, z)] }, [(s.kept.length : Int)])
def meantByKept (s : S) (k : Int) : List Int := meantNumbers (s.decrees (s.kept.getD k.toNat (0, 0)).1) (s.kept.getD k.toNat (0, 0)).2
def doWhen (s : S) (k : Int) : List Int := if s.hasKept k = false then [-3] else meantByKept s k
def doThere (s : S) (k p : Int) : List Int := if s.hasKept k = false ∨ s.hasPlace p = false then [-3] else
  if (meantByKept s k).headD 0 < 0 then meantByKept s k else showsNumbers (s.decrees p) ((meantByKept s k).headD 0)
def doAhead (s : S) (u : Int) : List Int := if isMoment u = false then [-1] else (s.places.length : Int) :: s.places.map fun l => aheadAt l u
/-- one call: its number and its whole numbers; its rows -/
def deed (s : S) (w : Int) (ns : List Int) (rs : List (List Int)) : S × List Int :=
  if w = 0 then doPlace s (ns.getD 0 0)
  else if w = 1 then doDecree s (ns.getD 0 0) (ns.getD 1 0) (ns.getD 2 0)
  else if w = 2 then doSummer s (ns.getD 0 0) (ns.getD 1 0) (ns.getD 2 0) (ns.getD 3 0) (rs.getD 0 []) (rs.getD 1 [])
  else if w = 3 then doDrop s (ns.getD 0 0) (ns.getD 1 0)
  else if w = 4 then (s, doOffset s (ns.getD 0 0) (ns.getD 1 0))
  else if w = 5 then (s, doShows s (ns.getD 0 0) (ns.getD 1 0))
  else if w = 6 then (s, doMoments s (ns.getD 0 0) (ns.getD 1 0))
  else if w = 7 then (s, doMeant s (ns.getD 0 0) (ns.getD 1 0))
  else if w = 8 then (s, doChange s (ns.getD 0 0) (ns.getD 1 0))
  else if w = 9 then doKeep s (ns.getD 0 0) (ns.getD 1 0)
  else if w = 10 then (s, doWhen s (ns.getD 0 0))
  else if w = 11 then (s, doThere s (ns.getD 0 0) (ns.getD 1 0))
  else (s, doAhead s (ns.getD 0 0))
/-- a call as PyFlat parts it -/
def callOf (s : S) (c : List (List Int)) : S × List Int := match c with
  | (w :: ns) :: rs => deed s w ns rs
  | _ => (s, [])
/-- the house and what is told behind the calls -/
def turn (x : S × List Int) (c : List (List Int)) : S × List Int := ((callOf x.1 c).1, x.2 ++ (((callOf x.1 c).2.length : Int) :: (callOf x.1 c).2))
def run (cs : List (List (List Int))) : S × List Int := cs.foldl turn (S.init, [])
end Pc
/-! The calendar: the mirror's whole numbers against the specification's. -/
namespace Pc
theorem ys_cast (y : Nat) : yearStart (y : Int) = ((365 * y + (y + 3) / 4 : Nat) : Int) := by
  unfold yearStart
  omega
theorem yearOf_cast (n : Nat) : yearOf (n : Int) = (Cl01.yearOf n : Int) := by
  unfold yearOf Cl01.yearOf
  split <;> split <;> omega
/-- the days of a year -/
theorem yearOf_iff (n y : Nat) : Cl01.yearOf n = y ↔ 365 * y + (y + 3) / 4 ≤ n ∧ n < 365 * (y + 1) + (y + 1 + 3) / 4 := by
  unfold Cl01.yearOf
  split <;> constructor <;> intro h <;> omega
theorem yearOf_mono {m n : Nat} (h : m ≤ n) : Cl01.yearOf m ≤ Cl01.yearOf n := by
  have h1 := (yearOf_iff m _).mp rfl
  have h2 := (yearOf_iff n _).mp rfl
  omega
theorem twelve {m : Nat} (h1 : 1 ≤ m) (h2 : m ≤ 12) : m = 1 ∨ m = 2 ∨ m = 3 ∨ m = 4 ∨ m = 5 ∨ m = 6 ∨ m = 7 ∨ m = 8 ∨ m = 9 ∨ m = 10 ∨ m = 11 ∨ m = 12 := by omega
theorem monthLength_cast (y m : Nat) (h1 : 1 ≤ m) (h2 : m ≤ 12) : monthLength (y : Int) (m : Int) = (Cl01.monthDays y m : Int) := by
  have e : ((y : Int) % 4 = 0) ↔ (y % 4 = 0) := by omega
  rcases twelve h1 h2 with r | r | r | r | r | r | r | r | r | r | r | r <;> subst r <;> try rfl
  unfold monthLength Cl01.monthDays Cl01.leap
  by_cases c : y % 4 = 0
  · simp [c, e.mpr c]
  · have c' : ¬ ((y : Int) % 4 = 0) := fun q => c (e.mp q)
    simp [c, c']
    rfl
theorem monthDays_le (y m : Nat) : 28 ≤ Cl01.monthDays y m ∧ Cl01.monthDays y m ≤ 31 := by
  unfold Cl01.monthDays
  split
  · split <;> omega
  all_goals omega
/-- the months of a year, one behind another -/
theorem monthStart_one (y : Nat) : Cl01.monthStart y 1 = 365 * y + (y + 3) / 4 := rfl
theorem monthStart_next (y m : Nat) (h : 1 ≤ m) : Cl01.monthStart y (m + 1) = Cl01.monthStart y m + Cl01.monthDays y m := by
  obtain ⟨k, rfl⟩ : ∃ k, m = k + 1 := ⟨m - 1, by omega⟩
  unfold Cl01.monthStart
  rw [show k + 1 + 1 - 1 = k + 1 by omega, show k + 1 - 1 = k by omega, List.range_succ, List.map_append, List.foldl_append]
  simp [Nat.add_assoc]
theorem monthStart_year (y : Nat) : Cl01.monthStart y 13 = 365 * (y + 1) + (y + 1 + 3) / 4 := by
  have e : Cl01.monthStart y 13 = 365 * y + (y + 3) / 4 + (if y % 4 = 0 then 366 else 365) := by
    unfold Cl01.monthStart
    by_cases c : y % 4 = 0
    · simp [List.range, List.range.loop, Cl01.monthDays, Cl01.leap, c]
    · simp [List.range, List.range.loop, Cl01.monthDays, Cl01.leap, c]
  rw [e]
  split <;> omega
theorem monthStart_mono (y : Nat) {m n : Nat} (h1 : 1 ≤ m) (h : m ≤ n) : Cl01.monthStart y m ≤ Cl01.monthStart y n := by
  induction n with
  | zero => omega
  | succ n ih =>
    by_cases e : m = n + 1
    · rw [e]
      exact Nat.le_refl _
    · have := ih (by omega)
      rw [monthStart_next y n (by omega)]
      omega
theorem monthsOn_cast (y : Nat) : ∀ n : Nat, n ≤ 12 → monthsOn (y : Int) n = (Cl01.monthStart y (n + 1) : Int)
  | 0, _ => by
    show yearStart (y : Int) = _
    rw [ys_cast, monthStart_one]
  | n + 1, h => by
    show monthsOn (y : Int) n + monthLength y (1 + (n : Int)) = _
    rw [monthsOn_cast y n (by omega), monthStart_next y (n + 1) (by omega), show (1 + (n : Int)) = ((n + 1 : Nat) : Int) by omega, monthLength_cast y (n + 1) (by omega) (by omega)]
    omega
theorem monthStart_cast (y m : Nat) (h1 : 1 ≤ m) (h2 : m ≤ 13) : monthStart (y : Int) (m : Int) = (Cl01.monthStart y m : Int) := by
  unfold monthStart
  rw [show ((m : Int) - 1).toNat = m - 1 by omega, monthsOn_cast y (m - 1) (by omega), show m - 1 + 1 = m by omega]
theorem weekdayOf_cast (n : Nat) : weekdayOf (n : Int) = (Cl01.weekday n : Int) + 1 := by
  unfold weekdayOf Cl01.weekday
  omega
/-! ### the month of a day -/
theorem monthUpto_eq (d : Nat) : ∀ n : Nat, n ≤ 11 → monthUpto (d : Int) n = (((List.range (n + 1)).filter fun (k : Nat) => decide (Cl01.monthStart (Cl01.yearOf d) (k + 1) ≤ d)).length : Int)
  | 0, _ => by
    have h := ((yearOf_iff d _).mp rfl).1
    have h' : Cl01.monthStart (Cl01.yearOf d) 1 ≤ d := h
    simp [monthUpto, List.range, List.range.loop, h']
  | n + 1, hn => by
    have ih := monthUpto_eq d n (by omega)
    show (if monthStart (yearOf (d : Int)) (2 + (n : Int)) ≤ d then 2 + (n : Int) else monthUpto d n) = _
    rw [yearOf_cast, show (2 + (n : Int)) = ((n + 2 : Nat) : Int) by omega, monthStart_cast _ (n + 2) (by omega) (by omega), List.range_succ, List.filter_append, List.length_append, ih]
    by_cases c : Cl01.monthStart (Cl01.yearOf d) (n + 2) ≤ d
    · have c' : ((Cl01.monthStart (Cl01.yearOf d) (n + 2) : Nat) : Int) ≤ d := by omega
      rw [if_pos c']
      have all : (List.range (n + 1)).filter (fun (k : Nat) => decide (Cl01.monthStart (Cl01.yearOf d) (k + 1) ≤ d)) = List.range (n + 1) := by
        rw [List.filter_eq_self]
        intro k hk
        have hk' := List.mem_range.mp hk
        have := monthStart_mono (Cl01.yearOf d) (m := k + 1) (n := n + 2) (by omega) (by omega)
        exact decide_eq_true (by omega)
      rw [all, List.length_range]
      simp [c]
      omega
    · have c' : ¬ ((Cl01.monthStart (Cl01.yearOf d) (n + 2) : Nat) : Int) ≤ d := by omega
      rw [if_neg c']
      simp [c]
theorem monthOf_cast (d : Nat) : monthOf (d : Int) = (Cl01.monthOf d : Int) := monthUpto_eq d 11 (Nat.le_refl _)
theorem monthOf_bounds (d : Nat) : 1 ≤ Cl01.monthOf d ∧ Cl01.monthOf d ≤ 12 := by
  constructor
  · unfold Cl01.monthOf
    have h := ((yearOf_iff d _).mp rfl).1
    have h' : Cl01.monthStart (Cl01.yearOf d) 1 ≤ d := h
    have : (0 : Nat) ∈ (List.range 12).filter fun (k : Nat) => decide (Cl01.monthStart (Cl01.yearOf d) (k + 1) ≤ d) := by
      rw [List.mem_filter]
      exact ⟨by decide, decide_eq_true h'⟩
    exact List.length_pos_of_mem this
  · unfold Cl01.monthOf
    exact Nat.le_trans (List.length_filter_le _ _) (by decide)
theorem monthStart_le_of (d : Nat) : Cl01.monthStart (Cl01.yearOf d) (Cl01.monthOf d) ≤ d := by
  have key : ∀ n : Nat, n ≤ 11 → ∃ m : Nat, 1 ≤ m ∧ m ≤ n + 1 ∧ monthUpto (d : Int) n = (m : Int) ∧ Cl01.monthStart (Cl01.yearOf d) m ≤ d := by
    intro n
    induction n with
    | zero =>
      intro _
      exact ⟨1, by omega, by omega, rfl, ((yearOf_iff d _).mp rfl).1⟩
    | succ n ih =>
      intro hn
      obtain ⟨m, h1, h2, h3, h4⟩ := ih (by omega)
      show ∃ m : Nat, 1 ≤ m ∧ m ≤ n + 1 + 1 ∧ (if monthStart (yearOf (d : Int)) (2 + (n : Int)) ≤ d then 2 + (n : Int) else monthUpto d n) = (m : Int) ∧ _
      rw [yearOf_cast, show (2 + (n : Int)) = ((n + 2 : Nat) : Int) by omega, monthStart_cast _ (n + 2) (by omega) (by omega)]
      by_cases c : ((Cl01.monthStart (Cl01.yearOf d) (n + 2) : Nat) : Int) ≤ d
      · rw [if_pos c]
        exact ⟨n + 2, by omega, by omega, rfl, by omega⟩
      · rw [if_neg c]
        exact ⟨m, h1, by omega, h3, h4⟩
  obtain ⟨m, _, _, h3, h4⟩ := key 11 (Nat.le_refl _)
  have e : (m : Int) = (Cl01.monthOf d : Int) := h3.symm.trans (monthOf_cast d)
  have e' : m = Cl01.monthOf d := by omega
  rw [← e']
  exact h4
/-! ### a rule's moment -/
/-- a turn as the five numbers of a rule -/
def ruleOf (t : Cl02.Turn) : List Int := [if t.back = true then 1 else 0, (t.k : Int), (t.w : Int) + 1, (t.month : Int), (t.minute : Int)]
/-- a turn as told -/
structure TOk (t : Cl02.Turn) : Prop where
  k1 : 1 ≤ t.k
  k4 : t.k ≤ 4
  w : t.w ≤ 6
  m1 : 1 ≤ t.month
  m12 : t.month ≤ 12
  min : t.minute < 1440
/-- the day of a turn lies in its month -/
theorem turnDay (y : Nat) (t : Cl02.Turn) (h : TOk t) : ∃ d, Cl02.turnAt y t = 1440 * d + t.minute ∧ Cl01.monthStart y t.month ≤ d ∧ d < Cl01.monthStart y (t.month + 1) ∧ ruleMoment (ruleOf t) y = (d : Int) * 1440 + (t.minute : Int) := by
  obtain ⟨k1, k4, w, m1, m12, mn⟩ := h
  obtain ⟨back, k, w', m, mi⟩ := t
  dsimp only at *
  have n28 := (monthDays_le y m).1
  have nx := monthStart_next y m m1
  have wd := Nat.mod_lt (Cl01.monthStart y m + 5) (show 7 > 0 by decide)
  cases back with
  | true =>
    refine ⟨Cl01.monthStart y m + Cl01.monthDays y m - 1 - (Cl01.weekday (Cl01.monthStart y m + Cl01.monthDays y m - 1) + 7 - w') % 7 - 7 * (k - 1), ?_, ?_, ?_, ?_⟩
    · unfold Cl02.turnAt Cl01.itemDay Cl01.weekday
      simp only [if_true]
      rw [if_pos (by omega), Option.getD_some]
    · unfold Cl01.weekday
      omega
    · rw [nx]
      omega
    · show (if (1 : Int) = 0 then _ else fromEnd y m ((w' : Int) + 1) k) * 1440 + (mi : Int) = _
      rw [if_neg (by decide)]
      unfold fromEnd
      rw [monthStart_cast y m m1 (by omega), monthLength_cast y m m1 m12, show ((Cl01.monthStart y m : Nat) : Int) + (Cl01.monthDays y m : Int) - 1 = ((Cl01.monthStart y m + Cl01.monthDays y m - 1 : Nat) : Int) by omega, weekdayOf_cast]
      unfold Cl01.weekday
      omega
  | false =>
    refine ⟨Cl01.monthStart y m + (w' + 7 - Cl01.weekday (Cl01.monthStart y m)) % 7 + 7 * (k - 1), ?_, ?_, ?_, ?_⟩
    · unfold Cl02.turnAt Cl01.itemDay Cl01.weekday
      simp only [Bool.false_eq_true, if_false]
      rw [if_pos (by omega), Option.getD_some]
    · omega
    · rw [nx]
      omega
    · show (if (0 : Int) = 0 then fromBeginning y m ((w' : Int) + 1) k else _) * 1440 + (mi : Int) = _
      rw [if_pos rfl]
      unfold fromBeginning
      rw [monthStart_cast y m m1 (by omega), weekdayOf_cast]
      unfold Cl01.weekday
      omega
theorem ruleMoment_cast (y : Nat) (t : Cl02.Turn) (h : TOk t) : ruleMoment (ruleOf t) (y : Int) = (Cl02.turnAt y t : Int) := by
  obtain ⟨d, e, _, _, e2⟩ := turnDay y t h
  rw [e2, e]
  omega
/-- a turn lies in its year -/
theorem turnAt_year (y : Nat) (t : Cl02.Turn) (h : TOk t) : 1440 * (365 * y + (y + 3) / 4) ≤ Cl02.turnAt y t ∧ Cl02.turnAt y t < 1440 * (365 * (y + 1) + (y + 1 + 3) / 4) ∧ Cl01.yearOf (Cl02.turnAt y t / 1440) = y := by
  obtain ⟨d, e, h1, h2, _⟩ := turnDay y t h
  have a1 := monthStart_mono y (m := 1) (n := t.month) (by omega) h.m1
  have a2 := monthStart_mono y (m := t.month + 1) (n := 13) (by omega) (by have := h.m12; omega)
  rw [monthStart_year] at a2
  rw [monthStart_one] at a1
  have mn := h.min
  have q : Cl02.turnAt y t / 1440 = d := by omega
  refine ⟨by omega, by omega, ?_⟩
  rw [q, yearOf_iff]
  omega
/-- of two turns of different months the one of the earlier month is the earlier one -/
theorem turnAt_lt (y : Nat) (s t : Cl02.Turn) (hs : TOk s) (ht : TOk t) (h : s.month < t.month) : Cl02.turnAt y s < Cl02.turnAt y t := by
  obtain ⟨d, e, _, h2, _⟩ := turnDay y s hs
  obtain ⟨d', e', h1', _, _⟩ := turnDay y t ht
  have a := monthStart_mono y (m := s.month + 1) (n := t.month) (by omega) (by omega)
  have mn := hs.min
  omega
theorem turnAt_lt_iff (y : Nat) (s t : Cl02.Turn) (hs : TOk s) (ht : TOk t) (h : s.month ≠ t.month) : Cl02.turnAt y s < Cl02.turnAt y t ↔ s.month < t.month := by
  constructor
  · intro q
    by_cases c : s.month < t.month
    · exact c
    · have := turnAt_lt y t s ht hs (by omega)
      omega
  · exact turnAt_lt y s t hs ht
/-! ### what clocks show, as a date -/
theorem isMoment_iff (n : Int) : isMoment n = true ↔ 0 ≤ n ∧ n < 52596000 := by
  unfold isMoment
  rw [Bool.and_eq_true, decide_eq_true_iff, decide_eq_true_iff]
theorem isMoment_eq (n : Int) : Cl02.isMoment n = isMoment n := rfl
theorem face_eq (z : Int) : z :: dateNumbers z = Cl02.face z := by
  unfold Cl02.face dateNumbers
  by_cases c : isMoment z = true
  · obtain ⟨c1, c2⟩ := (isMoment_iff z).mp c
    have c3 : ¬ (z < 0 ∨ (Cl02.MOMENTS : Int) ≤ z) := by
      have : (Cl02.MOMENTS : Int) = 52596000 := rfl
      omega
    rw [if_pos c, if_neg c3]
    obtain ⟨n, rfl⟩ : ∃ n : Nat, z = (n : Int) := ⟨z.toNat, by omega⟩
    have e : (n : Int) / 1440 = ((n / 1440 : Nat) : Int) := by omega
    have m := monthOf_bounds (n / 1440)
    have l := monthStart_le_of (n / 1440)
    rw [e, yearOf_cast, monthOf_cast, monthStart_cast _ _ m.1 (by omega), weekdayOf_cast]
    have d1 : ((n / 1440 : Nat) : Int) - (Cl01.monthStart (Cl01.yearOf (n / 1440)) (Cl01.monthOf (n / 1440)) : Int) + 1 = (Cl01.domOf (n / 1440) : Int) := by
      unfold Cl01.domOf
      omega
    have d2 : (n : Int) % 1440 = ((n % 1440 : Nat) : Int) := by omega
    rw [d1, d2]
    rfl
  · have c3 : z < 0 ∨ (Cl02.MOMENTS : Int) ≤ z := by
      have q : ¬ (0 ≤ z ∧ z < 52596000) := fun q => c ((isMoment_iff z).mpr q)
      have : (Cl02.MOMENTS : Int) = 52596000 := rfl
      omega
    rw [if_neg c, if_pos c3]
end Pc
/-! Spans: a chain of pieces, in each of which a function of the moments is constant; a place's spans are one. -/
namespace Pc
/-- from a to b without a gap, none empty, in each f is what it says -/
inductive Chain (f : Int → Int) : Int → List Span → Int → Prop
  | nil (a : Int) : Chain f a [] a
  | cons {a b c x : Int} {l : List Span} : a < b → (∀ u, a ≤ u → u < b → f u = x) → Chain f b l c → Chain f a ((a, b, x) :: l) c
theorem Chain.le {f : Int → Int} {a b : Int} {l : List Span} (h : Chain f a l b) : a ≤ b := by
  induction h with
  | nil => omega
  | cons _ _ _ ih => omega
theorem Chain.append {f : Int → Int} {a b c : Int} {l m : List Span} (h : Chain f a l b) (k : Chain f b m c) : Chain f a (l ++ m) c := by
  induction h with
  | nil => exact k
  | cons p q _ ih => exact .cons p q (ih k)
theorem Chain.congr {f g : Int → Int} {a b : Int} {l : List Span} (h : Chain f a l b) (e : ∀ u, a ≤ u → u < b → f u = g u) : Chain g a l b := by
  induction h with
  | nil => exact .nil _
  | cons p q r ih =>
    have := r.le
    exact .cons p (fun u h1 h2 => (e u h1 (by omega)).symm.trans (q u h1 h2)) (ih fun u h1 h2 => e u (by omega) h2)
/-- the same where some may be empty -/
inductive Loose (f : Int → Int) : Int → List Span → Int → Prop
  | nil (a : Int) : Loose f a [] a
  | cons {a b c x : Int} {l : List Span} : a ≤ b → (∀ u, a ≤ u → u < b → f u = x) → Loose f b l c → Loose f a ((a, b, x) :: l) c
theorem Loose.le {f : Int → Int} {a b : Int} {l : List Span} (h : Loose f a l b) : a ≤ b := by
  induction h with
  | nil => omega
  | cons _ _ _ ih => omega
theorem clip_chain {f : Int → Int} {s t : Int} (hst : s < t) {a b : Int} {l : List Span} (h : Loose f a l b) : Chain f (max s (min a t)) (clip s t l) (max s (min b t)) := by
  induction h with
  | nil => exact .nil _
  | @cons a b c x l p q r ih =>
    unfold clip at ih ⊢
    rw [List.filterMap_cons]
    by_cases k : max a s < min b t
    · rw [if_pos k]
      have e1 : max s (min a t) = max a s := by omega
      have e2 : min b t = max s (min b t) := by omega
      show Chain f _ ((max a s, min b t, x) :: _) _
      rw [e1]
      refine .cons k (fun u h1 h2 => q u (by omega) (by omega)) ?_
      rw [e2]
      exact ih
    · rw [if_neg k]
      have e1 : max s (min a t) = max s (min b t) := by omega
      rw [e1]
      exact ih
theorem clip_length (s t : Int) (l : List Span) : (clip s t l).length ≤ l.length := List.length_filterMap_le _ _
/-! ### the specification's decrees as the program has them -/
def dOf (e : Cl02.Decree) : D := match e.summer with
  | none => ⟨e.from_, e.offset, 0, [], []⟩
  | some (x, a, b) => ⟨e.from_, e.offset, x, ruleOf a, ruleOf b⟩
structure SOk (s : Nat × Cl02.Turn × Cl02.Turn) : Prop where
  x1 : 1 ≤ s.1
  x120 : s.1 ≤ 120
  a : TOk s.2.1
  b : TOk s.2.2
  ne : s.2.1.month ≠ s.2.2.month
structure EOk (e : Cl02.Decree) : Prop where
  lt : e.from_ < 52596000
  lo : -840 ≤ e.offset
  hi : e.offset ≤ 840
  sum : ∀ s, e.summer = some s → SOk s
theorem dOf_since (e : Cl02.Decree) : (dOf e).since = (e.from_ : Int) := by
  unfold dOf
  split <;> rfl
theorem dOf_offset (e : Cl02.Decree) : (dOf e).offset = e.offset := by
  unfold dOf
  split <;> rfl
theorem dOf_none {e : Cl02.Decree} (h : e.summer = none) : dOf e = ⟨e.from_, e.offset, 0, [], []⟩ := by
  unfold dOf
  rw [h]
theorem dOf_some {e : Cl02.Decree} {x : Nat} {a b : Cl02.Turn} (h : e.summer = some (x, a, b)) : dOf e = ⟨e.from_, e.offset, x, ruleOf a, ruleOf b⟩ := by
  unfold dOf
  rw [h]
theorem yearOf_at (u : Nat) : yearOf ((u : Int) / 1440) = (Cl01.yearOf (u / 1440) : Int) := by
  rw [show (u : Int) / 1440 = ((u / 1440 : Nat) : Int) by omega, yearOf_cast]
theorem aheadBy_cast {e : Cl02.Decree} (h : EOk e) (u : Nat) : aheadBy (dOf e) (u : Int) = Cl02.ahead e u := by
  cases q : e.summer with
  | none =>
    rw [dOf_none q]
    unfold aheadBy Cl02.ahead
    rw [q]
    simp
  | some s =>
    obtain ⟨x, a, b⟩ := s
    obtain ⟨x1, x120, ha, hb, ne⟩ := h.sum _ q
    dsimp only at x1 x120 ha hb ne
    rw [dOf_some q]
    unfold aheadBy Cl02.ahead
    rw [q]
    dsimp only
    unfold isSummer
    rw [yearOf_at, ruleMoment_cast _ _ ha, ruleMoment_cast _ _ hb]
    have x0 : (x : Int) > 0 := by omega
    by_cases c : Cl02.turnAt (Cl01.yearOf (u / 1440)) a < Cl02.turnAt (Cl01.yearOf (u / 1440)) b
    · have c' : (Cl02.turnAt (Cl01.yearOf (u / 1440)) a : Int) < (Cl02.turnAt (Cl01.yearOf (u / 1440)) b : Int) := by omega
      simp only [if_pos c, if_pos c', x0, true_and, Bool.and_eq_true, decide_eq_true_iff, Int.ofNat_le, Int.ofNat_lt]
      split <;> omega
    · have c' : ¬ (Cl02.turnAt (Cl01.yearOf (u / 1440)) a : Int) < (Cl02.turnAt (Cl01.yearOf (u / 1440)) b : Int) := by omega
      simp only [if_neg c, if_neg c', x0, true_and, Bool.or_eq_true, decide_eq_true_iff, Int.ofNat_le, Int.ofNat_lt]
      split <;> omega
/-! ### a year's three spans -/
theorem yearOf_in {y u : Int} (h0 : 0 ≤ y) (h1 : yearStart y * 1440 ≤ u) (h2 : u < yearStart (y + 1) * 1440) : yearOf (u / 1440) = y := by
  obtain ⟨n, rfl⟩ : ∃ n : Nat, y = (n : Int) := ⟨y.toNat, by omega⟩
  have e1 := ys_cast n
  have e2 := ys_cast (n + 1)
  rw [show ((n + 1 : Nat) : Int) = (n : Int) + 1 by omega] at e2
  obtain ⟨m, rfl⟩ : ∃ m : Nat, u = (m : Int) := ⟨u.toNat, by omega⟩
  rw [yearOf_at]
  have := (yearOf_iff (m / 1440) n).mpr ⟨by omega, by omega⟩
  omega
theorem yearSpans_loose {e : Cl02.Decree} (h : EOk e) {x : Nat} {a b : Cl02.Turn} (q : e.summer = some (x, a, b)) (y : Nat) :
    Loose (aheadBy (dOf e)) (yearStart y * 1440) (yearSpans (dOf e) y) (yearStart ((y : Int) + 1) * 1440) := by
  obtain ⟨x1, x120, ha, hb, ne⟩ := h.sum _ q
  dsimp only at x1 x120 ha hb ne
  have ra := ruleMoment_cast y a ha
  have rb := ruleMoment_cast y b hb
  obtain ⟨a1, a2, _⟩ := turnAt_year y a ha
  obtain ⟨b1, b2, _⟩ := turnAt_year y b hb
  have ab := turnAt_lt_iff y a b ha hb ne
  have ba := turnAt_lt_iff y b a hb ha (Ne.symm ne)
  have e1 := ys_cast y
  have e2 := ys_cast (y + 1)
  rw [show ((y + 1 : Nat) : Int) = (y : Int) + 1 by omega] at e2
  unfold yearSpans
  rw [dOf_some q]
  dsimp only
  rw [ra, rb]
  generalize Cl02.turnAt y a = A at *
  generalize Cl02.turnAt y b = B at *
  have val : ∀ u : Int, yearStart y * 1440 ≤ u → u < yearStart ((y : Int) + 1) * 1440 → aheadBy ⟨(e.from_ : Int), e.offset, (x : Int), ruleOf a, ruleOf b⟩ u =
      if (if A < B then (A : Int) ≤ u ∧ u < (B : Int) else u < (B : Int) ∨ (A : Int) ≤ u) then e.offset + (x : Int) else e.offset := by
    intro u h1 h2
    unfold aheadBy isSummer
    dsimp only
    rw [yearOf_in (Int.natCast_nonneg y) h1 h2, ra, rb]
    have x0 : (x : Int) > 0 := by omega
    by_cases c : A < B
    · have c' : (A : Int) < (B : Int) := by omega
      simp only [if_pos c, if_pos c', x0, true_and, Bool.and_eq_true, decide_eq_true_iff]
    · have c' : ¬ (A : Int) < (B : Int) := by omega
      simp only [if_neg c, if_neg c', x0, true_and, Bool.or_eq_true, decide_eq_true_iff]
  refine .cons (by omega) (fun u h1 h2 => ?_) (.cons (by omega) (fun u h1 h2 => ?_) (.cons (by omega) (fun u h1 h2 => ?_) (.nil _)))
  · rw [val u (by omega) (by omega), val _ (by omega) (by omega)]
    by_cases c : A < B
    · simp only [if_pos c]
      rw [if_neg (by omega), if_neg (by omega)]
    · simp only [if_neg c]
      rw [if_pos (by omega), if_pos (by omega)]
  · rw [val u (by omega) (by omega), val _ (by omega) (by omega)]
    by_cases c : A < B
    · simp only [if_pos c]
      rw [if_pos (by omega), if_pos (by omega)]
    · simp only [if_neg c]
      rw [if_neg (by omega), if_neg (by omega)]
  · rw [val u (by omega) (by omega), val _ (by omega) (by omega)]
    by_cases c : A < B
    · simp only [if_pos c]
      rw [if_neg (by omega), if_neg (by omega)]
    · simp only [if_neg c]
      rw [if_pos (by omega), if_pos (by omega)]
/-! ### a decree's spans -/
theorem yearsOn_chain {e : Cl02.Decree} (h : EOk e) {x : Nat} {a b : Cl02.Turn} (q : e.summer = some (x, a, b)) {upto : Int} (hu : (e.from_ : Int) < upto) (y : Nat) :
    ∀ n : Nat, Chain (aheadBy (dOf e)) (max (e.from_ : Int) (min (yearStart y * 1440) upto)) (yearsOn (dOf e) upto y n) (max (e.from_ : Int) (min (yearStart ((y + n : Nat) : Int) * 1440) upto))
  | 0 => .nil _
  | n + 1 => by
    show Chain _ _ (yearsOn (dOf e) upto y n ++ clip (dOf e).since upto (yearSpans (dOf e) ((y : Int) + (n : Int)))) _
    refine (yearsOn_chain h q hu y n).append ?_
    have k := clip_chain (s := (dOf e).since) (t := upto) (by rw [dOf_since]; exact hu) (yearSpans_loose h q (y + n))
    rw [dOf_since] at k ⊢
    rw [show ((y + n : Nat) : Int) + 1 = ((y + (n + 1) : Nat) : Int) by omega] at k
    rw [show (y : Int) + (n : Int) = ((y + n : Nat) : Int) by omega]
    exact k
theorem yearsOn_length (d : D) (upto first : Int) : ∀ n : Nat, (yearsOn d upto first n).length ≤ 3 * n
  | 0 => by simp [yearsOn]
  | n + 1 => by
    have := yearsOn_length d upto first n
    have k := clip_length d.since upto (yearSpans d (first + (n : Int)))
    have k3 : (yearSpans d (first + (n : Int))).length = 3 := rfl
    rw [yearsOn, List.length_append]
    omega
theorem decreeSpans_chain {e : Cl02.Decree} (h : EOk e) {upto : Int} (hu : (e.from_ : Int) < upto) : Chain (aheadBy (dOf e)) (e.from_ : Int) (decreeSpans (dOf e) upto) upto := by
  unfold decreeSpans
  cases q : e.summer with
  | none =>
    rw [dOf_none q]
    simp only [Int.lt_irrefl, gt_iff_lt, if_false]
    refine .cons hu (fun u _ _ => ?_) (.nil _)
    unfold aheadBy
    simp
  | some s =>
    obtain ⟨x, a, b⟩ := s
    have ok := h.sum _ q
    have x1 : 1 ≤ x := ok.x1
    have m : (dOf e).more = (x : Int) := by rw [dOf_some q]
    rw [if_pos (by omega), dOf_since]
    obtain ⟨w, hw⟩ : ∃ w : Nat, upto - 1 = (w : Int) := ⟨(upto - 1).toNat, by omega⟩
    rw [hw, yearOf_at, yearOf_at]
    have lo := (yearOf_iff (e.from_ / 1440) _).mp rfl
    have hi := (yearOf_iff (w / 1440) _).mp rfl
    have mono := yearOf_mono (m := e.from_ / 1440) (n := w / 1440) (by omega)
    generalize Cl01.yearOf (e.from_ / 1440) = y at *
    generalize Cl01.yearOf (w / 1440) = z at *
    have k := yearsOn_chain h q hu y ((z : Int) + 1 - (y : Int)).toNat
    rw [show y + ((z : Int) + 1 - (y : Int)).toNat = z + 1 by omega, ys_cast, ys_cast] at k
    rw [show max (e.from_ : Int) (min (((365 * y + (y + 3) / 4 : Nat) : Int) * 1440) upto) = (e.from_ : Int) by omega, show max (e.from_ : Int) (min (((365 * (z + 1) + (z + 1 + 3) / 4 : Nat) : Int) * 1440) upto) = upto by omega] at k
    exact k
theorem decreeSpans_length {d : D} {upto : Int} (h0 : 0 ≤ d.since) (h1 : d.since < upto) (h2 : upto ≤ 52596000) : (decreeSpans d upto).length ≤ 300 := by
  unfold decreeSpans
  split
  · obtain ⟨v, hv⟩ : ∃ w : Nat, d.since = (w : Int) := ⟨d.since.toNat, by omega⟩
    obtain ⟨w, hw⟩ : ∃ w : Nat, upto - 1 = (w : Int) := ⟨(upto - 1).toNat, by omega⟩
    have k := yearsOn_length d upto (yearOf (d.since / 1440)) (yearOf ((upto - 1) / 1440) + 1 - yearOf (d.since / 1440)).toNat
    rw [hv, hw, yearOf_at, yearOf_at] at k
    rw [hv, hw, yearOf_at, yearOf_at]
    have hi := (yearOf_iff (w / 1440) _).mp rfl
    omega
  · simp
/-! ### a place's spans -/
structure POk (p : Cl02.Place) : Prop where
  first : ∃ e r, p = e :: r ∧ e.from_ = 0
  up : p.Pairwise fun d e => d.from_ < e.from_
  all : ∀ e ∈ p, EOk e
  few : p.length ≤ 8
theorem force_keep {u : Int} {f : D} : ∀ {l : List D}, (∀ d ∈ l, ¬ d.since ≤ u) → force u f l = f
  | [], _ => rfl
  | d :: l, h => by
    show force u (if d.since ≤ u then d else f) l = f
    rw [if_neg (h d (List.mem_cons_self ..))]
    exact force_keep fun e he => h e (List.mem_cons_of_mem _ he)
theorem force_append (u : Int) (f : D) (l m : List D) : force u f (l ++ m) = force u (force u f l) m := List.foldl_append ..
theorem force_at {u : Int} {f d : D} {l m : List D} (h : d.since ≤ u) (k : ∀ e ∈ m, ¬ e.since ≤ u) : force u f (l ++ d :: m) = d := by
  rw [force_append]
  show force u (if d.since ≤ u then d else _) m = d
  rw [if_pos h]
  exact force_keep k
theorem split_at {α : Type} {l : List α} {i : Nat} {x : α} (h : l[i]? = some x) : l = l.take i ++ x :: l.drop (i + 1) := by
  obtain ⟨hi, e⟩ := List.getElem?_eq_some_iff.mp h
  have k := List.drop_eq_getElem_cons hi
  rw [e] at k
  rw [← k, List.take_append_drop]
theorem inForce_at {p : Cl02.Place} (h : POk p) {i : Nat} {e : Cl02.Decree} (hi : p[i]? = some e) {u : Int} (h1 : (e.from_ : Int) ≤ u) (h2 : u < uptoOf (p.map dOf) i) : inForce (p.map dOf) u = dOf e := by
  unfold inForce
  have hs := split_at hi
  have hq : p.map dOf = (p.take i).map dOf ++ dOf e :: (p.drop (i + 1)).map dOf := by
    conv => lhs; rw [hs]
    rw [List.map_append, List.map_cons]
  generalize (p.map dOf).headD (plain 0 0) = f
  rw [hq]
  refine force_at (by rw [dOf_since]; exact h1) fun d hd => ?_
  obtain ⟨g, hg, rfl⟩ := List.mem_map.mp hd
  rw [dOf_since]
  unfold uptoOf at h2
  rw [List.getElem?_map] at h2
  obtain ⟨j, hj, ej⟩ := List.getElem_of_mem hg
  rw [List.getElem_drop] at ej
  have hlen : i + 1 + j < p.length := by
    rw [List.length_drop] at hj
    omega
  have h3 : p[i + 1]? = some (p[i + 1]'(by omega)) := List.getElem?_eq_getElem _
  rw [h3] at h2
  dsimp only [Option.map_some] at h2
  rw [dOf_since] at h2
  by_cases c : j = 0
  · subst c
    have : p[i + 1]'(by omega) = g := ej
    rw [this] at h2
    omega
  · have := List.pairwise_iff_getElem.mp h.up (i + 1) (i + 1 + j) (by omega) hlen (by omega)
    rw [ej] at this
    omega
/-- where the i-th decree begins; behind the last one: the end -/
def beginOf (p : Cl02.Place) (i : Nat) : Int := match p[i]? with
  | some e => (e.from_ : Int)
  | none => 52596000
theorem uptoOf_eq (p : Cl02.Place) (i : Nat) : uptoOf (p.map dOf) i = beginOf p (i + 1) := by
  unfold uptoOf beginOf
  rw [List.getElem?_map]
  cases p[i + 1]? with
  | none => rfl
  | some e => exact dOf_since e
theorem begin_lt {p : Cl02.Place} (h : POk p) {i : Nat} {e : Cl02.Decree} (hi : p[i]? = some e) : (e.from_ : Int) < beginOf p (i + 1) ∧ beginOf p (i + 1) ≤ 52596000 := by
  obtain ⟨hl, ee⟩ := List.getElem?_eq_some_iff.mp hi
  have he := (h.all e (List.mem_of_getElem? hi)).lt
  unfold beginOf
  cases q : p[i + 1]? with
  | none => exact ⟨by dsimp only; omega, by dsimp only; omega⟩
  | some g =>
    have hg := (h.all g (List.mem_of_getElem? q)).lt
    obtain ⟨hl2, eg⟩ := List.getElem?_eq_some_iff.mp q
    have := List.pairwise_iff_getElem.mp h.up i (i + 1) hl hl2 (by omega)
    rw [ee, eg] at this
    exact ⟨by dsimp only; omega, by dsimp only; omega⟩
theorem placesOn_chain {p : Cl02.Place} (h : POk p) : ∀ n : Nat, n ≤ p.length → Chain (aheadAt (p.map dOf)) 0 (placesOn (p.map dOf) n) (beginOf p n)
  | 0, _ => by
    obtain ⟨e, r, rfl, q⟩ := h.first
    show Chain _ 0 [] ((e.from_ : Nat) : Int)
    rw [q]
    exact .nil _
  | n + 1, hn => by
    obtain ⟨e, he⟩ : ∃ e, p[n]? = some e := ⟨_, List.getElem?_eq_getElem (by omega)⟩
    show Chain _ 0 (placesOn (p.map dOf) n ++ (match (p.map dOf)[n]? with
      | some d => decreeSpans d (uptoOf (p.map dOf) n)
      | none => [])) _
    refine (placesOn_chain h n (by omega)).append ?_
    rw [List.getElem?_map, he]
    dsimp only [Option.map_some]
    have b := begin_lt h he
    have k := decreeSpans_chain (h.all e (List.mem_of_getElem? he)) b.1
    rw [uptoOf_eq]
    have e0 : beginOf p n = (e.from_ : Int) := by
      unfold beginOf
      rw [he]
    rw [e0]
    refine k.congr fun u h1 h2 => ?_
    unfold aheadAt
    rw [inForce_at h he h1 (by rw [uptoOf_eq]; exact h2)]
theorem placesOn_length {p : Cl02.Place} (h : POk p) : ∀ n : Nat, n ≤ p.length → (placesOn (p.map dOf) n).length ≤ 300 * n
  | 0, _ => by simp [placesOn]
  | n + 1, hn => by
    obtain ⟨e, he⟩ : ∃ e, p[n]? = some e := ⟨_, List.getElem?_eq_getElem (by omega)⟩
    have ih := placesOn_length h n (by omega)
    have b := begin_lt h he
    have k := decreeSpans_length (d := dOf e) (upto := beginOf p (n + 1)) (by rw [dOf_since]; omega) (by rw [dOf_since]; exact b.1) b.2
    rw [placesOn, List.length_append, List.getElem?_map, he]
    dsimp only [Option.map_some]
    rw [uptoOf_eq]
    omega
theorem placeSpans_chain {p : Cl02.Place} (h : POk p) : Chain (aheadAt (p.map dOf)) 0 (placeSpans (p.map dOf)) 52596000 := by
  have k := placesOn_chain h p.length (Nat.le_refl _)
  have e : beginOf p p.length = 52596000 := by
    unfold beginOf
    rw [List.getElem?_eq_none (Nat.le_refl _)]
  rw [e] at k
  unfold placeSpans
  rw [List.length_map]
  exact k
theorem placeSpans_length {p : Cl02.Place} (h : POk p) : (placeSpans (p.map dOf)).length ≤ 2400 := by
  have k := placesOn_length h p.length (Nat.le_refl _)
  have := h.few
  unfold placeSpans
  rw [List.length_map]
  omega
/-! ### what a chain tells -/
theorem within_mem {f : Int → Int} {a c z : Int} {l : List Span} (h : Chain f a l c) (m : Int) : m ∈ within l z ↔ a ≤ m ∧ m < c ∧ m + f m = z := by
  induction h with
  | nil =>
    simp only [within, List.filterMap_nil, List.not_mem_nil, false_iff]
    omega
  | @cons a b c x l p q r ih =>
    have hle := r.le
    have e : m ∈ within ((a, b, x) :: l) z ↔ (a ≤ z - x ∧ z - x < b ∧ m = z - x) ∨ m ∈ within l z := by
      unfold within
      rw [List.filterMap_cons]
      dsimp only
      by_cases k : a ≤ z - x ∧ z - x < b
      · rw [if_pos k, List.mem_cons]
        constructor
        · rintro (h | h)
          · exact .inl ⟨k.1, k.2, h⟩
          · exact .inr h
        · rintro (h | h)
          · exact .inl h.2.2
          · exact .inr h
      · rw [if_neg k]
        constructor
        · exact .inr
        · rintro (h | h)
          · exact absurd ⟨h.1, h.2.1⟩ k
          · exact h
    rw [e, ih]
    constructor
    · rintro (h | h)
      · obtain ⟨h1, h2, rfl⟩ := h
        rw [q _ h1 h2]
        omega
      · omega
    · intro ⟨h1, h2, h3⟩
      by_cases k : m < b
      · have := q m h1 k
        rw [this] at h3
        exact .inl (by omega)
      · exact .inr ⟨by omega, h2, h3⟩
theorem within_up {f : Int → Int} {a c z : Int} {l : List Span} (h : Chain f a l c) : (within l z).Pairwise (· < ·) := by
  induction h with
  | nil => exact .nil
  | @cons a b c x l p q r ih =>
    unfold within
    rw [List.filterMap_cons]
    dsimp only
    by_cases k : a ≤ z - x ∧ z - x < b
    · rw [if_pos k]
      refine .cons (fun m hm => ?_) ih
      have := ((within_mem r m).mp hm).1
      omega
    · rw [if_neg k]
      exact ih
theorem within_length (l : List Span) (z : Int) : (within l z).length ≤ l.length := List.length_filterMap_le _ _
theorem beyond_some {f : Int → Int} {a c z m : Int} {l : List Span} (h : Chain f a l c) (e : beyond l z = some m) : a ≤ m ∧ m < c ∧ z < m + f m ∧ ∀ u, a ≤ u → u < m → ¬ z < u + f u := by
  induction h with
  | nil => cases e
  | @cons a b c x l p q r ih =>
    have hle := r.le
    unfold beyond at e ih
    rw [List.findSome?_cons] at e
    by_cases k : max a (z - x + 1) < b
    · dsimp only at e
      rw [if_pos k] at e
      obtain rfl := Option.some.inj e
      refine ⟨by omega, by omega, ?_, fun u h1 h2 => ?_⟩
      · rw [q _ (by omega) k]
        omega
      · rw [q u h1 (by omega)]
        omega
    · dsimp only at e
      rw [if_neg k] at e
      obtain ⟨h1, h2, h3, h4⟩ := ih e
      refine ⟨by omega, h2, h3, fun u h5 h6 => ?_⟩
      by_cases c : u < b
      · rw [q u h5 c]
        omega
      · exact h4 u (by omega) h6
theorem beyond_none {f : Int → Int} {a c z : Int} {l : List Span} (h : Chain f a l c) (e : beyond l z = none) : ∀ u, a ≤ u → u < c → ¬ z < u + f u := by
  induction h with
  | nil => intro u h1 h2; omega
  | @cons a b c x l p q r ih =>
    unfold beyond at e ih
    rw [List.findSome?_cons] at e
    intro u h5 h6
    by_cases k : max a (z - x + 1) < b
    · dsimp only at e
      rw [if_pos k] at e
      cases e
    · dsimp only at e
      rw [if_neg k] at e
      by_cases c : u < b
      · rw [q u h5 c]
        omega
      · exact ih e u (by omega) h6
theorem changeIn_some {f : Int → Int} {b c u : Int} {l : List Span} (h : Chain f b l c) : ∀ {p : Span} {r : List Int}, f (b - 1) = p.2.2 → changeIn u p l = some r →
    ∃ t, r = [t, f (t - 1), f t] ∧ b ≤ t ∧ t < c ∧ u < t ∧ f (t - 1) ≠ f t ∧ ∀ v, b ≤ v → v < t → ¬ (u < v ∧ f (v - 1) ≠ f v) := by
  induction h with
  | nil => intro p r _ e; cases e
  | @cons a b c x l hab q k ih =>
    intro p r hp e
    have hle := k.le
    have ha := q a (by omega) hab
    unfold changeIn at e
    by_cases d : a > u ∧ x ≠ p.2.2
    · dsimp only at e
      rw [if_pos d] at e
      obtain rfl := Option.some.inj e
      exact ⟨a, by rw [hp, ha], by omega, by omega, d.1, by rw [hp, ha]; exact Ne.symm d.2, fun v h1 h2 => by omega⟩
    · dsimp only at e
      rw [if_neg d] at e
      obtain ⟨t, h1, h2, h3, h4, h5, h6⟩ := ih (q (b - 1) (by omega) (by omega)) e
      refine ⟨t, h1, by omega, h3, h4, h5, fun v h7 h8 => ?_⟩
      by_cases va : v = a
      · subst va
        rw [hp, ha]
        intro z
        exact d ⟨z.1, Ne.symm z.2⟩
      · by_cases vb : v < b
        · rw [q (v - 1) (by omega) (by omega), q v h7 vb]
          omega
        · exact h6 v (by omega) h8
theorem changeIn_none {f : Int → Int} {b c u : Int} {l : List Span} (h : Chain f b l c) : ∀ {p : Span}, f (b - 1) = p.2.2 → changeIn u p l = none →
    ∀ v, b ≤ v → v < c → ¬ (u < v ∧ f (v - 1) ≠ f v) := by
  induction h with
  | nil => intro p _ _ v h1 h2; omega
  | @cons a b c x l hab q k ih =>
    intro p hp e v h7 h8
    have ha := q a (by omega) hab
    unfold changeIn at e
    by_cases d : a > u ∧ x ≠ p.2.2
    · dsimp only at e
      rw [if_pos d] at e
      cases e
    · dsimp only at e
      rw [if_neg d] at e
      by_cases va : v = a
      · subst va
        rw [hp, ha]
        intro z
        exact d ⟨z.1, Ne.symm z.2⟩
      · by_cases vb : v < b
        · rw [q (v - 1) (by omega) (by omega), q v h7 vb]
          omega
        · exact ih (q (b - 1) (by omega) (by omega)) e v (by omega) h8
end Pc
/-! What the specification says of a place, and that the mirror says the same. -/
namespace Pc
/-! ### put in order, each once -/
theorem insert_mem (a x : Nat) : ∀ l : List Nat, x ∈ Cl01.insert (fun (x y : Nat) => decide (x < y)) a l ↔ x = a ∨ x ∈ l
  | [] => by simp [Cl01.insert]
  | b :: l => by
    have ih := insert_mem a x l
    unfold Cl01.insert
    by_cases h : a = b
    · rw [if_pos h]
      subst h
      simp
    · rw [if_neg h]
      by_cases k : a < b
      · rw [if_pos (decide_eq_true k)]
        simp
      · rw [if_neg (by simp [k])]
        rw [List.mem_cons, ih, List.mem_cons]
        constructor
        · rintro (h | h | h)
          · exact .inr (.inl h)
          · exact .inl h
          · exact .inr (.inr h)
        · rintro (h | h | h)
          · exact .inr (.inl h)
          · exact .inl h
          · exact .inr (.inr h)
theorem insert_up (a : Nat) : ∀ {l : List Nat}, l.Pairwise (· < ·) → (Cl01.insert (fun (x y : Nat) => decide (x < y)) a l).Pairwise (· < ·)
  | [], _ => by simp [Cl01.insert]
  | b :: l, h => by
    obtain ⟨h1, h2⟩ := List.pairwise_cons.mp h
    unfold Cl01.insert
    by_cases e : a = b
    · rw [if_pos e]
      exact h
    · rw [if_neg e]
      by_cases k : a < b
      · rw [if_pos (decide_eq_true k)]
        refine .cons (fun x hx => ?_) h
        rcases List.mem_cons.mp hx with r | r
        · omega
        · have := h1 x r
          omega
      · rw [if_neg (by simp [k])]
        refine .cons (fun x hx => ?_) (insert_up a h2)
        rcases (insert_mem a x l).mp hx with r | r
        · omega
        · exact h1 x r
theorem sorted_aux (x : Nat) : ∀ (l m : List Nat), m.Pairwise (· < ·) →
    (x ∈ l.foldl (fun (m : List Nat) (a : Nat) => Cl01.insert (fun (x y : Nat) => decide (x < y)) a m) m ↔ x ∈ l ∨ x ∈ m) ∧
    (l.foldl (fun (m : List Nat) (a : Nat) => Cl01.insert (fun (x y : Nat) => decide (x < y)) a m) m).Pairwise (· < ·)
  | [], m, h => by simp [h]
  | a :: l, m, h => by
    rw [List.foldl_cons]
    obtain ⟨k1, k2⟩ := sorted_aux x l _ (insert_up a h)
    refine ⟨?_, k2⟩
    rw [k1, insert_mem, List.mem_cons]
    constructor
    · rintro (h | h | h)
      · exact .inl (.inr h)
      · exact .inl (.inl h)
      · exact .inr h
    · rintro ((h | h) | h)
      · exact .inr (.inl h)
      · exact .inl h
      · exact .inr (.inr h)
theorem sorted_mem (x : Nat) (l : List Nat) : x ∈ Cl01.sorted l ↔ x ∈ l := by
  have := (sorted_aux x l [] .nil).1
  unfold Cl01.sorted
  rw [this]
  simp
theorem sorted_up (l : List Nat) : (Cl01.sorted l).Pairwise (· < ·) := (sorted_aux 0 l [] .nil).2
/-- two rising lists with the same members are one -/
theorem rising_eq : ∀ {l m : List Int}, l.Pairwise (· < ·) → m.Pairwise (· < ·) → (∀ x, x ∈ l ↔ x ∈ m) → l = m
  | [], [], _, _, _ => rfl
  | [], b :: m, _, _, h => by
    have := (h b).mpr (List.mem_cons_self ..)
    cases this
  | a :: l, [], _, _, h => by
    have := (h a).mp (List.mem_cons_self ..)
    cases this
  | a :: l, b :: m, hl, hm, h => by
    obtain ⟨l1, l2⟩ := List.pairwise_cons.mp hl
    obtain ⟨m1, m2⟩ := List.pairwise_cons.mp hm
    have e : a = b := by
      rcases List.mem_cons.mp ((h a).mp (List.mem_cons_self ..)) with r | r
      · exact r
      · rcases List.mem_cons.mp ((h b).mpr (List.mem_cons_self ..)) with s | s
        · exact s.symm
        · have p1 := m1 a r
          have p2 := l1 b s
          omega
    subst e
    congr 1
    refine rising_eq l2 m2 fun x => ⟨fun hx => ?_, fun hx => ?_⟩
    · rcases List.mem_cons.mp ((h x).mp (List.mem_cons_of_mem _ hx)) with r | r
      · have := l1 x hx
        omega
      · exact r
    · rcases List.mem_cons.mp ((h x).mpr (List.mem_cons_of_mem _ hx)) with r | r
      · have := m1 x hx
        omega
      · exact r
/-- the first one of a rising list that has it, is the least -/
theorem find_least {P : Nat → Bool} : ∀ {l : List Nat} {t : Nat}, l.Pairwise (· < ·) → t ∈ l → P t = true → (∀ s ∈ l, P s = true → t ≤ s) → l.find? P = some t
  | [], _, _, h, _, _ => by cases h
  | a :: l, t, hl, h, ht, k => by
    obtain ⟨l1, l2⟩ := List.pairwise_cons.mp hl
    rw [List.find?_cons]
    cases c : P a with
    | true =>
      have h1 := k a (List.mem_cons_self ..) c
      rcases List.mem_cons.mp h with r | r
      · rw [r]
      · have := l1 t r
        omega
    | false =>
      rcases List.mem_cons.mp h with r | r
      · rw [r, c] at ht
        cases ht
      · exact find_least l2 r ht fun s hs => k s (List.mem_cons_of_mem _ hs)
theorem findSome_range {β : Type} {f : Nat → Option β} {v : β} : ∀ {n k : Nat}, k < n → f k = some v → (∀ j, j < k → f j = none) → (List.range n).findSome? f = some v
  | 0, k, h, _, _ => by omega
  | n + 1, k, h, hk, hj => by
    rw [List.range_succ, List.findSome?_append]
    by_cases c : k < n
    · rw [findSome_range c hk hj]
      rfl
    · have e : k = n := by omega
      subst e
      have : (List.range k).findSome? f = none := List.findSome?_eq_none_iff.mpr fun x hx => hj x (List.mem_range.mp hx)
      rw [this]
      simp [hk]
/-! ### the decree in force -/
theorem force_cast (u : Nat) : ∀ (l : List Cl02.Decree) (f : Cl02.Decree), force (u : Int) (dOf f) (l.map dOf) = dOf (((l.filter fun (d : Cl02.Decree) => decide (d.from_ ≤ u)).getLast?).getD f)
  | [], _ => rfl
  | d :: l, f => by
    show force (u : Int) (if (dOf d).since ≤ (u : Int) then dOf d else dOf f) (l.map dOf) = _
    rw [dOf_since]
    by_cases c : d.from_ ≤ u
    · rw [if_pos (by omega), force_cast u l d, List.filter_cons, if_pos (decide_eq_true c), List.getLast?_cons]
      rfl
    · rw [if_neg (by omega), force_cast u l f, List.filter_cons, if_neg (by simp [c])]
theorem filter_ne {p : Cl02.Place} (h : POk p) (u : Nat) : ∃ e, (p.filter fun (d : Cl02.Decree) => decide (d.from_ ≤ u)).getLast? = some e ∧ e ∈ p ∧ e.from_ ≤ u := by
  obtain ⟨e, r, rfl, q⟩ := h.first
  cases k : ((e :: r).filter fun (d : Cl02.Decree) => decide (d.from_ ≤ u)).getLast? with
  | none =>
    have := List.getLast?_eq_none_iff.mp k
    have m : e ∈ (e :: r).filter fun (d : Cl02.Decree) => decide (d.from_ ≤ u) := by
      rw [List.mem_filter]
      exact ⟨List.mem_cons_self .., decide_eq_true (by omega)⟩
    rw [this] at m
    cases m
  | some g =>
    have m := List.mem_filter.mp (List.mem_of_getLast? k)
    exact ⟨g, rfl, m.1, of_decide_eq_true m.2⟩
theorem inForce_cast {p : Cl02.Place} (h : POk p) (u : Nat) : inForce (p.map dOf) (u : Int) = dOf (Cl02.inForce p u) := by
  obtain ⟨e, r, q, _⟩ := h.first
  obtain ⟨g, hg, _⟩ := filter_ne h u
  have e1 : (p.map dOf).headD (plain 0 0) = dOf e := by
    rw [q]
    rfl
  unfold inForce Cl02.inForce
  rw [e1, force_cast, hg]
  rfl
theorem inForce_mem {p : Cl02.Place} (h : POk p) (u : Nat) : Cl02.inForce p u ∈ p := by
  obtain ⟨g, hg, m, _⟩ := filter_ne h u
  unfold Cl02.inForce
  rw [hg]
  exact m
theorem aheadAt_cast {p : Cl02.Place} (h : POk p) (u : Nat) : aheadAt (p.map dOf) (u : Int) = Cl02.offsetAt p u := by
  unfold aheadAt Cl02.offsetAt
  rw [inForce_cast h, aheadBy_cast (h.all _ (inForce_mem h u))]
theorem ahead_bounds {e : Cl02.Decree} (h : EOk e) (u : Nat) : -840 ≤ Cl02.ahead e u ∧ Cl02.ahead e u ≤ 960 := by
  have h1 := h.lo
  have h2 := h.hi
  unfold Cl02.ahead
  cases q : e.summer with
  | none =>
    dsimp only
    omega
  | some s =>
    have k := h.sum _ q
    obtain ⟨x, a, b⟩ := s
    have x1 : x ≤ 120 := k.x120
    dsimp only
    split <;> split <;> omega
theorem offsetAt_bounds {p : Cl02.Place} (h : POk p) (u : Nat) : -840 ≤ Cl02.offsetAt p u ∧ Cl02.offsetAt p u ≤ 960 := ahead_bounds (h.all _ (inForce_mem h u)) u
theorem ahead_mem {e : Cl02.Decree} (u : Nat) : Cl02.ahead e u ∈ (match e.summer with
    | none => [e.offset]
    | some (x, _, _) => [e.offset, e.offset + (x : Int)]) := by
  unfold Cl02.ahead
  cases e.summer with
  | none => exact List.mem_cons_self ..
  | some s =>
    obtain ⟨x, a, b⟩ := s
    simp only [List.mem_cons, List.not_mem_nil, or_false]
    split <;> split <;> omega
theorem offsetAt_mem {p : Cl02.Place} (h : POk p) (u : Nat) : Cl02.offsetAt p u ∈ Cl02.offsets p := List.mem_flatMap.mpr ⟨_, inForce_mem h u, ahead_mem u⟩
/-! ### all moments at which clocks show that -/
theorem momentsOf_mem {p : Cl02.Place} (h : POk p) (z : Int) (u : Nat) : u ∈ Cl02.momentsOf p z ↔ u < 52596000 ∧ Cl02.shown p u = z := by
  unfold Cl02.momentsOf
  rw [sorted_mem, List.mem_filterMap]
  constructor
  · rintro ⟨x, _, e⟩
    by_cases c : Cl02.isMoment (z - x) = true ∧ Cl02.shown p (z - x).toNat = z
    · rw [if_pos c] at e
      obtain rfl := Option.some.inj e
      obtain ⟨c1, c2⟩ := c
      rw [isMoment_eq, isMoment_iff] at c1
      exact ⟨by omega, c2⟩
    · rw [if_neg c] at e
      cases e
  · rintro ⟨h1, h2⟩
    have h3 : (u : Int) + Cl02.offsetAt p u = z := h2
    refine ⟨Cl02.offsetAt p u, offsetAt_mem h u, ?_⟩
    have e : z - Cl02.offsetAt p u = (u : Int) := by omega
    rw [e, Int.toNat_natCast, if_pos]
    refine ⟨?_, h2⟩
    rw [isMoment_eq, isMoment_iff]
    omega
theorem within_eq {p : Cl02.Place} (h : POk p) (z : Int) : within (placeSpans (p.map dOf)) z = (Cl02.momentsOf p z).map fun (u : Nat) => (u : Int) := by
  have k := placeSpans_chain h
  refine rising_eq (within_up k) ?_ fun m => ?_
  · refine List.Pairwise.map _ (fun a b q => ?_) (sorted_up _)
    show (a : Int) < b
    omega
  · rw [within_mem k, List.mem_map]
    constructor
    · rintro ⟨h1, h2, h3⟩
      obtain ⟨u, rfl⟩ : ∃ u : Nat, m = (u : Int) := ⟨m.toNat, by omega⟩
      rw [aheadAt_cast h] at h3
      exact ⟨u, (momentsOf_mem h z u).mpr ⟨by omega, h3⟩, rfl⟩
    · rintro ⟨u, hu, rfl⟩
      obtain ⟨h1, h2⟩ := (momentsOf_mem h z u).mp hu
      rw [aheadAt_cast h]
      exact ⟨by omega, by omega, h2⟩
/-! ### clocks jump at turns alone -/
theorem yearOf_pred {t : Nat} (h : 0 < t) : Cl01.yearOf ((t - 1) / 1440) = Cl01.yearOf (t / 1440) ∨
    (t = 1440 * (365 * Cl01.yearOf (t / 1440) + (Cl01.yearOf (t / 1440) + 3) / 4) ∧ Cl01.yearOf (t / 1440) = Cl01.yearOf ((t - 1) / 1440) + 1) := by
  have h1 := (yearOf_iff (t / 1440) _).mp rfl
  have h2 := (yearOf_iff ((t - 1) / 1440) _).mp rfl
  generalize Cl01.yearOf (t / 1440) = y at *
  generalize Cl01.yearOf ((t - 1) / 1440) = z at *
  omega
theorem ahead_step {e : Cl02.Decree} (h : EOk e) {t : Nat} (ht : 0 < t) (k : ∀ x a b, e.summer = some (x, a, b) → t ≠ Cl02.turnAt (Cl01.yearOf (t / 1440)) a ∧ t ≠ Cl02.turnAt (Cl01.yearOf (t / 1440)) b) :
    Cl02.ahead e (t - 1) = Cl02.ahead e t := by
  unfold Cl02.ahead
  cases q : e.summer with
  | none => rfl
  | some s =>
    obtain ⟨x, a, b⟩ := s
    obtain ⟨na, nb⟩ := k x a b q
    obtain ⟨_, _, ha, hb, ne⟩ := h.sum _ q
    dsimp only at ha hb ne ⊢
    rcases yearOf_pred ht with r | ⟨r1, r2⟩
    · rw [r]
      generalize Cl02.turnAt (Cl01.yearOf (t / 1440)) a = A at *
      generalize Cl02.turnAt (Cl01.yearOf (t / 1440)) b = B at *
      have e1 : (A ≤ t - 1) ↔ (A ≤ t) := by omega
      have e2 : (t - 1 < B) ↔ (t < B) := by omega
      simp only [e1, e2]
    · rw [r2] at na nb r1 ⊢
      generalize Cl01.yearOf ((t - 1) / 1440) = y at *
      have ab := turnAt_lt_iff y a b ha hb ne
      have ab' := turnAt_lt_iff (y + 1) a b ha hb ne
      have a1 := turnAt_year y a ha
      have b1 := turnAt_year y b hb
      have a2 := turnAt_year (y + 1) a ha
      have b2 := turnAt_year (y + 1) b hb
      generalize Cl02.turnAt y a = A at *
      generalize Cl02.turnAt y b = B at *
      generalize Cl02.turnAt (y + 1) a = A' at *
      generalize Cl02.turnAt (y + 1) b = B' at *
      have f1 : A ≤ t - 1 := by omega
      have f2 : ¬ t - 1 < B := by omega
      have f3 : ¬ A' ≤ t := by omega
      have f4 : t < B' := by omega
      by_cases c : a.month < b.month
      · simp only [ab.mpr c, ab'.mpr c, f1, f2, f3, f4]
        rfl
      · have c1 : ¬ A < B := fun z => c (ab.mp z)
        have c2 : ¬ A' < B' := fun z => c (ab'.mp z)
        simp only [c1, c2, f1, f2, f3, f4]
        rfl
theorem jump {p : Cl02.Place} (h : POk p) {t : Nat} (ht : 0 < t) (hm : t < 52596000) (ne : Cl02.offsetAt p (t - 1) ≠ Cl02.offsetAt p t) : t ∈ Cl02.turns p (Cl01.yearOf (t / 1440)) := by
  by_cases c : t ∈ Cl02.turns p (Cl01.yearOf (t / 1440))
  · exact c
  · refine absurd ?_ ne
    have mem : ∀ e ∈ p, t ≠ e.from_ ∧ ∀ x a b, e.summer = some (x, a, b) → t ≠ Cl02.turnAt (Cl01.yearOf (t / 1440)) a ∧ t ≠ Cl02.turnAt (Cl01.yearOf (t / 1440)) b := by
      intro e he
      have no : t ∉ (e.from_ :: match e.summer with
          | none => []
          | some (_, a, b) => [Cl02.turnAt (Cl01.yearOf (t / 1440)) a, Cl02.turnAt (Cl01.yearOf (t / 1440)) b]) := by
        intro z
        refine c ?_
        unfold Cl02.turns
        rw [List.mem_filter]
        refine ⟨List.mem_flatMap.mpr ⟨e, he, z⟩, ?_⟩
        rw [Bool.and_eq_true, beq_iff_eq]
        exact ⟨decide_eq_true hm, rfl⟩
      refine ⟨fun z => no (by rw [z]; exact List.mem_cons_self ..), fun x a b q => ?_⟩
      rw [q] at no
      dsimp only at no
      simp only [List.mem_cons, List.not_mem_nil, or_false, not_or] at no
      exact ⟨no.2.1, no.2.2⟩
    have e1 : Cl02.inForce p (t - 1) = Cl02.inForce p t := by
      unfold Cl02.inForce
      have : (p.filter fun (d : Cl02.Decree) => decide (d.from_ ≤ t - 1)) = p.filter fun (d : Cl02.Decree) => decide (d.from_ ≤ t) := by
        refine List.filter_congr fun d hd => ?_
        have := (mem d hd).1
        have q : (d.from_ ≤ t - 1) ↔ (d.from_ ≤ t) := by omega
        simp only [q]
      rw [this]
    unfold Cl02.offsetAt
    rw [e1]
    have m := inForce_mem h t
    exact ahead_step (h.all _ m) ht (mem _ m).2
theorem turns_mem {p : Cl02.Place} {y t : Nat} (h : t ∈ Cl02.turns p y) : t < 52596000 ∧ Cl01.yearOf (t / 1440) = y := by
  unfold Cl02.turns at h
  rw [List.mem_filter, Bool.and_eq_true, beq_iff_eq] at h
  exact ⟨of_decide_eq_true h.2.1, h.2.2⟩
/-! ### what's meant -/
theorem year99 {t : Nat} (h : t < 52596000) : Cl01.yearOf (t / 1440) ≤ 99 := by
  have := (yearOf_iff (t / 1440) _).mp rfl
  omega
theorem meant_all {p : Cl02.Place} (h : POk p) (z : Int) (no : ∀ u : Nat, u < 52596000 → Cl02.shown p u ≠ z) {t : Nat} (ht : t < 52596000) (hz : z < Cl02.shown p t) (least : ∀ u : Nat, u < t → ¬ z < Cl02.shown p u) :
    t ∈ (0 :: (Cl02.turns p ((if Cl02.isMoment z = true then Cl01.yearOf (z.toNat / 1440) else if z < 0 then 0 else 99) - 1) ++ (Cl02.turns p (if Cl02.isMoment z = true then Cl01.yearOf (z.toNat / 1440) else if z < 0 then 0 else 99) ++
      Cl02.turns p ((if Cl02.isMoment z = true then Cl01.yearOf (z.toNat / 1440) else if z < 0 then 0 else 99) + 1)))) := by
  by_cases c : t = 0
  · rw [c]
    exact List.mem_cons_self ..
  refine List.mem_cons_of_mem _ ?_
  have j := jump h (show 0 < t by omega) ht (by
    intro e
    have h1 := least (t - 1) (by omega)
    have h2 := no (t - 1) (by omega)
    have s1 : Cl02.shown p (t - 1) = ((t - 1 : Nat) : Int) + Cl02.offsetAt p (t - 1) := rfl
    have s2 : Cl02.shown p t = (t : Int) + Cl02.offsetAt p t := rfl
    omega)
  have b := offsetAt_bounds h t
  have s2 : Cl02.shown p t = (t : Int) + Cl02.offsetAt p t := rfl
  have up : (t : Int) ≤ z + 841 ∨ t = 0 := by
    by_cases q : (t : Int) ≤ z + 841
    · exact .inl q
    · by_cases q0 : z + 841 < 0
      · have := least 0 (by omega)
        have b0 := offsetAt_bounds h 0
        have s0 : Cl02.shown p 0 = ((0 : Nat) : Int) + Cl02.offsetAt p 0 := rfl
        omega
      · obtain ⟨v, hv⟩ : ∃ v : Nat, z + 841 = (v : Int) := ⟨(z + 841).toNat, by omega⟩
        have := least v (by omega)
        have b0 := offsetAt_bounds h v
        have s0 : Cl02.shown p v = (v : Int) + Cl02.offsetAt p v := rfl
        omega
  have y99 := year99 ht
  have yt := (yearOf_iff (t / 1440) _).mp rfl
  generalize Cl01.yearOf (t / 1440) = Y at *
  rw [List.mem_append, List.mem_append]
  by_cases m : Cl02.isMoment z = true
  · rw [if_pos m]
    rw [isMoment_eq, isMoment_iff] at m
    have yz := (yearOf_iff (z.toNat / 1440) _).mp rfl
    generalize Cl01.yearOf (z.toNat / 1440) = Z at *
    have : Y = Z - 1 ∨ Y = Z ∨ Y = Z + 1 := by omega
    rcases this with r | r | r
    · exact .inl (by rw [← r]; exact j)
    · exact .inr (.inl (by rw [← r]; exact j))
    · exact .inr (.inr (by rw [← r]; exact j))
  · rw [if_neg m]
    rw [isMoment_eq, isMoment_iff] at m
    by_cases n : z < 0
    · rw [if_pos n]
      have : Y = 0 := by omega
      exact .inr (.inl (by rw [← this]; exact j))
    · rw [if_neg n]
      have : Y = 99 := by omega
      exact .inr (.inl (by rw [← this]; exact j))
theorem least_of {P : Nat → Prop} [DecidablePred P] : ∀ {n : Nat}, P n → ∃ t, P t ∧ t ≤ n ∧ ∀ u, u < t → ¬ P u := by
  intro n
  induction n using Nat.strongRecOn with
  | ind n ih =>
    intro h
    by_cases c : ∃ u, u < n ∧ P u
    · obtain ⟨u, hu, hp⟩ := c
      obtain ⟨t, h1, h2, h3⟩ := ih u hu hp
      exact ⟨t, h1, by omega, h3⟩
    · exact ⟨n, h, Nat.le_refl _, fun u hu hp => c ⟨u, hu, hp⟩⟩
theorem meantAns_eq {p : Cl02.Place} (h : POk p) (z : Int) : meantNumbers (p.map dOf) z = Cl02.meantAns p z := by
  have k := placeSpans_chain h
  unfold meantNumbers Cl02.meantAns Cl02.meant
  rw [within_eq h]
  cases q : Cl02.momentsOf p z with
  | cons u r => rfl
  | nil =>
    have no : ∀ u : Nat, u < 52596000 → Cl02.shown p u ≠ z := by
      intro u hu e
      have := (momentsOf_mem h z u).mpr ⟨hu, e⟩
      rw [q] at this
      cases this
    dsimp only [List.map_nil, List.head?_nil]
    generalize hall : (0 :: (Cl02.turns p ((if Cl02.isMoment z = true then Cl01.yearOf (z.toNat / 1440) else if z < 0 then 0 else 99) - 1) ++ (Cl02.turns p (if Cl02.isMoment z = true then Cl01.yearOf (z.toNat / 1440) else if z < 0 then 0 else 99) ++
      Cl02.turns p ((if Cl02.isMoment z = true then Cl01.yearOf (z.toNat / 1440) else if z < 0 then 0 else 99) + 1)))) = all
    have lim : ∀ s ∈ Cl01.sorted all, s < 52596000 := by
      intro s hs
      rw [sorted_mem, ← hall] at hs
      rcases List.mem_cons.mp hs with r | r
      · omega
      · rw [List.mem_append, List.mem_append] at r
        rcases r with r | r | r
        · exact (turns_mem r).1
        · exact (turns_mem r).1
        · exact (turns_mem r).1
    cases b : beyond (placeSpans (p.map dOf)) z with
    | none =>
      have nb := beyond_none k b
      have : (Cl01.sorted all).find? (fun (t : Nat) => decide (z - Cl02.WIDE ≤ (t : Int)) && decide (z < Cl02.shown p t)) = none := by
        rw [List.find?_eq_none]
        intro s hs c
        rw [Bool.and_eq_true, decide_eq_true_iff, decide_eq_true_iff] at c
        have l := lim s hs
        have n := nb (s : Int) (by omega) (by omega)
        rw [aheadAt_cast h] at n
        exact n c.2
      rw [this]
      rfl
    | some m =>
      obtain ⟨h1, h2, h3, h4⟩ := beyond_some k b
      obtain ⟨t, rfl⟩ : ∃ t : Nat, m = (t : Int) := ⟨m.toNat, by omega⟩
      rw [aheadAt_cast h] at h3
      have ht : t < 52596000 := by omega
      have least : ∀ u : Nat, u < t → ¬ z < Cl02.shown p u := by
        intro u hu c
        have n := h4 (u : Int) (by omega) (by omega)
        rw [aheadAt_cast h] at n
        exact n c
      have mem := meant_all h z no ht h3 least
      rw [hall] at mem
      have : (Cl01.sorted all).find? (fun (t : Nat) => decide (z - Cl02.WIDE ≤ (t : Int)) && decide (z < Cl02.shown p t)) = some t := by
        refine find_least (sorted_up _) ((sorted_mem _ _).mpr mem) ?_ fun s hs c => ?_
        · rw [Bool.and_eq_true, decide_eq_true_iff, decide_eq_true_iff]
          have b1 := offsetAt_bounds h t
          have w : Cl02.WIDE = 1000 := rfl
          exact ⟨by omega, h3⟩
        · rw [Bool.and_eq_true, decide_eq_true_iff, decide_eq_true_iff] at c
          by_cases q : t ≤ s
          · exact q
          · exact absurd c.2 (least s (by omega))
      rw [this]
      rfl
/-! ### the next change -/
theorem nextChange_none {p : Cl02.Place} (u : Nat) (no : ∀ t : Nat, u < t → t < 52596000 → Cl02.offsetAt p (t - 1) = Cl02.offsetAt p t) : Cl02.nextChange p u = none := by
  unfold Cl02.nextChange
  rw [List.findSome?_eq_none_iff]
  intro k _
  rw [Option.map_eq_none_iff, List.find?_eq_none]
  intro t ht c
  rw [sorted_mem] at ht
  rw [Bool.and_eq_true, decide_eq_true_iff, bne_iff_ne] at c
  exact c.2 (no t c.1 (turns_mem ht).1)
theorem nextChange_some {p : Cl02.Place} (h : POk p) {u t : Nat} (h1 : u < t) (h2 : t < 52596000) (h3 : Cl02.offsetAt p (t - 1) ≠ Cl02.offsetAt p t)
    (least : ∀ s : Nat, u < s → s < t → Cl02.offsetAt p (s - 1) = Cl02.offsetAt p s) : Cl02.nextChange p u = some (t, Cl02.offsetAt p (t - 1), Cl02.offsetAt p t) := by
  unfold Cl02.nextChange
  have m := yearOf_mono (m := u / 1440) (n := t / 1440) (by omega)
  have y := year99 h2
  refine findSome_range (k := Cl01.yearOf (t / 1440) - Cl01.yearOf (u / 1440)) (by omega) ?_ fun j hj => ?_
  · rw [show Cl01.yearOf (u / 1440) + (Cl01.yearOf (t / 1440) - Cl01.yearOf (u / 1440)) = Cl01.yearOf (t / 1440) by omega]
    have : (Cl01.sorted (Cl02.turns p (Cl01.yearOf (t / 1440)))).find? (fun (t : Nat) => decide (u < t) && Cl02.offsetAt p (t - 1) != Cl02.offsetAt p t) = some t := by
      refine find_least (sorted_up _) ((sorted_mem _ _).mpr (jump h (by omega) h2 h3)) ?_ fun s hs c => ?_
      · rw [Bool.and_eq_true, decide_eq_true_iff, bne_iff_ne]
        exact ⟨h1, h3⟩
      · rw [Bool.and_eq_true, decide_eq_true_iff, bne_iff_ne] at c
        by_cases q : t ≤ s
        · exact q
        · exact absurd (least s c.1 (by omega)) c.2
    rw [this]
    rfl
  · rw [Option.map_eq_none_iff, List.find?_eq_none]
    intro s hs c
    rw [sorted_mem] at hs
    rw [Bool.and_eq_true, decide_eq_true_iff, bne_iff_ne] at c
    obtain ⟨s1, s2⟩ := turns_mem hs
    by_cases q : t ≤ s
    · have := yearOf_mono (m := t / 1440) (n := s / 1440) (by omega)
      omega
    · exact c.2 (least s c.1 (by omega))
theorem change_eq {p : Cl02.Place} (h : POk p) (u : Nat) : changeNumbers (p.map dOf) (u : Int) = (match Cl02.nextChange p u with
    | none => [-6]
    | some y => [(y.1 : Int), y.2.1, y.2.2]) := by
  have k := placeSpans_chain h
  unfold changeNumbers
  generalize placeSpans (p.map dOf) = l at *
  cases k with
  | @cons _ b _ x l hab hx hr =>
    have hp : aheadAt (p.map dOf) (b - 1) = x := hx _ (by omega) (by omega)
    have b0 : ∀ t : Nat, u < t → (t : Int) < b → Cl02.offsetAt p (t - 1) = Cl02.offsetAt p t := by
      intro t h1 h2
      rw [← aheadAt_cast h, ← aheadAt_cast h, hx _ (by omega) (by omega), hx _ (by omega) h2]
    dsimp only
    cases e : changeIn (u : Int) (0, b, x) l with
    | none =>
      have n := changeIn_none hr (p := (0, b, x)) hp e
      rw [nextChange_none u fun t h1 h2 => ?_]
      by_cases c : (t : Int) < b
      · exact b0 t h1 c
      · have := n (t : Int) (by omega) (by omega)
        by_cases q : Cl02.offsetAt p (t - 1) = Cl02.offsetAt p t
        · exact q
        · refine absurd ⟨by omega, ?_⟩ this
          rw [show (t : Int) - 1 = ((t - 1 : Nat) : Int) by omega, aheadAt_cast h, aheadAt_cast h]
          exact q
    | some r =>
      obtain ⟨m, rfl, h1, h2, h3, h4, h5⟩ := changeIn_some hr (p := (0, b, x)) hp e
      obtain ⟨t, rfl⟩ : ∃ t : Nat, m = (t : Int) := ⟨m.toNat, by omega⟩
      rw [show (t : Int) - 1 = ((t - 1 : Nat) : Int) by omega, aheadAt_cast h, aheadAt_cast h] at h4 ⊢
      rw [nextChange_some h (t := t) (by omega) (by omega) h4 fun s g1 g2 => ?_]
      by_cases c : (s : Int) < b
      · exact b0 s g1 c
      · have := h5 (s : Int) (by omega) (by omega)
        by_cases q : Cl02.offsetAt p (s - 1) = Cl02.offsetAt p s
        · exact q
        · refine absurd ⟨by omega, ?_⟩ this
          rw [show (s : Int) - 1 = ((s - 1 : Nat) : Int) by omega, aheadAt_cast h, aheadAt_cast h]
          exact q
end Pc
/-! The calls: the mirror's state beside the specification's, call by call. -/
namespace Pc
def sOf (s : Cl02.State) : S := ⟨s.places.map fun p => p.map dOf, s.kept.map fun k => ((k.place : Int), k.shown)⟩
structure IOk (s : Cl02.State) : Prop where
  all : ∀ p ∈ s.places, POk p
  few : s.places.length ≤ 6
  kept : ∀ k ∈ s.kept, k.place < s.places.length
  most : s.kept.length ≤ 20
theorem IOk.init : IOk Cl02.init := ⟨fun _ h => (nomatch h), by decide, fun _ h => (nomatch h), by decide⟩
/-! ### decrees put in and taken out -/
theorem mem_put {d e : Cl02.Decree} : ∀ {p : Cl02.Place}, e ∈ Cl02.put d p → e = d ∨ e ∈ p
  | [], h => by
    rcases List.mem_cons.mp h with r | r
    · exact .inl r
    · cases r
  | a :: p, h => by
    unfold Cl02.put at h
    by_cases c : a.from_ = d.from_
    · rw [if_pos c] at h
      rcases List.mem_cons.mp h with r | r
      · exact .inl r
      · exact .inr (List.mem_cons_of_mem _ r)
    · rw [if_neg c] at h
      by_cases k : d.from_ < a.from_
      · rw [if_pos k] at h
        rcases List.mem_cons.mp h with r | r
        · exact .inl r
        · exact .inr r
      · rw [if_neg k] at h
        rcases List.mem_cons.mp h with r | r
        · exact .inr (by rw [r]; exact List.mem_cons_self ..)
        · rcases mem_put r with q | q
          · exact .inl q
          · exact .inr (List.mem_cons_of_mem _ q)
theorem put_up {d : Cl02.Decree} : ∀ {p : Cl02.Place}, p.Pairwise (fun a b => a.from_ < b.from_) → (Cl02.put d p).Pairwise fun a b => a.from_ < b.from_
  | [], _ => .cons (fun _ h => nomatch h) .nil
  | a :: p, h => by
    obtain ⟨h1, h2⟩ := List.pairwise_cons.mp h
    unfold Cl02.put
    by_cases c : a.from_ = d.from_
    · rw [if_pos c]
      exact .cons (fun b hb => by rw [← c]; exact h1 b hb) h2
    · rw [if_neg c]
      by_cases k : d.from_ < a.from_
      · rw [if_pos k]
        refine .cons (fun b hb => ?_) h
        rcases List.mem_cons.mp hb with r | r
        · rw [r]
          exact k
        · have := h1 b r
          omega
      · rw [if_neg k]
        refine .cons (fun b hb => ?_) (put_up h2)
        rcases mem_put hb with r | r
        · rw [r]
          omega
        · exact h1 b r
theorem put_first {d : Cl02.Decree} {p : Cl02.Place} (h : ∃ e r, p = e :: r ∧ e.from_ = 0) : ∃ e r, Cl02.put d p = e :: r ∧ e.from_ = 0 := by
  obtain ⟨e, r, rfl, q⟩ := h
  unfold Cl02.put
  by_cases c : e.from_ = d.from_
  · rw [if_pos c]
    exact ⟨d, r, rfl, by omega⟩
  · rw [if_neg c, if_neg (by omega)]
    exact ⟨e, _, rfl, q⟩
theorem put_eq (d : Cl02.Decree) : ∀ {p : Cl02.Place}, p.Pairwise (fun a b => a.from_ < b.from_) → withDecree (p.map dOf) (dOf d) = (Cl02.put d p).map dOf
  | [], _ => rfl
  | a :: p, h => by
    obtain ⟨h1, h2⟩ := List.pairwise_cons.mp h
    have ih := put_eq d h2
    unfold withDecree at ih ⊢
    rw [List.map_cons, List.filter_cons, List.filter_cons]
    unfold Cl02.put
    have lowNone : ∀ {q : Nat}, d.from_ ≤ q → (∀ b ∈ p, q < b.from_) → (p.map dOf).filter (fun e => decide (e.since < (dOf d).since)) = [] ∧ (p.map dOf).filter (fun e => decide ((dOf d).since < e.since)) = p.map dOf := by
      intro q hq hb
      constructor
      · rw [List.filter_eq_nil_iff]
        intro e he c
        obtain ⟨b, hbm, rfl⟩ := List.mem_map.mp he
        have := hb b hbm
        have c' := of_decide_eq_true c
        rw [dOf_since, dOf_since] at c'
        omega
      · rw [List.filter_eq_self]
        intro e he
        obtain ⟨b, hbm, rfl⟩ := List.mem_map.mp he
        have := hb b hbm
        refine decide_eq_true ?_
        rw [dOf_since, dOf_since]
        omega
    by_cases c : a.from_ = d.from_
    · obtain ⟨n1, n2⟩ := lowNone (q := a.from_) (by omega) h1
      rw [if_neg (by simp [dOf_since, c]), if_neg (by simp [dOf_since, c]), if_pos c, n1, n2]
      rfl
    · rw [if_neg c]
      by_cases k : d.from_ < a.from_
      · obtain ⟨n1, n2⟩ := lowNone (q := a.from_) (by omega) h1
        rw [if_neg (by simp [dOf_since]; omega), if_pos (by simp [dOf_since]; omega), if_pos k, n1, n2]
        rfl
      · rw [if_pos (by simp [dOf_since]; omega), if_neg (by simp [dOf_since]; omega), if_neg k, List.map_cons, ← ih]
        rfl
theorem put_length (d : Cl02.Decree) : ∀ (p : Cl02.Place), p.Pairwise (fun a b => a.from_ < b.from_) → (Cl02.put d p).length = if p.any (fun (e : Cl02.Decree) => e.from_ == d.from_) = true then p.length else p.length + 1
  | [], _ => rfl
  | a :: p, h => by
    obtain ⟨h1, h2⟩ := List.pairwise_cons.mp h
    have ih := put_length d p h2
    unfold Cl02.put
    rw [List.any_cons]
    by_cases c : a.from_ = d.from_
    · rw [if_pos c]
      simp [c]
    · rw [if_neg c]
      have c' : (a.from_ == d.from_) = false := beq_eq_false_iff_ne.mpr c
      rw [c', Bool.false_or]
      by_cases k : d.from_ < a.from_
      · rw [if_pos k]
        have : p.any (fun (e : Cl02.Decree) => e.from_ == d.from_) = false := by
          rw [List.any_eq_false]
          intro b hb
          have := h1 b hb
          simp
          omega
        rw [this]
        rfl
      · rw [if_neg k, List.length_cons, ih]
        split <;> rfl
theorem hasSince_eq (p : Cl02.Place) (m : Nat) : hasSince (p.map dOf) (m : Int) = p.any fun (d : Cl02.Decree) => d.from_ == m := by
  unfold hasSince
  rw [List.any_map]
  congr 1
  funext d
  show decide ((dOf d).since = (m : Int)) = _
  rw [dOf_since]
  rw [Bool.eq_iff_iff, decide_eq_true_iff, beq_iff_eq]
  omega
theorem without_eq (p : Cl02.Place) (m : Nat) : withoutSince (p.map dOf) (m : Int) = (p.filter fun (d : Cl02.Decree) => d.from_ != m).map dOf := by
  unfold withoutSince
  rw [List.filter_map]
  congr 1
  refine List.filter_congr fun d _ => ?_
  show decide ((dOf d).since ≠ (m : Int)) = _
  rw [dOf_since, Bool.eq_iff_iff, decide_eq_true_iff, bne_iff_ne]
  omega
theorem without_length (m : Nat) : ∀ (p : Cl02.Place), p.Pairwise (fun a b => a.from_ < b.from_) → p.any (fun (d : Cl02.Decree) => d.from_ == m) = true → (p.filter fun (d : Cl02.Decree) => d.from_ != m).length + 1 = p.length
  | [], _, h => by cases h
  | a :: p, h, k => by
    obtain ⟨h1, h2⟩ := List.pairwise_cons.mp h
    rw [List.any_cons] at k
    by_cases c : a.from_ = m
    · have all : (p.filter fun (d : Cl02.Decree) => d.from_ != m) = p := by
        rw [List.filter_eq_self]
        intro b hb
        have := h1 b hb
        rw [bne_iff_ne]
        omega
      rw [List.filter_cons, if_neg (by simp [c]), all]
      rfl
    · have c' : (a.from_ == m) = false := beq_eq_false_iff_ne.mpr c
      rw [c', Bool.false_or] at k
      rw [List.filter_cons, if_pos (by simp [c]), List.length_cons, without_length m p h2 k]
      rfl
theorem POk.fresh {z : Int} (h1 : -840 ≤ z) (h2 : z ≤ 840) : POk [⟨0, z, none⟩] := by
  refine ⟨⟨_, _, rfl, rfl⟩, .cons (fun _ h => nomatch h) .nil, fun e he => ?_, by simp⟩
  rcases List.mem_cons.mp he with r | r
  · rw [r]
    exact ⟨by dsimp only; omega, h1, h2, fun s q => by cases q⟩
  · cases r
theorem POk.put {p : Cl02.Place} {d : Cl02.Decree} (h : POk p) (hd : EOk d) (k : (Cl02.put d p).length ≤ 8) : POk (Cl02.put d p) := by
  refine ⟨put_first h.first, put_up h.up, fun e he => ?_, k⟩
  rcases mem_put he with r | r
  · rw [r]
    exact hd
  · exact h.all e r
theorem POk.without {p : Cl02.Place} {m : Nat} (h : POk p) (hm : m ≠ 0) : POk (p.filter fun (d : Cl02.Decree) => d.from_ != m) := by
  refine ⟨?_, h.up.filter _, fun e he => h.all e (List.mem_filter.mp he).1, Nat.le_trans (List.length_filter_le _ _) h.few⟩
  obtain ⟨e, r, rfl, q⟩ := h.first
  refine ⟨e, r.filter fun (d : Cl02.Decree) => d.from_ != m, ?_, q⟩
  rw [List.filter_cons, if_pos]
  rw [bne_iff_ne]
  omega
/-! ### rules, as told -/
theorem isOffset_eq (z : Int) : Cl02.isOffset z = isOffset z := rfl
theorem isOffset_iff (z : Int) : isOffset z = true ↔ -840 ≤ z ∧ z ≤ 840 := by
  unfold isOffset
  rw [Bool.and_eq_true, decide_eq_true_iff, decide_eq_true_iff]
theorem turnOf_five (b k w m t : Nat) : Cl02.turnOf [b, k, w, m, t] = if b ≤ 1 ∧ 1 ≤ k ∧ k ≤ 4 ∧ 1 ≤ w ∧ w ≤ 7 ∧ 1 ≤ m ∧ m ≤ 12 ∧ t < 1440 then some ⟨b == 1, k, w - 1, m, t⟩ else none := rfl
theorem isRule_turn (r : List Int) (h : ∀ z ∈ r, 0 ≤ z) : isRule r = (Cl02.turnOf (Cl02Neutral.nats r)).isSome ∧ ∀ t, Cl02.turnOf (Cl02Neutral.nats r) = some t → TOk t ∧ r = ruleOf t ∧ monthOfRule r = (t.month : Int) := by
  unfold Cl02Neutral.nats
  match r, h with
  | [], _ => exact ⟨rfl, fun t q => by cases q⟩
  | [_], _ => exact ⟨rfl, fun t q => by cases q⟩
  | [_, _], _ => exact ⟨rfl, fun t q => by cases q⟩
  | [_, _, _], _ => exact ⟨rfl, fun t q => by cases q⟩
  | [_, _, _, _], _ => exact ⟨rfl, fun t q => by cases q⟩
  | _ :: _ :: _ :: _ :: _ :: _ :: _, _ => exact ⟨rfl, fun t q => by cases q⟩
  | [b, k, w, m, t], h =>
    have hb := h b (by simp)
    have hk := h k (by simp)
    have hw := h w (by simp)
    have hm := h m (by simp)
    have ht := h t (by simp)
    simp only [List.map_cons, List.map_nil]
    rw [turnOf_five]
    by_cases c : b.toNat ≤ 1 ∧ 1 ≤ k.toNat ∧ k.toNat ≤ 4 ∧ 1 ≤ w.toNat ∧ w.toNat ≤ 7 ∧ 1 ≤ m.toNat ∧ m.toNat ≤ 12 ∧ t.toNat < 1440
    · rw [if_pos c]
      obtain ⟨c1, c2, c3, c4, c5, c6, c7, c8⟩ := c
      constructor
      · unfold isRule
        rw [Option.isSome_some, Bool.and_eq_true, Bool.and_eq_true, Bool.and_eq_true, Bool.and_eq_true, Bool.and_eq_true, Bool.and_eq_true, Bool.and_eq_true, Bool.and_eq_true, Bool.or_eq_true]
        simp only [decide_eq_true_iff]
        omega
      · intro s q
        obtain rfl := Option.some.inj q
        refine ⟨⟨c2, c3, by dsimp only; omega, c6, c7, c8⟩, ?_, ?_⟩
        · unfold ruleOf
          dsimp only
          rw [show ((k.toNat : Nat) : Int) = k by omega, show ((w.toNat - 1 : Nat) : Int) + 1 = w by omega, show ((m.toNat : Nat) : Int) = m by omega, show ((t.toNat : Nat) : Int) = t by omega]
          have : b = 0 ∨ b = 1 := by omega
          rcases this with r | r <;> subst r <;> rfl
        · show m = ((m.toNat : Nat) : Int)
          omega
    · rw [if_neg c]
      constructor
      · unfold isRule
        rw [Option.isSome_none, ← Bool.not_eq_true, Bool.and_eq_true, Bool.and_eq_true, Bool.and_eq_true, Bool.and_eq_true, Bool.and_eq_true, Bool.and_eq_true, Bool.and_eq_true, Bool.and_eq_true, Bool.or_eq_true]
        simp only [decide_eq_true_iff]
        omega
      · intro s q
        cases q
/-! ### one call -/
theorem places_get (s : Cl02.State) (p : Int) (h0 : 0 ≤ p) : ((sOf s).hasPlace p = false ∧ s.places[p.toNat]? = none) ∨ (∃ x, (sOf s).hasPlace p = true ∧ s.places[p.toNat]? = some x ∧ (sOf s).decrees p = x.map dOf) := by
  have hl : (sOf s).places.length = s.places.length := by simp [sOf]
  cases q : s.places[p.toNat]? with
  | none =>
    refine .inl ⟨?_, rfl⟩
    have := List.getElem?_eq_none_iff.mp q
    unfold S.hasPlace
    rw [hl, ← Bool.not_eq_true, Bool.and_eq_true, decide_eq_true_iff, decide_eq_true_iff]
    omega
  | some x =>
    refine .inr ⟨x, ?_, rfl, ?_⟩
    · obtain ⟨hx, _⟩ := List.getElem?_eq_some_iff.mp q
      unfold S.hasPlace
      rw [hl, Bool.and_eq_true, decide_eq_true_iff, decide_eq_true_iff]
      omega
    · unfold S.decrees sOf
      dsimp only
      rw [List.getD_eq_getElem?_getD, List.getElem?_map, q]
      rfl
theorem IOk.at {s : Cl02.State} (I : IOk s) {i : Nat} {x : Cl02.Place} (h : s.places[i]? = some x) : POk x := I.all x (List.mem_of_getElem? h)
theorem IOk.set {s : Cl02.State} (I : IOk s) (i : Nat) {x : Cl02.Place} (h : POk x) : IOk { s with places := s.places.set i x } :=
  ⟨fun p hp => by
    rcases List.mem_or_eq_of_mem_set hp with r | r
    · exact I.all p r
    · rw [r]
      exact h, by rw [List.length_set]; exact I.few, fun k hk => by rw [List.length_set]; exact I.kept k hk, I.most⟩
theorem sOf_set (s : Cl02.State) (p : Int) (x : Cl02.Place) : sOf { s with places := s.places.set p.toNat x } = (sOf s).give p (x.map dOf) := by
  unfold sOf S.give
  dsimp only
  rw [List.map_set]
/-- what's said of one call: the mirror goes with the specification, and the state stays well -/
def Goes (s : Cl02.State) (y : S × List Int) (x : Cl02.State × List Int) : Prop := y = (sOf x.1, x.2) ∧ IOk x.1
theorem Goes.same {s : Cl02.State} (I : IOk s) {a b : List Int} (e : a = b) : Goes s (sOf s, a) (s, b) := ⟨by rw [e], I⟩
theorem goes_place {s : Cl02.State} (I : IOk s) (z : Int) : Goes s (doPlace (sOf s) z) (Cl02.step s (.place z)) := by
  show Goes s (doPlace (sOf s) z) (if Cl02.isOffset z = false then (s, [-1]) else if Cl02.PLACES ≤ s.places.length then (s, [-5]) else ({ s with places := s.places ++ [[⟨0, z, none⟩]] }, [(s.places.length : Int)]))
  unfold doPlace
  have hl : (sOf s).places.length = s.places.length := by simp [sOf]
  rw [isOffset_eq, hl]
  by_cases c : isOffset z = false
  · rw [if_pos c, if_pos c]
    exact .same I rfl
  · rw [if_neg c, if_neg c]
    have c' : isOffset z = true := by
      cases q : isOffset z with
      | true => rfl
      | false => exact absurd q c
    obtain ⟨z1, z2⟩ := (isOffset_iff z).mp c'
    by_cases k : 6 ≤ s.places.length
    · rw [if_pos k, if_pos (show Cl02.PLACES ≤ s.places.length from k)]
      exact .same I rfl
    · rw [if_neg k, if_neg (show ¬ Cl02.PLACES ≤ s.places.length from k)]
      refine ⟨?_, ?_⟩
      · unfold sOf
        dsimp only
        rw [List.map_append]
        rfl
      · refine ⟨fun p hp => ?_, ?_, fun q hq => ?_, I.most⟩
        · rcases List.mem_append.mp hp with r | r
          · exact I.all p r
          · rcases List.mem_cons.mp r with r | r
            · rw [r]
              exact POk.fresh z1 z2
            · cases r
        · show (s.places ++ _).length ≤ 6
          rw [List.length_append]
          show s.places.length + 1 ≤ 6
          omega
        · show q.place < (s.places ++ _).length
          rw [List.length_append]
          have := I.kept q hq
          omega
theorem goes_put {s : Cl02.State} (I : IOk s) {p : Int} (h0 : 0 ≤ p) (d : Cl02.Decree) (hd : Cl02.isOffset d.offset = true → d.from_ < 52596000 → EOk d) :
    Goes s (if (sOf s).hasPlace p = false then (sOf s, [-3]) else if isMoment (d.from_ : Int) = false ∨ isOffset d.offset = false then (sOf s, [-1]) else putDecree (sOf s) p (dOf d)) (Cl02.decreed s p.toNat d) := by
  unfold Cl02.decreed Cl02.placeOf
  rcases places_get s p h0 with ⟨h1, h2⟩ | ⟨x, h1, h2, h3⟩
  · rw [h1, h2]
    exact .same I rfl
  · rw [h1, h2]
    dsimp only
    rw [if_neg (by decide), isOffset_eq]
    have em : isMoment (d.from_ : Int) = false ↔ Cl02.MOMENTS ≤ d.from_ := by
      rw [← Bool.not_eq_true, isMoment_iff]
      show _ ↔ 52596000 ≤ d.from_
      omega
    by_cases c : isMoment (d.from_ : Int) = false ∨ isOffset d.offset = false
    · rw [if_pos c, if_pos (by rw [← em]; exact c)]
      exact .same I rfl
    · rw [if_neg c, if_neg (by rw [← em]; exact c)]
      rw [em] at c
      have lt : d.from_ < 52596000 := by
        have : ¬ 52596000 ≤ d.from_ := fun z => c (.inl z)
        omega
      have off : isOffset d.offset = true := by
        cases q : isOffset d.offset with
        | true => rfl
        | false => exact absurd (.inr q) c
      have px := I.at h2
      unfold putDecree
      rw [h3, put_eq d px.up, List.length_map]
      have lp := put_length d x px.up
      by_cases k : 8 < (Cl02.put d x).length
      · rw [if_pos k, if_pos]
        · exact .same I rfl
        · have := px.few
          show 8 ≤ x.length ∧ _
          by_cases a : x.any (fun (e : Cl02.Decree) => e.from_ == d.from_) = true
          · rw [if_pos a] at lp
            omega
          · rw [if_neg a] at lp
            exact ⟨by omega, Bool.not_eq_true _ ▸ a⟩
      · rw [if_neg k, if_neg]
        · refine ⟨?_, I.set _ (px.put (hd off lt) (by omega))⟩
          rw [← sOf_set]
        · rintro ⟨a, b⟩
          rw [if_neg (by rw [b]; decide)] at lp
          have : 8 ≤ x.length := a
          omega
theorem goes_decree {s : Cl02.State} (I : IOk s) {p m : Int} (h0 : 0 ≤ p) (h1 : 0 ≤ m) (z : Int) : Goes s (doDecree (sOf s) p m z) (Cl02.step s (.decree p.toNat m.toNat z)) := by
  have k := goes_put I h0 ⟨m.toNat, z, none⟩ fun a b => ⟨b, by
    rw [isOffset_eq, isOffset_iff] at a
    exact a.1, by
    rw [isOffset_eq, isOffset_iff] at a
    exact a.2, fun _ q => by cases q⟩
  have e : ((m.toNat : Nat) : Int) = m := by omega
  have e2 : dOf ⟨m.toNat, z, none⟩ = plain m z := by
    rw [dOf_none rfl, e]
    rfl
  dsimp only at k
  rw [e2, e] at k
  exact k
theorem goes_summer {s : Cl02.State} (I : IOk s) {p m x : Int} (h0 : 0 ≤ p) (h1 : 0 ≤ m) (h2 : 0 ≤ x) (z : Int) {a b : List Int} (ha : ∀ y ∈ a, 0 ≤ y) (hb : ∀ y ∈ b, 0 ≤ y) :
    Goes s (doSummer (sOf s) p m z x a b) (Cl02.step s (.summer p.toNat m.toNat z x.toNat (Cl02Neutral.nats a) (Cl02Neutral.nats b))) := by
  obtain ⟨ra, ta⟩ := isRule_turn a ha
  obtain ⟨rb, tb⟩ := isRule_turn b hb
  have bad : isSummerRule x a b = false → Goes s (doSummer (sOf s) p m z x a b) (Cl02.placeOf s p.toNat fun _ => (s, [-1])) := by
    intro e
    unfold doSummer Cl02.placeOf
    rcases places_get s p h0 with ⟨h1, h2⟩ | ⟨y, h1, h2, h3⟩
    · rw [h1, h2]
      exact .same I rfl
    · rw [h1, h2, if_neg (by decide), if_pos e]
      split <;> exact .same I rfl
  show Goes s _ (match Cl02.turnOf (Cl02Neutral.nats a), Cl02.turnOf (Cl02Neutral.nats b) with
    | some a, some b => if x.toNat = 0 ∨ 120 < x.toNat ∨ a.month = b.month then Cl02.placeOf s p.toNat fun _ => (s, [-1]) else Cl02.decreed s p.toNat ⟨m.toNat, z, some (x.toNat, a, b)⟩
    | _, _ => Cl02.placeOf s p.toNat fun _ => (s, [-1]))
  cases qa : Cl02.turnOf (Cl02Neutral.nats a) with
  | none =>
    rw [qa] at ra
    refine bad ?_
    unfold isSummerRule
    rw [ra]
    simp
  | some A =>
    cases qb : Cl02.turnOf (Cl02Neutral.nats b) with
    | none =>
      rw [qb] at rb
      refine bad ?_
      unfold isSummerRule
      rw [rb]
      simp
    | some B =>
      rw [qa] at ra
      rw [qb] at rb
      obtain ⟨oa, ea, ma⟩ := ta A qa
      obtain ⟨ob, eb, mb⟩ := tb B qb
      dsimp only
      by_cases c : x.toNat = 0 ∨ 120 < x.toNat ∨ A.month = B.month
      · rw [if_pos c]
        refine bad ?_
        unfold isSummerRule
        rw [ra, rb, ma, mb, ← Bool.not_eq_true, Bool.and_eq_true, Bool.and_eq_true, Bool.and_eq_true, Bool.and_eq_true, decide_eq_true_iff, decide_eq_true_iff, decide_eq_true_iff]
        omega
      · rw [if_neg c]
        have good : isSummerRule x a b = true := by
          unfold isSummerRule
          rw [ra, rb, ma, mb, Bool.and_eq_true, Bool.and_eq_true, Bool.and_eq_true, Bool.and_eq_true, decide_eq_true_iff, decide_eq_true_iff, decide_eq_true_iff]
          refine ⟨by omega, by omega, rfl, rfl, by omega⟩
        have k := goes_put I h0 ⟨m.toNat, z, some (x.toNat, A, B)⟩ fun a b => ⟨b, by
          rw [isOffset_eq, isOffset_iff] at a
          exact a.1, by
          rw [isOffset_eq, isOffset_iff] at a
          exact a.2, fun _ q => by
          obtain rfl := Option.some.inj q
          exact ⟨by dsimp only; omega, by dsimp only; omega, oa, ob, by dsimp only; omega⟩⟩
        have e : ((m.toNat : Nat) : Int) = m := by omega
        have e2 : dOf ⟨m.toNat, z, some (x.toNat, A, B)⟩ = ⟨m, z, x, a, b⟩ := by
          rw [dOf_some rfl, e, ← ea, ← eb, show ((x.toNat : Nat) : Int) = x by omega]
        dsimp only at k
        rw [e2, e] at k
        unfold doSummer
        rw [good]
        exact k
theorem goes_drop {s : Cl02.State} (I : IOk s) {p m : Int} (h0 : 0 ≤ p) (h1 : 0 ≤ m) : Goes s (doDrop (sOf s) p m) (Cl02.step s (.drop p.toNat m.toNat)) := by
  show Goes s _ (Cl02.placeOf s p.toNat fun (x : Cl02.Place) => if m.toNat = 0 ∨ x.any (fun (d : Cl02.Decree) => d.from_ == m.toNat) = false then (s, [-4]) else ({ s with places := s.places.set p.toNat (x.filter fun (d : Cl02.Decree) => d.from_ != m.toNat) }, [(x.length : Int) - 1]))
  unfold doDrop Cl02.placeOf
  obtain ⟨n, rfl⟩ : ∃ n : Nat, m = (n : Int) := ⟨m.toNat, by omega⟩
  rw [Int.toNat_natCast]
  rcases places_get s p h0 with ⟨h1, h2⟩ | ⟨x, h1, h2, h3⟩
  · rw [h1, h2]
    exact .same I rfl
  · rw [h1, h2]
    dsimp only
    rw [if_neg (by decide), h3, hasSince_eq]
    have e0 : ((n : Int) = 0) ↔ n = 0 := by omega
    simp only [e0]
    by_cases c : n = 0 ∨ x.any (fun (d : Cl02.Decree) => d.from_ == n) = false
    · rw [if_pos c, if_pos c]
      exact .same I rfl
    · rw [if_neg c, if_neg c, without_eq, List.length_map]
      have px := I.at h2
      have a : x.any (fun (d : Cl02.Decree) => d.from_ == n) = true := by
        cases q : x.any (fun (d : Cl02.Decree) => d.from_ == n) with
        | true => rfl
        | false => exact absurd (.inr q) c
      have l := without_length n x px.up a
      refine ⟨?_, I.set _ (px.without fun z => c (.inl z))⟩
      rw [← sOf_set]
      congr 2
      omega
theorem goes_offset {s : Cl02.State} (I : IOk s) {p u : Int} (h0 : 0 ≤ p) (h1 : 0 ≤ u) : Goes s (sOf s, doOffset (sOf s) p u) (Cl02.step s (.offset p.toNat u.toNat)) := by
  obtain ⟨n, rfl⟩ : ∃ n : Nat, u = (n : Int) := ⟨u.toNat, by omega⟩
  rw [Int.toNat_natCast]
  show Goes s _ (Cl02.placeOf s p.toNat fun (x : Cl02.Place) => (s, if Cl02.MOMENTS ≤ n then [-1] else [1000 + Cl02.offsetAt x n]))
  unfold doOffset Cl02.placeOf
  rcases places_get s p h0 with ⟨h1, h2⟩ | ⟨x, h1, h2, h3⟩
  · rw [h1, h2]
    exact .same I rfl
  · rw [h1, h2, if_neg (by decide), h3, aheadAt_cast (I.at h2)]
    refine .same I ?_
    by_cases c : Cl02.MOMENTS ≤ n
    · have c2 : 52596000 ≤ n := c
      rw [if_pos c, if_pos (by rw [← Bool.not_eq_true, isMoment_iff]; omega)]
    · have c2 : ¬ 52596000 ≤ n := c
      rw [if_neg c, if_neg (by rw [Bool.not_eq_false, isMoment_iff]; omega)]
theorem shows_eq {x : Cl02.Place} (h : POk x) (n : Nat) : showsNumbers (x.map dOf) (n : Int) = 0 :: Cl02.face (Cl02.shown x n) := by
  unfold showsNumbers
  rw [aheadAt_cast h, ← face_eq]
  rfl
theorem goes_shows {s : Cl02.State} (I : IOk s) {p u : Int} (h0 : 0 ≤ p) (h1 : 0 ≤ u) : Goes s (sOf s, doShows (sOf s) p u) (Cl02.step s (.shows p.toNat u.toNat)) := by
  obtain ⟨n, rfl⟩ : ∃ n : Nat, u = (n : Int) := ⟨u.toNat, by omega⟩
  rw [Int.toNat_natCast]
  show Goes s _ (Cl02.placeOf s p.toNat fun (x : Cl02.Place) => (s, if Cl02.MOMENTS ≤ n then [-1] else 0 :: Cl02.face (Cl02.shown x n)))
  unfold doShows Cl02.placeOf
  rcases places_get s p h0 with ⟨h1, h2⟩ | ⟨x, h1, h2, h3⟩
  · rw [h1, h2]
    exact .same I rfl
  · rw [h1, h2, if_neg (by decide), h3, shows_eq (I.at h2)]
    refine .same I ?_
    by_cases c : Cl02.MOMENTS ≤ n
    · have c2 : 52596000 ≤ n := c
      rw [if_pos c, if_pos (by rw [← Bool.not_eq_true, isMoment_iff]; omega)]
    · have c2 : ¬ 52596000 ≤ n := c
      rw [if_neg c, if_neg (by rw [Bool.not_eq_false, isMoment_iff]; omega)]
theorem goes_moments {s : Cl02.State} (I : IOk s) {p : Int} (h0 : 0 ≤ p) (z : Int) : Goes s (sOf s, doMoments (sOf s) p z) (Cl02.step s (.moments p.toNat z)) := by
  show Goes s _ (Cl02.placeOf s p.toNat fun (x : Cl02.Place) => (s, ((Cl02.momentsOf x z).length : Int) :: (Cl02.momentsOf x z).map fun (u : Nat) => (u : Int)))
  unfold doMoments Cl02.placeOf
  rcases places_get s p h0 with ⟨h1, h2⟩ | ⟨x, h1, h2, h3⟩
  · rw [h1, h2]
    exact .same I rfl
  · rw [h1, h2, if_neg (by decide), h3, within_eq (I.at h2), List.length_map]
    exact .same I rfl
theorem goes_meant {s : Cl02.State} (I : IOk s) {p : Int} (h0 : 0 ≤ p) (z : Int) : Goes s (sOf s, doMeant (sOf s) p z) (Cl02.step s (.meant p.toNat z)) := by
  show Goes s _ (Cl02.placeOf s p.toNat fun (x : Cl02.Place) => (s, Cl02.meantAns x z))
  unfold doMeant Cl02.placeOf
  rcases places_get s p h0 with ⟨h1, h2⟩ | ⟨x, h1, h2, h3⟩
  · rw [h1, h2]
    exact .same I rfl
  · rw [h1, h2, if_neg (by decide), h3, meantAns_eq (I.at h2)]
    exact .same I rfl
theorem goes_change {s : Cl02.State} (I : IOk s) {p u : Int} (h0 : 0 ≤ p) (h1 : 0 ≤ u) : Goes s (sOf s, doChange (sOf s) p u) (Cl02.step s (.change p.toNat u.toNat)) := by
  obtain ⟨n, rfl⟩ : ∃ n : Nat, u = (n : Int) := ⟨u.toNat, by omega⟩
  rw [Int.toNat_natCast]
  show Goes s _ (Cl02.placeOf s p.toNat fun (x : Cl02.Place) => (s, if Cl02.MOMENTS ≤ n then [-1] else match Cl02.nextChange x n with
    | none => [-6]
    | some y => [(y.1 : Int), y.2.1, y.2.2]))
  unfold doChange Cl02.placeOf
  rcases places_get s p h0 with ⟨h1, h2⟩ | ⟨x, h1, h2, h3⟩
  · rw [h1, h2]
    exact .same I rfl
  · rw [h1, h2, if_neg (by decide), h3, change_eq (I.at h2)]
    refine .same I ?_
    by_cases c : Cl02.MOMENTS ≤ n
    · have c2 : 52596000 ≤ n := c
      rw [if_pos c, if_pos (by rw [← Bool.not_eq_true, isMoment_iff]; omega)]
    · have c2 : ¬ 52596000 ≤ n := c
      rw [if_neg c, if_neg (by rw [Bool.not_eq_false, isMoment_iff]; omega)]
      first | done | (cases Cl02.nextChange x n <;> rfl)
theorem goes_keep {s : Cl02.State} (I : IOk s) {p : Int} (h0 : 0 ≤ p) (z : Int) : Goes s (doKeep (sOf s) p z) (Cl02.step s (.keep p.toNat z)) := by
  show Goes s _ (Cl02.placeOf s p.toNat fun _ => if Cl02.KEPT ≤ s.kept.length then (s, [-5]) else ({ s with kept := s.kept ++ [⟨p.toNat, z⟩] }, [(s.kept.length : Int)]))
  unfold doKeep Cl02.placeOf
  have hl : (sOf s).kept.length = s.kept.length := by simp [sOf]
  rcases places_get s p h0 with ⟨h1, h2⟩ | ⟨x, h1, h2, h3⟩
  · rw [h1, h2]
    exact .same I rfl
  · rw [h1, h2, if_neg (by decide), hl]
    dsimp only
    by_cases k : 20 ≤ s.kept.length
    · rw [if_pos k, if_pos (show Cl02.KEPT ≤ s.kept.length from k)]
      exact .same I rfl
    · rw [if_neg k, if_neg (show ¬ Cl02.KEPT ≤ s.kept.length from k)]
      refine ⟨?_, I.all, I.few, fun q hq => ?_, ?_⟩
      · unfold sOf
        dsimp only
        rw [List.map_append, List.map_cons, List.map_nil, show ((p.toNat : Nat) : Int) = p by omega]
      · rcases List.mem_append.mp hq with r | r
        · exact I.kept q r
        · rcases List.mem_cons.mp r with r | r
          · rw [r]
            exact (List.getElem?_eq_some_iff.mp h2).1
          · cases r
      · show (s.kept ++ _).length ≤ 20
        rw [List.length_append]
        show s.kept.length + 1 ≤ 20
        omega
/-- what's kept, by its number -/
theorem kept_get {s : Cl02.State} (I : IOk s) (k : Int) (h0 : 0 ≤ k) : ((sOf s).hasKept k = false ∧ Cl02.keptOf s k.toNat = none) ∨
    (∃ x z, (sOf s).hasKept k = true ∧ Cl02.keptOf s k.toNat = some (x, z) ∧ POk x ∧ meantByKept (sOf s) k = Cl02.meantAns x z) := by
  have hl : (sOf s).kept.length = s.kept.length := by simp [sOf]
  cases q : s.kept[k.toNat]? with
  | none =>
    refine .inl ⟨?_, ?_⟩
    · have := List.getElem?_eq_none_iff.mp q
      unfold S.hasKept
      rw [hl, ← Bool.not_eq_true, Bool.and_eq_true, decide_eq_true_iff, decide_eq_true_iff]
      omega
    · unfold Cl02.keptOf
      rw [q]
      rfl
  | some y =>
    have lt := I.kept y (List.mem_of_getElem? q)
    have e : s.places[y.place]? = some (s.places[y.place]'lt) := List.getElem?_eq_getElem _
    refine .inr ⟨s.places[y.place]'lt, y.shown, ?_, ?_, I.at e, ?_⟩
    · obtain ⟨hx, _⟩ := List.getElem?_eq_some_iff.mp q
      unfold S.hasKept
      rw [hl, Bool.and_eq_true, decide_eq_true_iff, decide_eq_true_iff]
      omega
    · unfold Cl02.keptOf
      rw [q]
      dsimp only [Option.bind_some]
      rw [e]
      rfl
    · unfold meantByKept
      have g : (sOf s).kept.getD k.toNat (0, 0) = ((y.place : Int), y.shown) := by
        unfold sOf
        dsimp only
        rw [List.getD_eq_getElem?_getD, List.getElem?_map, q]
        rfl
      rw [g]
      dsimp only
      have d : (sOf s).decrees (y.place : Int) = (s.places[y.place]'lt).map dOf := by
        unfold S.decrees sOf
        dsimp only
        rw [List.getD_eq_getElem?_getD, List.getElem?_map, Int.toNat_natCast, e]
        rfl
      rw [d, meantAns_eq (I.at e)]
theorem goes_when {s : Cl02.State} (I : IOk s) {k : Int} (h0 : 0 ≤ k) : Goes s (sOf s, doWhen (sOf s) k) (Cl02.step s (.when k.toNat)) := by
  show Goes s _ (s, match Cl02.keptOf s k.toNat with
    | none => [-3]
    | some x => Cl02.meantAns x.1 x.2)
  unfold doWhen
  rcases kept_get I k h0 with ⟨h1, h2⟩ | ⟨x, z, h1, h2, _, h3⟩
  · rw [h1, h2]
    exact .same I rfl
  · rw [h1, h2, h3]
    exact .same I rfl
theorem goes_there {s : Cl02.State} (I : IOk s) {k p : Int} (h0 : 0 ≤ k) (hp : 0 ≤ p) : Goes s (sOf s, doThere (sOf s) k p) (Cl02.step s (.there k.toNat p.toNat)) := by
  show Goes s _ (s, match Cl02.keptOf s k.toNat, s.places[p.toNat]? with
    | some x, some y => (match Cl02.meant x.1 x.2 with
      | none => [-6]
      | some u => 0 :: Cl02.face (Cl02.shown y u.1))
    | _, _ => [-3])
  unfold doThere
  rcases kept_get I k h0 with ⟨h1, h2⟩ | ⟨x, z, h1, h2, px, h3⟩
  · rw [h1, h2]
    exact .same I rfl
  · rcases places_get s p hp with ⟨g1, g2⟩ | ⟨y, g1, g2, g3⟩
    · rw [h1, h2, g1, g2]
      exact .same I rfl
    · rw [h1, h2, g1, g2, h3, g3, if_neg (by decide)]
      refine .same I ?_
      dsimp only
      unfold Cl02.meantAns
      cases e : Cl02.meant x z with
      | none => rfl
      | some u =>
        obtain ⟨u, t⟩ := u
        show (if (u : Int) < 0 then [(u : Int), if t = true then 1 else 0] else showsNumbers (y.map dOf) (u : Int)) = _
        rw [if_neg (show ¬ (u : Int) < 0 by omega), shows_eq (I.at g2)]
theorem goes_ahead {s : Cl02.State} (I : IOk s) {u : Int} (h0 : 0 ≤ u) : Goes s (sOf s, doAhead (sOf s) u) (Cl02.step s (.ahead u.toNat)) := by
  obtain ⟨n, rfl⟩ : ∃ n : Nat, u = (n : Int) := ⟨u.toNat, by omega⟩
  rw [Int.toNat_natCast]
  show Goes s _ (s, if Cl02.MOMENTS ≤ n then [-1] else (s.places.length : Int) :: s.places.map fun (p : Cl02.Place) => Cl02.offsetAt p n)
  unfold doAhead
  refine .same I ?_
  by_cases c : Cl02.MOMENTS ≤ n
  · have c2 : 52596000 ≤ n := c
    rw [if_pos c, if_pos (by rw [← Bool.not_eq_true, isMoment_iff]; omega)]
  · have c2 : ¬ 52596000 ≤ n := c
    rw [if_neg c, if_neg (by rw [Bool.not_eq_false, isMoment_iff]; omega)]
    unfold sOf
    dsimp only
    rw [List.length_map, List.map_map]
    congr 1
    refine List.map_congr_left fun p hp => ?_
    exact aheadAt_cast (I.all p hp) n
/-- any call that may be asked -/
theorem goes {s : Cl02.State} (I : IOk s) {c : List (List Int)} (h : Cl02Neutral.asked1 c = true) : Goes s (callOf (sOf s) c) (Cl02Neutral.step s c) := by
  unfold Cl02Neutral.asked1 at h
  split at h
  · exact goes_place I _
  · simp only [Bool.and_eq_true, Cl02Neutral.place, Cl02Neutral.moment, NeutralIO.within, decide_eq_true_iff] at h
    exact goes_decree I h.1.1 h.2.1.1 _
  · simp only [Bool.and_eq_true, Cl02Neutral.place, Cl02Neutral.moment, Cl02Neutral.turn, NeutralIO.within, decide_eq_true_iff, List.all_eq_true] at h
    exact goes_summer I h.1.1 h.2.1.1 h.2.2.2.1.1 _ (fun y hy => (h.2.2.2.2.1.2 y hy).1) (fun y hy => (h.2.2.2.2.2.2 y hy).1)
  · simp only [Bool.and_eq_true, Cl02Neutral.place, Cl02Neutral.moment, NeutralIO.within, decide_eq_true_iff] at h
    exact goes_drop I h.1.1 h.2.1
  · simp only [Bool.and_eq_true, Cl02Neutral.place, Cl02Neutral.moment, NeutralIO.within, decide_eq_true_iff] at h
    exact goes_offset I h.1.1 h.2.1
  · simp only [Bool.and_eq_true, Cl02Neutral.place, Cl02Neutral.moment, NeutralIO.within, decide_eq_true_iff] at h
    exact goes_shows I h.1.1 h.2.1
  · simp only [Bool.and_eq_true, Cl02Neutral.place, NeutralIO.within, decide_eq_true_iff] at h
    exact goes_moments I h.1.1 _
  · simp only [Bool.and_eq_true, Cl02Neutral.place, NeutralIO.within, decide_eq_true_iff] at h
    exact goes_meant I h.1.1 _
  · simp only [Bool.and_eq_true, Cl02Neutral.place, Cl02Neutral.moment, NeutralIO.within, decide_eq_true_iff] at h
    exact goes_change I h.1.1 h.2.1
  · simp only [Bool.and_eq_true, Cl02Neutral.place, NeutralIO.within, decide_eq_true_iff] at h
    exact goes_keep I h.1.1 _
  · simp only [Bool.and_eq_true, NeutralIO.within, decide_eq_true_iff] at h
    exact goes_when I h.1
  · simp only [Bool.and_eq_true, Cl02Neutral.place, NeutralIO.within, decide_eq_true_iff] at h
    exact goes_there I h.1.1 h.2.1
  · simp only [Bool.and_eq_true, Cl02Neutral.moment, NeutralIO.within, decide_eq_true_iff] at h
    exact goes_ahead I h.1
  · cases h
/-! ### all calls -/
theorem whole_id (c : List (List Int)) : PyCl02.whole c = c := by
  unfold PyCl02.whole
  split <;> rfl
theorem told_append (a b : List (List Int)) : PyFlat.told (a ++ b) = PyFlat.told a ++ PyFlat.told b := List.flatMap_append
theorem run_from : ∀ (cs : List (List (List Int))) {s : Cl02.State} (t : List Int), IOk s → cs.all Cl02Neutral.asked1 = true →
    (cs.foldl turn (sOf s, t)).2 = t ++ PyFlat.told (PyFlat.played Cl02Neutral.step s cs)
  | [], _, t, _, _ => by
    show t = t ++ []
    rw [List.append_nil]
  | c :: cs, s, t, I, h => by
    rw [List.all_cons, Bool.and_eq_true] at h
    obtain ⟨g1, g2⟩ := goes I h.1
    rw [List.foldl_cons]
    have e : turn (sOf s, t) c = (sOf (Cl02Neutral.step s c).1, t ++ (((Cl02Neutral.step s c).2.length : Int) :: (Cl02Neutral.step s c).2)) := by
      unfold turn
      rw [g1]
    rw [e, run_from cs _ g2 h.2, List.append_assoc]
    rfl
theorem run_eq {l : List Int} {raw : List (List (List Int))} (h : PyFlat.calls PyCl02.shape l.length l = some raw) (k : raw.all Cl02Neutral.asked1 = true) : (run raw).2 = PyCl02.answers l := by
  have e : raw.map PyCl02.whole = raw := by
    have : PyCl02.whole = id := by
      funext c
      exact whole_id c
    rw [this, List.map_id]
  unfold PyCl02.answers PyCl02.calls
  rw [h]
  dsimp only
  rw [e]
  have r := run_from raw (s := Cl02.init) [] IOk.init k
  rw [List.nil_append] at r
  exact r
theorem asked_parts {l : List Int} (h : PyCl02.answers_asked l = true) : ∃ raw, PyFlat.calls PyCl02.shape l.length l = some raw ∧ raw.length ≤ 60 ∧ raw.all Cl02Neutral.asked1 = true ∧ (PyCl02.answers l).length ≤ 10000000 := by
  unfold PyCl02.answers_asked at h
  cases q : PyFlat.calls PyCl02.shape l.length l with
  | none =>
    rw [q] at h
    cases h
  | some raw =>
    rw [q] at h
    have e : raw.map PyCl02.whole = raw := by
      have : PyCl02.whole = id := by
        funext c
        exact whole_id c
      rw [this, List.map_id]
    simp only [Bool.and_eq_true, e, PyFlat.atMost, PyFlat.short, Cl02Neutral.asked, decide_eq_true_iff] at h
    exact ⟨raw, rfl, h.1.1.1.2, h.1.2.2.2, h.2⟩
/-- the states that the calls go through -/
def stateAt (raw : List (List (List Int))) (i : Nat) : Cl02.State := (raw.take i).foldl (fun s c => (Cl02Neutral.step s c).1) Cl02.init
theorem run_state : ∀ (cs : List (List (List Int))) {s : Cl02.State} (t : List Int), IOk s → cs.all Cl02Neutral.asked1 = true →
    IOk (cs.foldl (fun s c => (Cl02Neutral.step s c).1) s) ∧ (cs.foldl turn (sOf s, t)).1 = sOf (cs.foldl (fun s c => (Cl02Neutral.step s c).1) s)
  | [], _, _, I, _ => ⟨I, rfl⟩
  | c :: cs, s, t, I, h => by
    rw [List.all_cons, Bool.and_eq_true] at h
    obtain ⟨g1, g2⟩ := goes I h.1
    rw [List.foldl_cons, List.foldl_cons]
    have e : turn (sOf s, t) c = (sOf (Cl02Neutral.step s c).1, t ++ (((Cl02Neutral.step s c).2.length : Int) :: (Cl02Neutral.step s c).2)) := by
      unfold turn
      rw [g1]
    rw [e]
    exact run_state cs _ g2 h.2
end Pc
/-! The walk's ground: where the defs stand, how a def's promise is handed to its callers, and how the data lie in the heap. -/
namespace Pw
open PySem PySem.Spec PyProof.Rows L2
/-- the i-th row of the program's top -/
def top (i : Nat) : Stmt := PySem.Challenge.pw_placeclocks_s01_answers.main.body.getD i (.Pass ⟨0, 0, 0, 0⟩)
/-! ### defs: where they stand, what they promise -/
structure FnAt (K : PySem.W.Frag) (mg : Str → Option Value) (x : Str) (st : Stmt) (ps : List Str) (f : Addr) : Prop where
  ex : ∃ fd, Fun K x x st f fd ∧ Binds K fd ps []
  g : mg x = some (.ref f)
structure FnP (P : Program) (w : World) (K : PySem.W.Frag) (mg : Str → Option Value) (base : Heap) (k : Nat) (x : Str) (ps : List Str) (sp : Sp) (f : Addr) : Prop where
  ex : ∃ fd, FnOk P w K mg base CX0 k f fd ps sp ∧ Binds K fd ps []
  g : mg x = some (.ref f)
  kp : PySem.W.keepIn K (.ref f) = true
structure MtAt (K : PySem.W.Frag) (C : Addr) (x q : Str) (st : Stmt) (ps : List Str) (f : Addr) : Prop where
  ex : ∃ fd, Fun K x q st f fd ∧ Binds K fd ps []
  m : Meth K C x f
structure MtP (P : Program) (w : World) (K : PySem.W.Frag) (mg : Str → Option Value) (base : Heap) (C : Addr) (k : Nat) (x : Str) (ps : List Str) (sp : Sp) (f : Addr) : Prop where
  ex : ∃ fd, FnOk P w K mg base CX0 k f fd ps sp ∧ Binds K fd ps []
  m : Meth K C x f
/-- a call: what the arguments ask, then the promise -/
def tCl (sp : Sp) (t : TA) : TE := fun σ H Q => t σ H fun vs H1 => sp vs H1 Q E0
/-- o.m(..) -/
def tMt (C : Addr) (m : Str) (sp : Sp) (ta : TE) (t : TA) : TE := fun σ H Q => ta σ H fun x H1 => ∃ a dx fs, x = .ref a ∧ H1 a = some (.ins C dx fs) ∧ fs.lookup m = none ∧
  t σ H1 fun vs H2 => sp (x :: vs) H2 Q E0
section
variable {X : Cx} {k : Nat} {f C : Addr} {ps : List Str} {sp : Sp} {x m : Str} {p pos apos : Pos} {e o : Expr} {es : List Expr} {ta : TE} {t : TA}
theorem pe_callF (F : FnP X.prog X.w X.K X.mg X.base k x ps sp f) (hr : Room k X.A) (hg : Gl X x) (ha : PA X (e :: es) t)
    (hdb : (x == ("__debug__" : Str)) = false := by decide) (he : starEach (e :: es) X.env = (false, eval e X.env) :: starEach es X.env := by rfl) (hpl : (backTo pos (starEach es X.env)).any (·.1) = false := by rfl) :
    PE X (.Call (.Name x p) (e :: es) [] pos) (tCl sp t) := by
  obtain ⟨⟨fd, G, b⟩, g, kp⟩ := F
  have h := pe_call (p := p) (pos := pos) (E := E0) G hr hg g kp b .nil pass0 ha hdb he hpl
  refine ⟨fun pins s σ H Q I q => h.run pins s σ H Q I ?_⟩
  have e0 : (fun (vs : List V) (H1 : Hp) => sp (vs ++ []) H1 Q E0) = fun vs H1 => sp vs H1 Q E0 := by
    funext vs H1
    rw [List.append_nil]
  show t σ H (fun vs H1 => sp (vs ++ []) H1 Q E0)
  rw [e0]
  exact q
theorem pe_methF {pl : Sem Bool} (he : PE X o ta) (c : Cls X.K C) (F : MtP X.prog X.w X.K X.mg X.base C k m ps sp f) (hr : Room k X.A) (ha : PA X (e :: es) t)
    (hst : starEach (e :: es) X.env = (false, eval e X.env) :: starEach es X.env := by rfl) (hpl : (backTo pos (starEach es X.env)).any (·.1) = false := by rfl)
    (ht : eval (.Call (.Attribute o m apos) (e :: es) [] pos) X.env = (do
      let ov ← eval o X.env
      standAt apos.atName
      let (f, first) ← holding [ov] (getMethod ov m pl)
      callWith pos f first (backTo pos (starEach (e :: es) X.env)) (backToKw pos (keywordEach [] X.env))) := by rfl) :
    PE X (.Call (.Attribute o m apos) (e :: es) [] pos) (tMt C m sp ta t) := by
  obtain ⟨⟨fd, G, b⟩, mm⟩ := F
  have h := pe_meth (pos := pos) (apos := apos) (E := E0) he c mm G hr b .nil pass0 ha hst hpl ht
  refine ⟨fun pins s σ H Q I q => h.run pins s σ H Q I ?_⟩
  have e0 : tMeth C m sp [] E0 ta t = tMt C m sp ta t := by
    funext σ H Q
    unfold tMeth tMt
    simp only [List.append_nil]
  rw [e0]
  exact q
/-- a module's number -/
theorem pe_gI {i : Int} (hg : Gl X x) (hm : ∃ t, X.mg x = some (.int i t)) (hd : (x == ("__debug__" : Str)) = false := by decide) : PE X (.Name x pos) (tC (.int i)) := by
  obtain ⟨t, h⟩ := hm
  exact pe_glob hg h ⟨t, rfl⟩ hd
/-- a module's object -/
theorem pe_gR {a : Addr} (hg : Gl X x) (hm : X.mg x = some (.ref a)) (hd : (x == ("__debug__" : Str)) = false := by decide) : PE X (.Name x pos) (tC (.ref a)) := pe_glob hg hm rfl hd
end
section
variable {P : Program} {w : World} {K : PySem.W.Frag} {mg : Str → Option Value} {base : Heap} {C : Addr}
theorem FnAt.ok {x : Str} {st : Stmt} {ps N : List Str} {f : Addr} {k : Nat} {sp : Sp} (A : FnAt K mg x st ps f) (S : FnScope N ps (defScope st)) (len : ∀ vs H Q E, sp vs H Q E → vs.length = ps.length)
    (hbody : ∀ (cdv : Value) (A : Around) (outer : List Env) (s : Shared) (H : Hp) (vs : List V) (Q : VK) (E : XK), Room k (A.deeper (envOfC x (defScope st) s.heap.objs.size f cdv)) → sp vs H Q E →
      ∃ t, PSs (cxOf CX0 P w K mg base N x (defScope st) f cdv A outer s H E).nox (defBody st) t ∧ t { nx := fun _ H' => Q .non H', rt := Q } (start N vs) H) : FnP P w K mg base (k + 1) x ps sp f := by
  obtain ⟨⟨fd, F, b⟩, g⟩ := A
  exact ⟨⟨fd, F.ok S len hbody, b⟩, g, F.kp⟩
theorem MtAt.ok {x q : Str} {st : Stmt} {ps N : List Str} {f : Addr} {k : Nat} {sp : Sp} (A : MtAt K C x q st ps f) (S : FnScope N ps (defScope st)) (len : ∀ vs H Q E, sp vs H Q E → vs.length = ps.length)
    (hbody : ∀ (cdv : Value) (A : Around) (outer : List Env) (s : Shared) (H : Hp) (vs : List V) (Q : VK) (E : XK), Room k (A.deeper (envOfC q (defScope st) s.heap.objs.size f cdv)) → sp vs H Q E →
      ∃ t, PSs (cxOf CX0 P w K mg base N q (defScope st) f cdv A outer s H E).nox (defBody st) t ∧ t { nx := fun _ H' => Q .non H', rt := Q } (start N vs) H) : MtP P w K mg base C (k + 1) x ps sp f := by
  obtain ⟨⟨fd, F, b⟩, m⟩ := A
  exact ⟨⟨fd, F.ok S len hbody, b⟩, m⟩
end
/-! ### what the top has written -/
structure Txt (K : PySem.W.Frag) (mg : Str → Option Value) (C aL aP aR : Addr) : Prop where
  cl : Cls K C
  nP : NoAttr K C "places"
  nK : NoAttr K C "kept"
  b_len : mg "len" = none
  b_range : mg "range" = none
  b_enumerate : mg "enumerate" = none
  b_min : mg "min" = none
  b_max : mg "max" = none
  b_tuple : mg "tuple" = none
  c_DAY : ∃ t, mg "DAY" = some (.int 1440 t)
  c_MOMENTS : ∃ t, mg "MOMENTS" = some (.int 52596000 t)
  c_FIRST_YEAR : ∃ t, mg "FIRST_YEAR" = some (.int 2000 t)
  c_FARTHEST : ∃ t, mg "FARTHEST" = some (.int 840 t)
  c_MOST_MORE : ∃ t, mg "MOST_MORE" = some (.int 120 t)
  c_OFFSET_BASE : ∃ t, mg "OFFSET_BASE" = some (.int 1000 t)
  c_MOST_PLACES : ∃ t, mg "MOST_PLACES" = some (.int 6 t)
  c_MOST_DECREES : ∃ t, mg "MOST_DECREES" = some (.int 8 t)
  c_MOST_KEPT : ∃ t, mg "MOST_KEPT" = some (.int 20 t)
  c_FEBRUARY : ∃ t, mg "FEBRUARY" = some (.int 2 t)
  c_MONTHS : ∃ t, mg "MONTHS" = some (.int 12 t)
  c_PLAIN_YEAR : ∃ t, mg "PLAIN_YEAR" = some (.int 365 t)
  c_LEAP_YEAR : ∃ t, mg "LEAP_YEAR" = some (.int 366 t)
  c_FOUR_YEARS : ∃ t, mg "FOUR_YEARS" = some (.int 1461 t)
  c_RULE_LENGTH : ∃ t, mg "RULE_LENGTH" = some (.int 5 t)
  c_MOST_TURNS : ∃ t, mg "MOST_TURNS" = some (.int 4 t)
  c_WEEKDAYS : ∃ t, mg "WEEKDAYS" = some (.int 7 t)
  g_MONTH_LENGTHS : mg "MONTH_LENGTHS" = some (.ref aL)
  v_MONTH_LENGTHS : ∀ H : Hp, SqT K H aL (Pc.lengths.map V.int)
  g_PLAIN : mg "PLAIN" = some (.ref aP)
  v_PLAIN : ∀ H : Hp, SqT K H aP (([1, 3, 4, 2, 2, 2, 2, 2, 2, 2, 1, 2, 1] : List Int).map V.int)
  g_ROWS : mg "ROWS" = some (.ref aR)
  v_ROWS : ∀ H : Hp, SqT K H aR (([0, 0, 2, 0, 0, 0, 0, 0, 0, 0, 0, 0, 0] : List Int).map V.int)
/-! ### lists side by side -/
section
variable {α β : Type} {F G : α → β → Prop}
theorem pd_len {xs : List α} {ys : List β} (h : Paired F xs ys) : xs.length = ys.length := Paired.length h
theorem pd_get : ∀ {xs : List α} {ys : List β} {i : Nat} {x : α}, Paired F xs ys → xs[i]? = some x → ∃ y, ys[i]? = some y ∧ F x y
  | _, _, i, _, .nil, e => by simp at e
  | _, _, 0, _, .cons r _, e => ⟨_, rfl, by rw [← Option.some.inj e]; exact r⟩
  | _, _, i + 1, x, .cons _ t, e => by
    obtain ⟨y, h1, h2⟩ := pd_get (i := i) (x := x) t (by simpa using e)
    exact ⟨y, by simpa using h1, h2⟩
theorem pd_got : ∀ {xs : List α} {ys : List β} {i : Nat} {y : β}, Paired F xs ys → ys[i]? = some y → ∃ x, xs[i]? = some x ∧ F x y
  | _, _, i, _, .nil, e => by simp at e
  | _, _, 0, _, .cons r _, e => ⟨_, rfl, by rw [← Option.some.inj e]; exact r⟩
  | _, _, i + 1, y, .cons _ t, e => by
    obtain ⟨x, h1, h2⟩ := pd_got (i := i) (y := y) t (by simpa using e)
    exact ⟨x, by simpa using h1, h2⟩
theorem pd_mono {xs : List α} {ys : List β} (h : Paired F xs ys) (k : ∀ a b, F a b → G a b) : Paired G xs ys := Paired.mapP h k
theorem pd_app : ∀ {xs : List α} {ys : List β} {us : List α} {ws : List β}, Paired F xs ys → Paired F us ws → Paired F (xs ++ us) (ys ++ ws)
  | _, _, _, _, .nil, s => s
  | _, _, _, _, .cons r t, s => .cons r (pd_app t s)
theorem pd_one {x : α} {y : β} (h : F x y) : Paired F [x] [y] := .cons h .nil
theorem pd_set : ∀ {xs : List α} {ys : List β} {x : α} {y : β} (i : Nat), Paired F xs ys → F x y → Paired F (xs.set i x) (ys.set i y)
  | _, _, _, _, _, .nil, _ => .nil
  | _, _, _, _, 0, .cons _ t, h => .cons h t
  | _, _, _, _, i + 1, .cons r t, h => .cons r (pd_set i t h)
end
theorem take_next {α : Type} : ∀ {l : List α} {i : Nat} {x : α}, l[i]? = some x → l.take (i + 1) = l.take i ++ [x]
  | [], i, x, h => by simp at h
  | a :: l, 0, x, h => by
    have e : a = x := Option.some.inj h
    rw [e]
    rfl
  | a :: l, i + 1, x, h => congrArg (a :: ·) (take_next (l := l) (i := i) (x := x) h)
/-! ### the heap -/
theorem same_new {H : Hp} {p : Addr} {o : HO} (h : H p = none) : Same H (upd H p o) := fun b x e => by
  rw [upd_ne (ne_of_none e h)]
  exact e
theorem Same.rd {H H' : Hp} (e : Same H H') {a : Addr} {u : HO} (h : Rd H a u) : Rd H' a u := by
  rcases h with h | ⟨o, h⟩
  · exact .inl (e _ _ h)
  · exact .inr ⟨o, e _ _ h⟩
theorem Same.tup {K : PySem.W.Frag} {H H' : Hp} (e : Same H H') {a : Addr} {xs : List V} (h : SqT K H a xs) : SqT K H' a xs := by
  rcases h with h | h
  · exact .inl (Same.rd e h)
  · exact .inr h
/-- all that was tracked is as it was, but for two places -/
def Keep (p q : Addr) (H H' : Hp) : Prop := ∀ b o, H b = some o → b ≠ p → b ≠ q → H' b = some o
theorem Keep.of {p q : Addr} {H H' : Hp} (e : Same H H') : Keep p q H H' := fun b o h _ _ => e b o h
theorem Keep.trans {p q : Addr} {H H1 H2 : Hp} (a : Keep p q H H1) (b : Keep p q H1 H2) : Keep p q H H2 := fun x o h n m => b x o (a x o h n m) n m
theorem Keep.rd {p q : Addr} {H H' : Hp} (e : Keep p q H H') {a : Addr} {u : HO} (h : Rd H a u) (np : a ≠ p) (nq : a ≠ q) : Rd H' a u := by
  rcases h with h | ⟨o, h⟩
  · exact .inl (e _ _ h np nq)
  · exact .inr ⟨o, e _ _ h np nq⟩
theorem rd_ne {H : Hp} {a l : Addr} {xs ys : List V} (h : Rd H a (.tup xs)) (k : H l = some (.lst ys)) : a ≠ l := by
  intro e
  subst e
  rcases h with h | ⟨o, h⟩
  · rw [h] at k
    cases k
  · rw [h] at k
    cases k
/-- a tuple stands where two lists may change -/
theorem Keep.tup {K : PySem.W.Frag} {p q : Addr} {H H' : Hp} (e : Keep p q H H') {a : Addr} {xs us ws : List V} (h : SqT K H a xs) (hp : H p = some (.lst us)) (hq : H q = some (.lst ws)) : SqT K H' a xs := by
  rcases h with h | h
  · exact .inl (e.rd h (rd_ne h hp) (rd_ne h hq))
  · exact .inr h
/-! ### decrees, places, spans, rows of numbers in the heap -/
def iV (l : List Int) : List V := l.map V.int
structure DvOk (d : Pc.D) : Prop where
  more : d.more > 0 → Pc.isRule d.begins = true ∧ Pc.isRule d.ends = true
def DecAt (K : PySem.W.Frag) (H : Hp) (v : V) (d : Pc.D) : Prop := ∃ r b e, v = .ref r ∧ SqT K H r [.int d.since, .int d.offset, .int d.more, .ref b, .ref e] ∧ SqT K H b (iV d.begins) ∧ SqT K H e (iV d.ends) ∧ DvOk d
theorem DecAt.same {K : PySem.W.Frag} {H H' : Hp} (s : Same H H') {v : V} {d : Pc.D} (h : DecAt K H v d) : DecAt K H' v d := by
  obtain ⟨r, b, e, rfl, h1, h2, h3, h4⟩ := h
  exact ⟨r, b, e, rfl, Same.tup s h1, Same.tup s h2, Same.tup s h3, h4⟩
theorem DecAt.keep {K : PySem.W.Frag} {p q : Addr} {H H' : Hp} (s : Keep p q H H') {us ws : List V} (hp : H p = some (.lst us)) (hq : H q = some (.lst ws)) {v : V} {d : Pc.D} (h : DecAt K H v d) : DecAt K H' v d := by
  obtain ⟨r, b, e, rfl, h1, h2, h3, h4⟩ := h
  exact ⟨r, b, e, rfl, s.tup h1 hp hq, s.tup h2 hp hq, s.tup h3 hp hq, h4⟩
/-- a list of decrees at an address -/
def DecsAt (K : PySem.W.Frag) (H : Hp) (a : Addr) (l : List Pc.D) : Prop := ∃ us, H a = some (.lst us) ∧ Paired (DecAt K H) us l
theorem DecsAt.same {K : PySem.W.Frag} {H H' : Hp} (s : Same H H') {a : Addr} {l : List Pc.D} (h : DecsAt K H a l) : DecsAt K H' a l := by
  obtain ⟨us, h1, h2⟩ := h
  exact ⟨us, s _ _ h1, pd_mono h2 fun _ _ => DecAt.same s⟩
def SpanAt (H : Hp) (v : V) (s : Pc.Span) : Prop := ∃ r, v = .ref r ∧ H r = some (.tup [.int s.1, .int s.2.1, .int s.2.2])
theorem SpanAt.same {H H' : Hp} (s : Same H H') {v : V} {x : Pc.Span} (h : SpanAt H v x) : SpanAt H' v x := by
  obtain ⟨r, rfl, h1⟩ := h
  exact ⟨r, rfl, s _ _ h1⟩
def SpansAt (H : Hp) (a : Addr) (l : List Pc.Span) : Prop := ∃ us, H a = some (.lst us) ∧ Paired (SpanAt H) us l
theorem SpansAt.same {H H' : Hp} (s : Same H H') {a : Addr} {l : List Pc.Span} (h : SpansAt H a l) : SpansAt H' a l := by
  obtain ⟨us, h1, h2⟩ := h
  exact ⟨us, s _ _ h1, pd_mono h2 fun _ _ => SpanAt.same s⟩
/-! ### promises' forms -/
def spI1 (g : Int → V) : Sp := fun vs H Q _ => ∃ a : Int, vs = [.int a] ∧ Q (g a) H
def spI2 (c : Int → Int → Prop) (g : Int → Int → V) : Sp := fun vs H Q _ => ∃ a b : Int, vs = [.int a, .int b] ∧ c a b ∧ Q (g a b) H
/-- a new list of numbers -/
def newL (H : Hp) (Q : VK) (l : List Int) : Prop := ∀ (H' : Hp) (p : Addr), Same H H' → H p = none → H' p = some (.lst (iV l)) → Q (.ref p) H'
theorem small_of {n m : Nat} (h : n ≤ m) (k : m < 16777216) : n < sizeLine := by
  rw [sizeLine_eq]
  omega
theorem line_le {n m : Nat} (h : n ≤ m) (k : m ≤ 16777216) : n ≤ sizeLine := by
  rw [sizeLine_eq]
  omega
theorem if_t {c : Bool} {A B : Prop} (hc : c = true) (h : A) : if c = true then A else B := by
  rw [if_pos hc]
  exact h
theorem if_f {c : Bool} {A B : Prop} (hc : c = false) (h : B) : if c = true then A else B := by
  rw [hc, if_neg Bool.false_ne_true]
  exact h
/-- an open test: two ways -/
theorem if_2 {c : Bool} {A B : Prop} (h1 : c = true → A) (h2 : c = false → B) : if c = true then A else B := by
  cases c with
  | true => exact if_t rfl (h1 rfl)
  | false => exact if_f rfl (h2 rfl)
theorem dec_t {p : Prop} [Decidable p] (h : decide p = true) : p := of_decide_eq_true h
theorem dec_f {p : Prop} [Decidable p] (h : decide p = false) : ¬ p := of_decide_eq_false h
end Pw
namespace Pw
open PySem PySem.Spec PyProof.Rows L2
section
variable {P : Program} {w : World} {K : PySem.W.Frag} {mg : Str → Option Value} {base : Heap} {C aL aP aR : Addr}
/-! ### limits -/
abbrev s_is_moment : Stmt := top 10
abbrev N_is_moment : List Str := ["number"]
abbrev P_is_moment : List Str := ["number"]
theorem sc_is_moment : FnScope N_is_moment P_is_moment (defScope s_is_moment) := ⟨rfl, rfl, rfl, by decide +kernel, rfl, by decide +kernel, by decide +kernel⟩
theorem ok_is_moment {f : Addr} (A : FnAt K mg "is_moment" s_is_moment P_is_moment f) (T : Txt K mg C aL aP aR) : FnP P w K mg base 1 "is_moment" P_is_moment (spI1 fun n => .bl (Pc.isMoment n)) f := by
  refine A.ok sc_is_moment (fun vs H Q E h => ?_) (fun cdv A outer s H vs Q E hr h => ?_)
  · obtain ⟨n, rfl, _⟩ := h
    rfl
  · obtain ⟨n, rfl, k⟩ := h
    refine ⟨_, (pss_one (ps_ret (pe_and (pe_cmpR op_le pe_int (pv 0) (nomark _)) (pe_one (pe_cmpR op_lt (pv 0) (pe_gI rfl T.c_MOMENTS) (nomark _)))))), ?_⟩
    change Q (.bl (decide (0 ≤ n) && decide (n < 52596000))) H at k
    refine ⟨_, rfl, _, _, rfl, rfl, _, rfl, if_2 (fun h => ?_) (fun h => ?_)⟩
    · rw [h, Bool.true_and] at k
      exact ⟨_, rfl, _, _, rfl, rfl, k⟩
    · rw [h, Bool.false_and] at k
      exact k
abbrev s_is_offset : Stmt := top 11
abbrev N_is_offset : List Str := ["number"]
abbrev P_is_offset : List Str := ["number"]
theorem sc_is_offset : FnScope N_is_offset P_is_offset (defScope s_is_offset) := ⟨rfl, rfl, rfl, by decide +kernel, rfl, by decide +kernel, by decide +kernel⟩
theorem ok_is_offset {f : Addr} (A : FnAt K mg "is_offset" s_is_offset P_is_offset f) (T : Txt K mg C aL aP aR) : FnP P w K mg base 1 "is_offset" P_is_offset (spI1 fun n => .bl (Pc.isOffset n)) f := by
  refine A.ok sc_is_offset (fun vs H Q E h => ?_) (fun cdv A outer s H vs Q E hr h => ?_)
  · obtain ⟨n, rfl, _⟩ := h
    rfl
  · obtain ⟨n, rfl, k⟩ := h
    refine ⟨_, (pss_one (ps_ret (pe_and (pe_cmpR op_le (pe_un un_neg (pe_gI rfl T.c_FARTHEST)) (pv 0) (nomark _)) (pe_one (pe_cmpR op_le (pv 0) (pe_gI rfl T.c_FARTHEST) (nomark _)))))), ?_⟩
    change Q (.bl (decide (-840 ≤ n) && decide (n ≤ 840))) H at k
    refine ⟨_, rfl, _, rfl, _, _, rfl, rfl, _, rfl, if_2 (fun h => ?_) (fun h => ?_)⟩
    · rw [h, Bool.true_and] at k
      exact ⟨_, rfl, _, _, rfl, rfl, k⟩
    · rw [h, Bool.false_and] at k
      exact k
/-! ### days -/
abbrev s_year_start : Stmt := top 19
abbrev N_year_start : List Str := ["year"]
abbrev P_year_start : List Str := ["year"]
theorem sc_year_start : FnScope N_year_start P_year_start (defScope s_year_start) := ⟨rfl, rfl, rfl, by decide +kernel, rfl, by decide +kernel, by decide +kernel⟩
theorem ok_year_start {f : Addr} (A : FnAt K mg "year_start" s_year_start P_year_start f) (T : Txt K mg C aL aP aR) : FnP P w K mg base 1 "year_start" P_year_start (spI1 fun y => .int (Pc.yearStart y)) f := by
  refine A.ok sc_year_start (fun vs H Q E h => ?_) (fun cdv A outer s H vs Q E hr h => ?_)
  · obtain ⟨n, rfl, _⟩ := h
    rfl
  · obtain ⟨y, rfl, k⟩ := h
    refine ⟨_, (pss_one (ps_ret (pe_op op_add (pe_op op_mul (pe_gI rfl T.c_PLAIN_YEAR) (pv 0)) (pe_op op_fdiv (pe_op op_add (pv 0) pe_int) pe_int)))), ?_⟩
    exact ⟨_, rfl, _, _, rfl, rfl, .inl ⟨by decide, by decide⟩, _, rfl, _, _, rfl, rfl, _, _, rfl, rfl, ⟨by decide, by decide⟩, _, _, rfl, rfl, k⟩
abbrev s_year_of : Stmt := top 20
abbrev N_year_of : List Str := ["day", "fours", "left"]
abbrev P_year_of : List Str := ["day"]
theorem sc_year_of : FnScope N_year_of P_year_of (defScope s_year_of) := ⟨rfl, rfl, rfl, by decide +kernel, rfl, by decide +kernel, by decide +kernel⟩
theorem ok_year_of {f : Addr} (A : FnAt K mg "year_of" s_year_of P_year_of f) (T : Txt K mg C aL aP aR) : FnP P w K mg base 1 "year_of" P_year_of (spI1 fun d => .int (Pc.yearOf d)) f := by
  refine A.ok sc_year_of (fun vs H Q E h => ?_) (fun cdv A outer s H vs Q E hr h => ?_)
  · obtain ⟨n, rfl, _⟩ := h
    rfl
  · obtain ⟨d, rfl, k⟩ := h
    refine ⟨_, (pss_cons (ps_set (i := 1) sc_year_of.nd rfl (Or.inl rfl) (pe_op op_fdiv (pv 0) (pe_gI rfl T.c_FOUR_YEARS)))
      (pss_cons (ps_set (i := 2) sc_year_of.nd rfl (Or.inl rfl) (pe_op op_mod (pv 0) (pe_gI rfl T.c_FOUR_YEARS)))
      (pss_cons (ps_if (pt_cmpR op_lt (pv 2) (pe_gI rfl T.c_LEAP_YEAR) (nomark _))
      (pss_one (ps_ret (pe_op op_mul pe_int (pv 1))))
      pss_nil)
      (pss_one (ps_ret (pe_op op_add (pe_op op_add (pe_op op_mul pe_int (pv 1)) pe_int) (pe_op op_fdiv (pe_op op_sub (pv 2) (pe_gI rfl T.c_LEAP_YEAR)) (pe_gI rfl T.c_PLAIN_YEAR)))))))), ?_⟩
    change Q (.int (if d % 1461 < 366 then 4 * (d / 1461) else 4 * (d / 1461) + 1 + (d % 1461 - 366) / 365)) H at k
    refine ⟨_, rfl, _, _, rfl, rfl, ⟨by decide, by decide⟩, _, rfl, _, _, rfl, rfl, (show (0 : Int) < 1461 by decide), _, rfl, _, _, rfl, rfl, _, rfl, if_2 (fun h => ?_) (fun h => ?_)⟩
    · rw [if_pos (dec_t h)] at k
      exact ⟨_, rfl, _, _, rfl, rfl, .inl ⟨by decide, by decide⟩, k⟩
    · rw [if_neg (dec_f h)] at k
      exact ⟨_, rfl, _, _, rfl, rfl, .inl ⟨by decide, by decide⟩, _, _, rfl, rfl, _, rfl, _, _, rfl, rfl, _, _, rfl, rfl, ⟨by decide, by decide⟩, _, _, rfl, rfl, k⟩
abbrev s_month_length : Stmt := top 21
abbrev N_month_length : List Str := ["year", "month"]
abbrev P_month_length : List Str := ["year", "month"]
theorem sc_month_length : FnScope N_month_length P_month_length (defScope s_month_length) := ⟨rfl, rfl, rfl, by decide +kernel, rfl, by decide +kernel, by decide +kernel⟩
theorem lengths_at {m : Int} (h1 : 1 ≤ m) (h2 : m ≤ 12) : atI (Pc.lengths.map V.int) (m - 1) = some (.int (Pc.lengths.getD (m - 1).toNat 0)) := by
  have : m = 1 ∨ m = 2 ∨ m = 3 ∨ m = 4 ∨ m = 5 ∨ m = 6 ∨ m = 7 ∨ m = 8 ∨ m = 9 ∨ m = 10 ∨ m = 11 ∨ m = 12 := by omega
  rcases this with r | r | r | r | r | r | r | r | r | r | r | r <;> subst r <;> rfl
theorem ok_month_length {f : Addr} (A : FnAt K mg "month_length" s_month_length P_month_length f) (T : Txt K mg C aL aP aR) : FnP P w K mg base 1 "month_length" P_month_length (spI2 (fun _ m => 1 ≤ m ∧ m ≤ 12) fun y m => .int (Pc.monthLength y m)) f := by
  refine A.ok sc_month_length (fun vs H Q E h => ?_) (fun cdv A outer s H vs Q E hr h => ?_)
  · obtain ⟨n, _, rfl, _⟩ := h
    rfl
  · obtain ⟨y, m, rfl, ⟨h1, h2⟩, k⟩ := h
    refine ⟨_, (pss_cons (ps_if (PW.pt (pw_and (pt_cmpR op_eq (pv 1) (pe_gI rfl T.c_FEBRUARY) (nomark _)) (pw_and1 (pt_cmpR op_eq (pe_op op_mod (pv 0) pe_int) pe_int (nomark _)))))
      (pss_one (ps_ret pe_int))
      pss_nil)
      (pss_one (ps_ret (pe_ix ix_tup (pe_gR rfl T.g_MONTH_LENGTHS) (pe_op op_sub (pv 1) pe_int) (fun _ _ => rfl))))), ?_⟩
    change Q (.int (if m = 2 ∧ y % 4 = 0 then 29 else Pc.lengths.getD (m - 1).toNat 0)) H at k
    refine ⟨_, rfl, rfl, _, rfl, if_2 (fun h => ?_) (fun h => ?_)⟩
    · have em : m = 2 := V.int.inj (dec_t h)
      refine ⟨_, rfl, _, _, rfl, rfl, (show (0 : Int) < 4 by decide), rfl, _, rfl, if_2 (fun h' => ?_) (fun h' => ?_)⟩
      · have ey : y % 4 = 0 := V.int.inj (dec_t h')
        rw [if_pos ⟨em, ey⟩] at k
        exact k
      · have ny : ¬ y % 4 = 0 := fun z => dec_f h' (congrArg V.int z)
        rw [if_neg fun z => ny z.2] at k
        exact ⟨_, rfl, _, _, rfl, rfl, aL, _, _, _, rfl, rfl, T.v_MONTH_LENGTHS _, lengths_at h1 h2, k⟩
    · have nm : ¬ m = 2 := fun z => dec_f h (congrArg V.int z)
      refine if_f rfl ?_
      rw [if_neg fun z => nm z.1] at k
      exact ⟨_, rfl, _, _, rfl, rfl, aL, _, _, _, rfl, rfl, T.v_MONTH_LENGTHS _, lengths_at h1 h2, k⟩
abbrev s_weekday_of : Stmt := top 24
abbrev N_weekday_of : List Str := ["day"]
abbrev P_weekday_of : List Str := ["day"]
theorem sc_weekday_of : FnScope N_weekday_of P_weekday_of (defScope s_weekday_of) := ⟨rfl, rfl, rfl, by decide +kernel, rfl, by decide +kernel, by decide +kernel⟩
theorem ok_weekday_of {f : Addr} (A : FnAt K mg "weekday_of" s_weekday_of P_weekday_of f) (T : Txt K mg C aL aP aR) : FnP P w K mg base 1 "weekday_of" P_weekday_of (spI1 fun d => .int (Pc.weekdayOf d)) f := by
  refine A.ok sc_weekday_of (fun vs H Q E h => ?_) (fun cdv A outer s H vs Q E hr h => ?_)
  · obtain ⟨n, rfl, _⟩ := h
    rfl
  · obtain ⟨d, rfl, k⟩ := h
    refine ⟨_, (pss_one (ps_ret (pe_op op_add (pe_op op_mod (pe_op op_add (pv 0) pe_int) pe_int) pe_int))), ?_⟩
    exact ⟨_, rfl, _, _, rfl, rfl, _, _, rfl, rfl, (show (0 : Int) < 7 by decide), _, _, rfl, rfl, k⟩
abbrev s_month_start : Stmt := top 22
abbrev N_month_start : List Str := ["year", "month", "day", "earlier"]
abbrev P_month_start : List Str := ["year", "month"]
theorem sc_month_start : FnScope N_month_start P_month_start (defScope s_month_start) := ⟨rfl, rfl, rfl, by decide +kernel, rfl, by decide +kernel, by decide +kernel⟩
theorem ok_month_start {f f1 f2 : Addr} (A : FnAt K mg "month_start" s_month_start P_month_start f) (T : Txt K mg C aL aP aR)
    (f_year_start : FnP P w K mg base 1 "year_start" P_year_start (spI1 fun y => .int (Pc.yearStart y)) f1)
    (f_month_length : FnP P w K mg base 1 "month_length" P_month_length (spI2 (fun _ m => 1 ≤ m ∧ m ≤ 12) fun y m => .int (Pc.monthLength y m)) f2) :
    FnP P w K mg base 2 "month_start" P_month_start (spI2 (fun _ m => 1 ≤ m ∧ m ≤ 13) fun y m => .int (Pc.monthStart y m)) f := by
  refine A.ok sc_month_start (fun vs H Q E h => ?_) (fun cdv A outer s H vs Q E hr h => ?_)
  · obtain ⟨n, _, rfl, _⟩ := h
    rfl
  · obtain ⟨y, m, rfl, ⟨h1, h2⟩, k⟩ := h
    refine ⟨_, (pss_cons (ps_set (i := 2) sc_month_start.nd rfl (Or.inl rfl) (pe_callF f_year_start (hr.mono (by decide)) rfl (pa_cons (pv 0) pa_nil)))
      (pss_cons (ps_for PassesOwn.never rfl (pi_range2 rfl T.b_range (pa_cons pe_int (pa_cons (pv 1) pa_nil))) (pg_name (i := 3) sc_month_start.nd rfl (Or.inl rfl))
      (pss_one (ps_set (i := 2) sc_month_start.nd rfl (Or.inl rfl) (pe_op op_add (pv 2) (pe_callF f_month_length (hr.mono (by decide)) rfl (pa_cons (pv 0) (pa_cons (pv 3) pa_nil)))))))
      (pss_one (ps_ret (pv 2))))), ?_⟩
    refine ⟨_, rfl, _, rfl, _, rfl, _, _, rfl, ⟨by decide, by decide, by omega, by omega⟩, ?_⟩
    refine for_range (fun i σ H' => ∃ v, σ = [some (.int y), some (.int m), some (.int (Pc.monthsOn y i)), v] ∧ H' = H) ⟨none, rfl, rfl⟩ ?_ ?_
    · rintro i σ H' hi ⟨v, rfl, rfl⟩
      refine ⟨_, rfl, _, rfl, _, rfl, _, _, rfl, ?_, _, _, rfl, rfl, ?_⟩
      · dsimp only
        omega
      · exact ⟨_, rfl, rfl⟩
    · rintro σ H' ⟨v, rfl, rfl⟩
      exact ⟨_, rfl, k⟩
abbrev s_month_of : Stmt := top 23
abbrev N_month_of : List Str := ["day", "year", "found", "month"]
abbrev P_month_of : List Str := ["day"]
theorem sc_month_of : FnScope N_month_of P_month_of (defScope s_month_of) := ⟨rfl, rfl, rfl, by decide +kernel, rfl, by decide +kernel, by decide +kernel⟩
theorem upto_bounds (d : Int) : ∀ n : Nat, 1 ≤ Pc.monthUpto d n ∧ Pc.monthUpto d n ≤ (n : Int) + 1
  | 0 => ⟨Int.le_refl _, Int.le_refl _⟩
  | n + 1 => by
    have ih := upto_bounds d n
    show 1 ≤ (if Pc.monthStart (Pc.yearOf d) (2 + (n : Int)) ≤ d then 2 + (n : Int) else Pc.monthUpto d n) ∧ (if Pc.monthStart (Pc.yearOf d) (2 + (n : Int)) ≤ d then 2 + (n : Int) else Pc.monthUpto d n) ≤ _
    split <;> omega
theorem monthOf_in (d : Int) : 1 ≤ Pc.monthOf d ∧ Pc.monthOf d ≤ 12 := upto_bounds d 11
theorem ok_month_of {f f1 f2 : Addr} (A : FnAt K mg "month_of" s_month_of P_month_of f) (T : Txt K mg C aL aP aR)
    (f_year_of : FnP P w K mg base 1 "year_of" P_year_of (spI1 fun d => .int (Pc.yearOf d)) f1)
    (f_month_start : FnP P w K mg base 2 "month_start" P_month_start (spI2 (fun _ m => 1 ≤ m ∧ m ≤ 13) fun y m => .int (Pc.monthStart y m)) f2) :
    FnP P w K mg base 3 "month_of" P_month_of (spI1 fun d => .int (Pc.monthOf d)) f := by
  refine A.ok sc_month_of (fun vs H Q E h => ?_) (fun cdv A outer s H vs Q E hr h => ?_)
  · obtain ⟨n, rfl, _⟩ := h
    rfl
  · obtain ⟨d, rfl, k⟩ := h
    refine ⟨_, (pss_cons (ps_set (i := 1) sc_month_of.nd rfl (Or.inl rfl) (pe_callF f_year_of (hr.mono (by decide)) rfl (pa_cons (pv 0) pa_nil)))
      (pss_cons (ps_set (i := 2) sc_month_of.nd rfl (Or.inl rfl) pe_int)
      (pss_cons (ps_for PassesOwn.never rfl (pi_range2 rfl T.b_range (pa_cons pe_int (pa_cons (pe_op op_add (pe_gI rfl T.c_MONTHS) pe_int) pa_nil))) (pg_name (i := 3) sc_month_of.nd rfl (Or.inl rfl))
      (pss_one (ps_if (pt_cmpR op_le (pe_callF f_month_start (hr.mono (by decide)) rfl (pa_cons (pv 1) (pa_cons (pv 3) pa_nil))) (pv 0) (nomark _))
      (pss_one (ps_set (i := 2) sc_month_of.nd rfl (Or.inl rfl) (pv 3)))
      pss_nil)))
      (pss_one (ps_ret (pv 2)))))), ?_⟩
    refine ⟨_, rfl, _, rfl,  _, _, rfl, rfl, _, _, rfl, ⟨by decide, by decide, by decide, by decide⟩, ?_⟩
    refine for_range (lo := 2) (n := 11) (fun i σ H' => ∃ v, σ = [some (.int d), some (.int (Pc.yearOf d)), some (.int (Pc.monthUpto d i)), v] ∧ H' = H) ⟨none, rfl, rfl⟩ ?_ ?_
    · rintro i σ H' hi ⟨v, rfl, rfl⟩
      refine ⟨_, rfl, _, rfl, _, _, rfl, ?_, _, rfl, _, _, rfl, rfl, _, rfl, if_2 (fun h => ?_) (fun h => ?_)⟩
      · dsimp only
        omega
      · refine ⟨_, rfl, some (.int (2 + (i : Int))), ?_, rfl⟩
        show [_, _, some (V.int (2 + (i : Int))), _] = [_, _, some (V.int (if Pc.monthStart (Pc.yearOf d) (2 + (i : Int)) ≤ d then 2 + (i : Int) else Pc.monthUpto d i)), _]
        rw [if_pos (dec_t h)]
      · refine ⟨some (.int (2 + (i : Int))), ?_, rfl⟩
        show [_, _, some (V.int (Pc.monthUpto d i)), _] = [_, _, some (V.int (if Pc.monthStart (Pc.yearOf d) (2 + (i : Int)) ≤ d then 2 + (i : Int) else Pc.monthUpto d i)), _]
        rw [if_neg (dec_f h)]
    · rintro σ H' ⟨v, rfl, rfl⟩
      exact ⟨_, rfl, k⟩
abbrev s_from_beginning : Stmt := top 25
abbrev N_from_beginning : List Str := ["year", "month", "weekday", "turn", "first", "wait"]
abbrev P_from_beginning : List Str := ["year", "month", "weekday", "turn"]
theorem sc_from_beginning : FnScope N_from_beginning P_from_beginning (defScope s_from_beginning) := ⟨rfl, rfl, rfl, by decide +kernel, rfl, by decide +kernel, by decide +kernel⟩
def spDay (g : Int → Int → Int → Int → V) : Sp := fun vs H Q _ => ∃ y m v t : Int, vs = [.int y, .int m, .int v, .int t] ∧ (1 ≤ m ∧ m ≤ 12) ∧ Q (g y m v t) H
theorem ok_from_beginning {f f1 f2 : Addr} (A : FnAt K mg "from_beginning" s_from_beginning P_from_beginning f) (T : Txt K mg C aL aP aR)
    (f_weekday_of : FnP P w K mg base 1 "weekday_of" P_weekday_of (spI1 fun d => .int (Pc.weekdayOf d)) f1)
    (f_month_start : FnP P w K mg base 2 "month_start" P_month_start (spI2 (fun _ m => 1 ≤ m ∧ m ≤ 13) fun y m => .int (Pc.monthStart y m)) f2) :
    FnP P w K mg base 3 "from_beginning" P_from_beginning (spDay fun y m v t => .int (Pc.fromBeginning y m v t)) f := by
  refine A.ok sc_from_beginning (fun vs H Q E h => ?_) (fun cdv A outer s H vs Q E hr h => ?_)
  · obtain ⟨y, m, v, t, rfl, _⟩ := h
    rfl
  · obtain ⟨y, m, v, t, rfl, ⟨h1, h2⟩, k⟩ := h
    refine ⟨_, (pss_cons (ps_set (i := 4) sc_from_beginning.nd rfl (Or.inl rfl) (pe_callF f_month_start (hr.mono (by decide)) rfl (pa_cons (pv 0) (pa_cons (pv 1) pa_nil))))
      (pss_cons (ps_set (i := 5) sc_from_beginning.nd rfl (Or.inl rfl) (pe_op op_mod (pe_op op_sub (pv 2) (pe_callF f_weekday_of (hr.mono (by decide)) rfl (pa_cons (pv 4) pa_nil))) pe_int))
      (pss_one (ps_ret (pe_op op_add (pe_op op_add (pv 4) (pv 5)) (pe_op op_mul pe_int (pe_op op_sub (pv 3) pe_int))))))), ?_⟩
    refine ⟨_, rfl, _, rfl, _, _, rfl, ?_, _, rfl, _, rfl, _, rfl, _, _, rfl, rfl, _, _, rfl, rfl, (show (0 : Int) < 7 by decide), _, rfl, _, rfl, _, _, rfl, rfl, _, rfl, _, _, rfl, rfl, _, _, rfl, rfl, .inl ⟨by decide, by decide⟩, _, _, rfl, rfl, k⟩
    dsimp only
    omega
abbrev s_from_end : Stmt := top 26
abbrev N_from_end : List Str := ["year", "month", "weekday", "turn", "last", "back"]
abbrev P_from_end : List Str := ["year", "month", "weekday", "turn"]
theorem sc_from_end : FnScope N_from_end P_from_end (defScope s_from_end) := ⟨rfl, rfl, rfl, by decide +kernel, rfl, by decide +kernel, by decide +kernel⟩
theorem ok_from_end {f f1 f2 f3 : Addr} (A : FnAt K mg "from_end" s_from_end P_from_end f) (T : Txt K mg C aL aP aR)
    (f_weekday_of : FnP P w K mg base 1 "weekday_of" P_weekday_of (spI1 fun d => .int (Pc.weekdayOf d)) f1)
    (f_month_length : FnP P w K mg base 1 "month_length" P_month_length (spI2 (fun _ m => 1 ≤ m ∧ m ≤ 12) fun y m => .int (Pc.monthLength y m)) f3)
    (f_month_start : FnP P w K mg base 2 "month_start" P_month_start (spI2 (fun _ m => 1 ≤ m ∧ m ≤ 13) fun y m => .int (Pc.monthStart y m)) f2) :
    FnP P w K mg base 3 "from_end" P_from_end (spDay fun y m v t => .int (Pc.fromEnd y m v t)) f := by
  refine A.ok sc_from_end (fun vs H Q E h => ?_) (fun cdv A outer s H vs Q E hr h => ?_)
  · obtain ⟨y, m, v, t, rfl, _⟩ := h
    rfl
  · obtain ⟨y, m, v, t, rfl, ⟨h1, h2⟩, k⟩ := h
    refine ⟨_, (pss_cons (ps_set (i := 4) sc_from_end.nd rfl (Or.inl rfl) (pe_op op_sub (pe_op op_add (pe_callF f_month_start (hr.mono (by decide)) rfl (pa_cons (pv 0) (pa_cons (pv 1) pa_nil))) (pe_callF f_month_length (hr.mono (by decide)) rfl (pa_cons (pv 0) (pa_cons (pv 1) pa_nil)))) pe_int))
      (pss_cons (ps_set (i := 5) sc_from_end.nd rfl (Or.inl rfl) (pe_op op_mod (pe_op op_sub (pe_callF f_weekday_of (hr.mono (by decide)) rfl (pa_cons (pv 4) pa_nil)) (pv 2)) pe_int))
      (pss_one (ps_ret (pe_op op_sub (pe_op op_sub (pv 4) (pv 5)) (pe_op op_mul pe_int (pe_op op_sub (pv 3) pe_int))))))), ?_⟩
    refine ⟨_, rfl, _, rfl, _, _, rfl, ?_, _, rfl, _, rfl, _, _, rfl, ?_, _, _, rfl, rfl, _, _, rfl, rfl, _, rfl, _, rfl, _, rfl, _, _, rfl, rfl, _, _, rfl, rfl, (show (0 : Int) < 7 by decide), _, rfl, _, rfl, _, _, rfl, rfl, _, rfl, _, _, rfl, rfl, _, _, rfl, rfl, .inl ⟨by decide, by decide⟩, _, _, rfl, rfl, k⟩
    · dsimp only
      omega
    · exact ⟨h1, h2⟩
abbrev s_date_numbers : Stmt := top 27
abbrev N_date_numbers : List Str := ["shown", "day", "year", "month", "day_of_month"]
abbrev P_date_numbers : List Str := ["shown"]
theorem sc_date_numbers : FnScope N_date_numbers P_date_numbers (defScope s_date_numbers) := ⟨rfl, rfl, rfl, by decide +kernel, rfl, by decide +kernel, by decide +kernel⟩
def spDate : Sp := fun vs H Q _ => ∃ n : Int, vs = [.int n] ∧ newL H Q (Pc.dateNumbers n)
theorem ok_date_numbers {f f1 f2 f3 f4 f5 : Addr} (A : FnAt K mg "date_numbers" s_date_numbers P_date_numbers f) (T : Txt K mg C aL aP aR)
    (f_is_moment : FnP P w K mg base 1 "is_moment" P_is_moment (spI1 fun n => .bl (Pc.isMoment n)) f1)
    (f_year_of : FnP P w K mg base 1 "year_of" P_year_of (spI1 fun d => .int (Pc.yearOf d)) f2)
    (f_month_of : FnP P w K mg base 3 "month_of" P_month_of (spI1 fun d => .int (Pc.monthOf d)) f3)
    (f_month_start : FnP P w K mg base 2 "month_start" P_month_start (spI2 (fun _ m => 1 ≤ m ∧ m ≤ 13) fun y m => .int (Pc.monthStart y m)) f4)
    (f_weekday_of : FnP P w K mg base 1 "weekday_of" P_weekday_of (spI1 fun d => .int (Pc.weekdayOf d)) f5) :
    FnP P w K mg base 4 "date_numbers" P_date_numbers spDate f := by
  refine A.ok sc_date_numbers (fun vs H Q E h => ?_) (fun cdv A outer s H vs Q E hr h => ?_)
  · obtain ⟨n, rfl, _⟩ := h
    rfl
  · obtain ⟨n, rfl, k⟩ := h
    refine ⟨_, (pss_cons (ps_if (pt_not (pt_val (pe_callF f_is_moment (hr.mono (by decide)) rfl (pa_cons (pv 0) pa_nil))))
      (pss_one (ps_ret (pe_lst pa_nil)))
      pss_nil)
      (pss_cons (ps_set (i := 1) sc_date_numbers.nd rfl (Or.inl rfl) (pe_op op_fdiv (pv 0) (pe_gI rfl T.c_DAY)))
      (pss_cons (ps_set (i := 2) sc_date_numbers.nd rfl (Or.inl rfl) (pe_callF f_year_of (hr.mono (by decide)) rfl (pa_cons (pv 1) pa_nil)))
      (pss_cons (ps_set (i := 3) sc_date_numbers.nd rfl (Or.inl rfl) (pe_callF f_month_of (hr.mono (by decide)) rfl (pa_cons (pv 1) pa_nil)))
      (pss_cons (ps_set (i := 4) sc_date_numbers.nd rfl (Or.inl rfl) (pe_op op_add (pe_op op_sub (pv 1) (pe_callF f_month_start (hr.mono (by decide)) rfl (pa_cons (pv 2) (pa_cons (pv 3) pa_nil)))) pe_int))
      (pss_one (ps_ret (pe_lst (pa_cons (pe_op op_add (pe_gI rfl T.c_FIRST_YEAR) (pv 2)) (pa_cons (pv 3) (pa_cons (pv 4) (pa_cons (pe_op op_mod (pv 0) (pe_gI rfl T.c_DAY)) (pa_cons (pe_callF f_weekday_of (hr.mono (by decide)) rfl (pa_cons (pv 1) pa_nil)) pa_nil))))))))))))), ?_⟩
    unfold Pc.dateNumbers at k
    refine ⟨_, rfl, _, rfl, _, rfl, if_2 (fun h => ?_) (fun h => ?_)⟩
    · rw [Bool.not_eq_true'] at h
      rw [if_neg (by rw [h]; decide)] at k
      exact ⟨Nat.zero_le _, fun p hp => k _ p (same_new hp) hp upd_same⟩
    · rw [Bool.not_eq_false'] at h
      rw [if_pos h] at k
      have mi := monthOf_in (n / 1440)
      refine ⟨_, rfl, _, _, rfl, rfl, ⟨by decide, by decide⟩, _, rfl, _, rfl, _, rfl, _, rfl, _, rfl, _, rfl, _, rfl, _, _, rfl, ?_, _, _, rfl, rfl, _, _, rfl, rfl, _, rfl, _, _, rfl, rfl, _, rfl, _, rfl, _, rfl, _, _, rfl, rfl, (show (0 : Int) < 1440 by decide), _, rfl, _, rfl, line_le (m := 5) (by exact Nat.le_refl _) (by decide), fun p hp => k _ p (same_new hp) hp upd_same⟩
      dsimp only
      omega
end
end Pw
namespace Pw
open PySem PySem.Spec PyProof.Rows L2
section
variable {P : Program} {w : World} {K : PySem.W.Frag} {mg : Str → Option Value} {base : Heap} {C aL aP aR : Addr}
theorem isRule_iff (b k v m t : Int) : Pc.isRule [b, k, v, m, t] = true ↔ (b = 0 ∨ b = 1) ∧ 1 ≤ k ∧ k ≤ 4 ∧ 1 ≤ v ∧ v ≤ 7 ∧ 1 ≤ m ∧ m ≤ 12 ∧ 0 ≤ t ∧ t < 1440 := by
  unfold Pc.isRule
  simp only [Bool.and_eq_true, Bool.or_eq_true, decide_eq_true_iff]
theorem isRule_no {b k v m t : Int} (h : ¬ ((b = 0 ∨ b = 1) ∧ 1 ≤ k ∧ k ≤ 4 ∧ 1 ≤ v ∧ v ≤ 7 ∧ 1 ≤ m ∧ m ≤ 12 ∧ 0 ≤ t ∧ t < 1440)) : Pc.isRule [b, k, v, m, t] = false := by
  rw [← Bool.not_eq_true, isRule_iff]
  exact h
theorem isRule_five {l : List Int} (h : Pc.isRule l = true) : ∃ b k v m t, l = [b, k, v, m, t] := by
  match l, h with
  | [b, k, v, m, t], _ => exact ⟨b, k, v, m, t, rfl⟩
theorem isRule_len {l : List Int} (h : l.length ≠ 5) : Pc.isRule l = false := by
  cases q : Pc.isRule l with
  | false => rfl
  | true =>
    obtain ⟨b, k, v, m, t, rfl⟩ := isRule_five q
    exact absurd rfl h
theorem isRule_len5 {l : List Int} (h : Pc.isRule l = true) : l.length = 5 := by
  obtain ⟨b, k, v, m, t, rfl⟩ := isRule_five h
  rfl
theorem five_of {l : List Int} (h : l.length = 5) : ∃ b k v m t, l = [b, k, v, m, t] := by
  match l, h with
  | [b, k, v, m, t], _ => exact ⟨b, k, v, m, t, rfl⟩
theorem nint {a b : Int} (h : (!decide (V.int a = V.int b)) = true) : a ≠ b := fun e => by
  rw [e] at h
  simp at h
theorem yint {a b : Int} (h : (!decide (V.int a = V.int b)) = false) : a = b := by
  simp at h
  exact h
theorem eint {a b : Int} (h : decide (V.int a = V.int b) = true) : a = b := V.int.inj (of_decide_eq_true h)
theorem fint {a b : Int} (h : decide (V.int a = V.int b) = false) : a ≠ b := fun e => of_decide_eq_false h (congrArg V.int e)
abbrev s_is_rule : Stmt := top 32
abbrev N_is_rule : List Str := ["row", "side", "turn", "weekday", "month", "minute"]
abbrev P_is_rule : List Str := ["row"]
theorem sc_is_rule : FnScope N_is_rule P_is_rule (defScope s_is_rule) := ⟨rfl, rfl, rfl, by decide +kernel, rfl, by decide +kernel, by decide +kernel⟩
def spRule (K : PySem.W.Frag) : Sp := fun vs H Q _ => ∃ a l, vs = [.ref a] ∧ SqL K H a (iV l) ∧ Q (.bl (Pc.isRule l)) H
theorem ok_is_rule {f : Addr} (A : FnAt K mg "is_rule" s_is_rule P_is_rule f) (T : Txt K mg C aL aP aR) : FnP P w K mg base 1 "is_rule" P_is_rule (spRule K) f := by
  refine A.ok sc_is_rule (fun vs H Q E h => ?_) (fun cdv A outer s H vs Q E hr h => ?_)
  · obtain ⟨a, l, rfl, _⟩ := h
    rfl
  · obtain ⟨a, l, rfl, hS, q⟩ := h
    refine ⟨_, (pss_cons (ps_if (pt_cmpR op_ne (pe_callB call_len_seq rfl T.b_len PySem.boot_len (pa_cons (pv 0) pa_nil)) (pe_gI rfl T.c_RULE_LENGTH) (nomark _))
      (pss_one (ps_ret pe_bl))
      pss_nil)
      (pss_cons (ps_asg (pv 0) (pg_unl rfl (pgs_cons (pg_name (i := 1) sc_is_rule.nd rfl (Or.inl rfl)) (pgs_cons (pg_name (i := 2) sc_is_rule.nd rfl (Or.inl rfl)) (pgs_cons (pg_name (i := 3) sc_is_rule.nd rfl (Or.inl rfl)) (pgs_cons (pg_name (i := 4) sc_is_rule.nd rfl (Or.inl rfl)) (pgs_cons (pg_name (i := 5) sc_is_rule.nd rfl (Or.inl rfl)) pgs_nil)))))))
      (pss_cons (ps_if (PW.pt (pw_and (pt_cmpR op_ne (pv 1) pe_int (nomark _)) (pw_and1 (pt_cmpR op_ne (pv 1) pe_int (nomark _)))))
      (pss_one (ps_ret pe_bl))
      pss_nil)
      (pss_cons (ps_if (PW.pt (pw_or (pt_cmpR op_lt (pv 2) pe_int (nomark _)) (pw_or1 (pt_cmpR op_gt (pv 2) (pe_gI rfl T.c_MOST_TURNS) (nomark _)))))
      (pss_one (ps_ret pe_bl))
      pss_nil)
      (pss_cons (ps_if (PW.pt (pw_or (pt_cmpR op_lt (pv 3) pe_int (nomark _)) (pw_or1 (pt_cmpR op_gt (pv 3) (pe_gI rfl T.c_WEEKDAYS) (nomark _)))))
      (pss_one (ps_ret pe_bl))
      pss_nil)
      (pss_cons (ps_if (PW.pt (pw_or (pt_cmpR op_lt (pv 4) pe_int (nomark _)) (pw_or1 (pt_cmpR op_gt (pv 4) (pe_gI rfl T.c_MONTHS) (nomark _)))))
      (pss_one (ps_ret pe_bl))
      pss_nil)
      (pss_one (ps_ret (pe_and (pe_cmpR op_le pe_int (pv 5) (nomark _)) (pe_one (pe_cmpR op_lt (pv 5) (pe_gI rfl T.c_DAY) (nomark _)))))))))))), ?_⟩
    refine ⟨_, rfl, _, _, rfl, .inl hS, rfl, _, rfl, if_2 (fun h => ?_) (fun h => ?_)⟩
    · have n : l.length ≠ 5 := fun z => nint h (by unfold iV; rw [List.length_map, z]; rfl)
      rw [isRule_len n] at q
      exact q
    · have n : l.length = 5 := by
        have := yint h
        unfold iV at this
        rw [List.length_map] at this
        omega
      obtain ⟨b, k, v, m, t, rfl⟩ := five_of n
      refine ⟨_, rfl, _, _, rfl, hS, rfl, _, _, rfl, _, _, rfl, _, _, rfl, _, _, rfl, _, _, rfl, rfl, ?_⟩
      have bad : ∀ {c : Prop}, c → (c → ¬ ((b = 0 ∨ b = 1) ∧ 1 ≤ k ∧ k ≤ 4 ∧ 1 ≤ v ∧ v ≤ 7 ∧ 1 ≤ m ∧ m ≤ 12 ∧ 0 ≤ t ∧ t < 1440)) → Q (.bl false) H := fun hc f => by
        rw [isRule_no (f hc)] at q
        exact q
      -- the side
      refine ⟨_, rfl, rfl, _, rfl, ?_⟩
      have side : (b = 0 ∨ b = 1) ∨ ((!decide (V.int b = V.int 0)) = true ∧ (!decide (V.int b = V.int 1)) = true) := by
        by_cases e : b = 0
        · exact .inl (.inl e)
        · by_cases e1 : b = 1
          · exact .inl (.inr e1)
          · exact .inr ⟨by simp [e], by simp [e1]⟩
      rcases side with hb | ⟨h0, h1⟩
      rotate_left
      · refine if_t h0 ⟨_, rfl, rfl, _, rfl, if_t h1 ?_⟩
        exact bad (And.intro (nint h0) (nint h1)) fun z => by omega
      refine if_2 (fun h0 => ⟨_, rfl, rfl, _, rfl, if_f (by rcases hb with e | e <;> subst e <;> first | rfl | simp at h0) ?_⟩) (fun h0 => if_f rfl ?_)
      all_goals
        -- the turn
        refine ⟨_, rfl, _, _, rfl, rfl, _, rfl, if_2 (fun h1 => if_t rfl ?_) (fun h1 => ⟨_, rfl, _, _, rfl, rfl, _, rfl, if_2 (fun h2 => ?_) (fun h2 => ?_)⟩)⟩
        · exact bad (dec_t h1) fun z => by omega
        · exact bad (dec_t h2) fun z => by omega
        -- the weekday
        refine ⟨_, rfl, _, _, rfl, rfl, _, rfl, if_2 (fun h3 => if_t rfl ?_) (fun h3 => ⟨_, rfl, _, _, rfl, rfl, _, rfl, if_2 (fun h4 => ?_) (fun h4 => ?_)⟩)⟩
        · exact bad (dec_t h3) fun z => by omega
        · exact bad (dec_t h4) fun z => by omega
        -- the month
        refine ⟨_, rfl, _, _, rfl, rfl, _, rfl, if_2 (fun h5 => if_t rfl ?_) (fun h5 => ⟨_, rfl, _, _, rfl, rfl, _, rfl, if_2 (fun h6 => ?_) (fun h6 => ?_)⟩)⟩
        · exact bad (dec_t h5) fun z => by omega
        · exact bad (dec_t h6) fun z => by omega
        have g1 := dec_f h1
        have g2 := dec_f h2
        have g3 := dec_f h3
        have g4 := dec_f h4
        have g5 := dec_f h5
        have g6 := dec_f h6
        refine ⟨_, rfl, _, _, rfl, rfl, _, rfl, if_2 (fun h7 => ⟨_, rfl, _, _, rfl, rfl, ?_⟩) (fun h7 => ?_)⟩
        · have e : Pc.isRule [b, k, v, m, t] = decide (t < 1440) := by
            rw [Bool.eq_iff_iff, isRule_iff, decide_eq_true_iff]
            have := dec_t h7
            omega
          rw [e] at q
          exact q
        · exact bad (dec_f h7) fun z => by omega
abbrev s_month_of_rule : Stmt := top 33
abbrev N_month_of_rule : List Str := ["rule"]
abbrev P_month_of_rule : List Str := ["rule"]
theorem sc_month_of_rule : FnScope N_month_of_rule P_month_of_rule (defScope s_month_of_rule) := ⟨rfl, rfl, rfl, by decide +kernel, rfl, by decide +kernel, by decide +kernel⟩
def spMonth (K : PySem.W.Frag) : Sp := fun vs H Q _ => ∃ a l, vs = [.ref a] ∧ SqL K H a (iV l) ∧ l.length = 5 ∧ Q (.int (Pc.monthOfRule l)) H
theorem ok_month_of_rule {f : Addr} (A : FnAt K mg "month_of_rule" s_month_of_rule P_month_of_rule f) : FnP P w K mg base 1 "month_of_rule" P_month_of_rule (spMonth K) f := by
  refine A.ok sc_month_of_rule (fun vs H Q E h => ?_) (fun cdv A outer s H vs Q E hr h => ?_)
  · obtain ⟨a, l, rfl, _⟩ := h
    rfl
  · obtain ⟨a, l, rfl, hS, h5, q⟩ := h
    obtain ⟨b, k, v, m, t, rfl⟩ := five_of h5
    refine ⟨_, (pss_one (ps_ret (pe_ix ix_list (pv 0) pe_int (fun _ _ => rfl)))), ?_⟩
    exact ⟨_, rfl, _, _, _, _, rfl, rfl, hS, rfl, q⟩
abbrev s_is_summer_rule : Stmt := top 34
abbrev N_is_summer_rule : List Str := ["more", "begins", "ends"]
abbrev P_is_summer_rule : List Str := ["more", "begins", "ends"]
theorem sc_is_summer_rule : FnScope N_is_summer_rule P_is_summer_rule (defScope s_is_summer_rule) := ⟨rfl, rfl, rfl, by decide +kernel, rfl, by decide +kernel, by decide +kernel⟩
def spSummerRule (K : PySem.W.Frag) : Sp := fun vs H Q _ => ∃ x a b l m, vs = [.int x, .ref a, .ref b] ∧ SqL K H a (iV l) ∧ SqL K H b (iV m) ∧ Q (.bl (Pc.isSummerRule x l m)) H
theorem ok_is_summer_rule {f f1 f2 : Addr} (A : FnAt K mg "is_summer_rule" s_is_summer_rule P_is_summer_rule f) (T : Txt K mg C aL aP aR)
    (f_is_rule : FnP P w K mg base 1 "is_rule" P_is_rule (spRule K) f1)
    (f_month_of_rule : FnP P w K mg base 1 "month_of_rule" P_month_of_rule (spMonth K) f2) : FnP P w K mg base 2 "is_summer_rule" P_is_summer_rule (spSummerRule K) f := by
  refine A.ok sc_is_summer_rule (fun vs H Q E h => ?_) (fun cdv A outer s H vs Q E hr h => ?_)
  · obtain ⟨x, a, b, l, m, rfl, _⟩ := h
    rfl
  · obtain ⟨x, a, b, l, m, rfl, hA, hB, q⟩ := h
    refine ⟨_, (pss_cons (ps_if (PW.pt (pw_or (pt_cmpR op_lt (pv 0) pe_int (nomark _)) (pw_or1 (pt_cmpR op_gt (pv 0) (pe_gI rfl T.c_MOST_MORE) (nomark _)))))
      (pss_one (ps_ret pe_bl))
      pss_nil)
      (pss_cons (ps_if (PW.pt (pw_or (pt_not (pt_val (pe_callF f_is_rule (hr.mono (by decide)) rfl (pa_cons (pv 1) pa_nil)))) (pw_or1 (pt_not (pt_val (pe_callF f_is_rule (hr.mono (by decide)) rfl (pa_cons (pv 2) pa_nil)))))))
      (pss_one (ps_ret pe_bl))
      pss_nil)
      (pss_one (ps_ret (pe_cmpR op_ne (pe_callF f_month_of_rule (hr.mono (by decide)) rfl (pa_cons (pv 1) pa_nil)) (pe_callF f_month_of_rule (hr.mono (by decide)) rfl (pa_cons (pv 2) pa_nil)) (nomark _)))))), ?_⟩
    have no : ¬ (1 ≤ x ∧ x ≤ 120 ∧ Pc.isRule l = true ∧ Pc.isRule m = true) → Q (.bl false) H := fun z => by
      have e : Pc.isSummerRule x l m = false := by
        rw [← Bool.not_eq_true]
        unfold Pc.isSummerRule
        simp only [Bool.and_eq_true, decide_eq_true_iff]
        intro y
        exact z ⟨y.1, y.2.1, y.2.2.1, y.2.2.2.1⟩
      rw [e] at q
      exact q
    refine ⟨_, rfl, _, _, rfl, rfl, _, rfl, if_2 (fun h1 => if_t rfl (no fun z => ?_)) (fun h1 => ⟨_, rfl, _, _, rfl, rfl, _, rfl, if_2 (fun h2 => no fun z => ?_) (fun h2 => ?_)⟩)⟩
    · have := dec_t h1
      omega
    · have := dec_t h2
      omega
    have g1 := dec_f h1
    have g2 := dec_f h2
    refine ⟨_, rfl, _, _, rfl, hA, _, rfl, if_2 (fun h3 => if_t rfl (no fun z => ?_)) (fun h3 => ⟨_, rfl, _, _, rfl, hB, _, rfl, if_2 (fun h4 => no fun z => ?_) (fun h4 => ?_)⟩)⟩
    · rw [z.2.2.1] at h3
      cases h3
    · rw [z.2.2.2] at h4
      cases h4
    rw [Bool.not_eq_false'] at h3 h4
    refine ⟨_, rfl, _, _, rfl, hA, isRule_len5 h3, _, rfl, _, _, rfl, hB, isRule_len5 h4, rfl, ?_⟩
    have e : Pc.isSummerRule x l m = !decide (V.int (Pc.monthOfRule l) = V.int (Pc.monthOfRule m)) := by
      unfold Pc.isSummerRule
      rw [h3, h4, Bool.eq_iff_iff]
      simp only [Bool.and_eq_true, decide_eq_true_iff, true_and, Bool.not_eq_true', decide_eq_false_iff_not, V.int.injEq]
      constructor
      · exact fun z => z.2.2
      · exact fun z => ⟨by omega, by omega, z⟩
    rw [e] at q
    exact q
abbrev s_rule_moment : Stmt := top 35
abbrev N_rule_moment : List Str := ["rule", "year", "side", "turn", "weekday", "month", "minute", "day"]
abbrev P_rule_moment : List Str := ["rule", "year"]
theorem sc_rule_moment : FnScope N_rule_moment P_rule_moment (defScope s_rule_moment) := ⟨rfl, rfl, rfl, by decide +kernel, rfl, by decide +kernel, by decide +kernel⟩
def spMoment (K : PySem.W.Frag) : Sp := fun vs H Q _ => ∃ a l y, vs = [.ref a, .int y] ∧ SqT K H a (iV l) ∧ Pc.isRule l = true ∧ Q (.int (Pc.ruleMoment l y)) H
theorem ok_rule_moment {f f1 f2 : Addr} (A : FnAt K mg "rule_moment" s_rule_moment P_rule_moment f) (T : Txt K mg C aL aP aR)
    (f_from_beginning : FnP P w K mg base 3 "from_beginning" P_from_beginning (spDay fun y m v t => .int (Pc.fromBeginning y m v t)) f1)
    (f_from_end : FnP P w K mg base 3 "from_end" P_from_end (spDay fun y m v t => .int (Pc.fromEnd y m v t)) f2) : FnP P w K mg base 4 "rule_moment" P_rule_moment (spMoment K) f := by
  refine A.ok sc_rule_moment (fun vs H Q E h => ?_) (fun cdv A outer s H vs Q E hr h => ?_)
  · obtain ⟨a, l, y, rfl, _⟩ := h
    rfl
  · obtain ⟨a, l, y, rfl, hS, ok, q⟩ := h
    obtain ⟨b, k, v, m, t, rfl⟩ := isRule_five ok
    obtain ⟨_, _, _, _, _, m1, m2, _⟩ := (isRule_iff b k v m t).mp ok
    change Q (.int ((if b = 0 then Pc.fromBeginning y m v k else Pc.fromEnd y m v k) * 1440 + t)) H at q
    refine ⟨_, (pss_cons (ps_asg (pv 0) (pg_tup rfl (pgs_cons (pg_name (i := 2) sc_rule_moment.nd rfl (Or.inl rfl)) (pgs_cons (pg_name (i := 3) sc_rule_moment.nd rfl (Or.inl rfl)) (pgs_cons (pg_name (i := 4) sc_rule_moment.nd rfl (Or.inl rfl)) (pgs_cons (pg_name (i := 5) sc_rule_moment.nd rfl (Or.inl rfl)) (pgs_cons (pg_name (i := 6) sc_rule_moment.nd rfl (Or.inl rfl)) pgs_nil)))))))
      (pss_cons (ps_if (pt_cmpR op_eq (pv 2) pe_int (nomark _))
      (pss_one (ps_set (i := 7) sc_rule_moment.nd rfl (Or.inl rfl) (pe_callF f_from_beginning (hr.mono (by decide)) rfl (pa_cons (pv 1) (pa_cons (pv 5) (pa_cons (pv 4) (pa_cons (pv 3) pa_nil)))))))
      (pss_one (ps_set (i := 7) sc_rule_moment.nd rfl (Or.inl rfl) (pe_callF f_from_end (hr.mono (by decide)) rfl (pa_cons (pv 1) (pa_cons (pv 5) (pa_cons (pv 4) (pa_cons (pv 3) pa_nil))))))))
      (pss_one (ps_ret (pe_op op_add (pe_op op_mul (pv 7) (pe_gI rfl T.c_DAY)) (pv 6)))))), ?_⟩
    refine ⟨_, rfl, _, _, rfl, hS, rfl, _, _, rfl, _, _, rfl, _, _, rfl, _, _, rfl, _, _, rfl, rfl, ?_⟩
    refine ⟨_, rfl, rfl, _, rfl, if_2 (fun h => ?_) (fun h => ?_)⟩
    · rw [if_pos (eint h)] at q
      refine ⟨_, rfl, _, rfl, _, rfl, _, rfl, _, _, _, _, rfl, ?_, _, rfl, _, _, rfl, rfl, .inr ⟨by decide, by decide⟩, _, rfl, _, _, rfl, rfl, q⟩
      exact ⟨m1, m2⟩
    · rw [if_neg (fint h)] at q
      refine ⟨_, rfl, _, rfl, _, rfl, _, rfl, _, _, _, _, rfl, ?_, _, rfl, _, _, rfl, rfl, .inr ⟨by decide, by decide⟩, _, rfl, _, _, rfl, rfl, q⟩
      exact ⟨m1, m2⟩
abbrev s_is_summer : Stmt := top 36
abbrev N_is_summer : List Str := ["begins", "ends", "moment", "year", "begin", "end"]
abbrev P_is_summer : List Str := ["begins", "ends", "moment"]
theorem sc_is_summer : FnScope N_is_summer P_is_summer (defScope s_is_summer) := ⟨rfl, rfl, rfl, by decide +kernel, rfl, by decide +kernel, by decide +kernel⟩
def spSummer (K : PySem.W.Frag) : Sp := fun vs H Q _ => ∃ a b l m u, vs = [.ref a, .ref b, .int u] ∧ SqT K H a (iV l) ∧ SqT K H b (iV m) ∧ Pc.isRule l = true ∧ Pc.isRule m = true ∧ Q (.bl (Pc.isSummer l m u)) H
theorem ok_is_summer {f f1 f2 : Addr} (A : FnAt K mg "is_summer" s_is_summer P_is_summer f) (T : Txt K mg C aL aP aR)
    (f_year_of : FnP P w K mg base 1 "year_of" P_year_of (spI1 fun d => .int (Pc.yearOf d)) f1)
    (f_rule_moment : FnP P w K mg base 4 "rule_moment" P_rule_moment (spMoment K) f2) : FnP P w K mg base 5 "is_summer" P_is_summer (spSummer K) f := by
  refine A.ok sc_is_summer (fun vs H Q E h => ?_) (fun cdv A outer s H vs Q E hr h => ?_)
  · obtain ⟨a, b, l, m, u, rfl, _⟩ := h
    rfl
  · obtain ⟨a, b, l, m, u, rfl, hA, hB, oa, ob, q⟩ := h
    unfold Pc.isSummer at q
    refine ⟨_, (pss_cons (ps_set (i := 3) sc_is_summer.nd rfl (Or.inl rfl) (pe_callF f_year_of (hr.mono (by decide)) rfl (pa_cons (pe_op op_fdiv (pv 2) (pe_gI rfl T.c_DAY)) pa_nil)))
      (pss_cons (ps_set (i := 4) sc_is_summer.nd rfl (Or.inl rfl) (pe_callF f_rule_moment (hr.mono (by decide)) rfl (pa_cons (pv 0) (pa_cons (pv 3) pa_nil))))
      (pss_cons (ps_set (i := 5) sc_is_summer.nd rfl (Or.inl rfl) (pe_callF f_rule_moment (hr.mono (by decide)) rfl (pa_cons (pv 1) (pa_cons (pv 3) pa_nil))))
      (pss_cons (ps_if (pt_cmpR op_lt (pv 4) (pv 5) (nomark _))
      (pss_one (ps_ret (pe_and (pe_cmpR op_le (pv 4) (pv 2) (nomark _)) (pe_one (pe_cmpR op_lt (pv 2) (pv 5) (nomark _))))))
      pss_nil)
      (pss_one (ps_ret (pe_or (pe_cmpR op_lt (pv 2) (pv 5) (nomark _)) (pe_one (pe_cmpR op_le (pv 4) (pv 2) (nomark _)))))))))), ?_⟩
    refine ⟨_, rfl, _, _, rfl, rfl, ⟨by decide, by decide⟩, _, rfl, _, rfl, _, rfl, _, _, _, rfl, hA, oa, _, rfl, _, rfl, _, _, _, rfl, hB, ob, _, rfl, _, rfl, _, _, rfl, rfl, _, rfl, if_2 (fun h => ?_) (fun h => ?_)⟩
    · rw [if_pos (dec_t h)] at q
      refine ⟨_, rfl, _, rfl, _, _, rfl, rfl, _, rfl, if_2 (fun h1 => ⟨_, rfl, _, rfl, _, _, rfl, rfl, ?_⟩) (fun h1 => ?_)⟩
      · rw [h1, Bool.true_and] at q
        exact q
      · rw [h1, Bool.false_and] at q
        exact q
    · rw [if_neg (dec_f h)] at q
      refine ⟨_, rfl, _, rfl, _, _, rfl, rfl, _, rfl, if_2 (fun h1 => ?_) (fun h1 => ⟨_, rfl, _, rfl, _, _, rfl, rfl, ?_⟩)⟩
      · rw [h1, Bool.true_or] at q
        exact q
      · rw [h1, Bool.false_or] at q
        exact q
end
end Pw
namespace Pw
open PySem PySem.Spec PyProof.Rows L2
theorem keep_upd {H : Hp} {p : Addr} {o : HO} : Keep p p H (upd H p o) := fun b x e n _ => by
  rw [upd_ne n]
  exact e
/-- what stood ahead of a new place stands when that is written -/
theorem same_on {H H' : Hp} {p : Addr} {o : HO} (s : Same H H') (n : H p = none) : Same H (upd H' p o) := fun b x e => by
  rw [upd_ne (ne_of_none e n)]
  exact s _ _ e
/-- a new decree -/
def newD (K : PySem.W.Frag) (H : Hp) (Q : VK) (d : Pc.D) : Prop := ∀ (H' : Hp) (p : Addr), Same H H' → H p = none → DecAt K H' (.ref p) d → Q (.ref p) H'
/-- a new list of decrees -/
def newDs (K : PySem.W.Frag) (H : Hp) (Q : VK) (l : List Pc.D) : Prop := ∀ (H' : Hp) (p : Addr), Same H H' → H p = none → DecsAt K H' p l → Q (.ref p) H'
def spD1 (K : PySem.W.Frag) (g : Pc.D → V) : Sp := fun vs H Q _ => ∃ v d, vs = [v] ∧ DecAt K H v d ∧ Q (g d) H
section
variable {P : Program} {w : World} {K : PySem.W.Frag} {mg : Str → Option Value} {base : Heap} {C aL aP aR : Addr}
abbrev s_plain_decree : Stmt := top 38
abbrev N_plain_decree : List Str := ["since", "offset"]
abbrev P_plain_decree : List Str := ["since", "offset"]
theorem sc_plain_decree : FnScope N_plain_decree P_plain_decree (defScope s_plain_decree) := ⟨rfl, rfl, rfl, by decide +kernel, rfl, by decide +kernel, by decide +kernel⟩
def spPlain (K : PySem.W.Frag) : Sp := fun vs H Q _ => ∃ s o, vs = [.int s, .int o] ∧ newD K H Q (Pc.plain s o)
theorem ok_plain_decree {f : Addr} (A : FnAt K mg "plain_decree" s_plain_decree P_plain_decree f) : FnP P w K mg base 1 "plain_decree" P_plain_decree (spPlain K) f := by
  refine A.ok sc_plain_decree (fun vs H Q E h => ?_) (fun cdv A outer s H vs Q E hr h => ?_)
  · obtain ⟨a, b, rfl, _⟩ := h
    rfl
  · obtain ⟨s, o, rfl, q⟩ := h
    refine ⟨_, (pss_one (ps_ret (pe_tup (pa_cons (pv 0) (pa_cons (pv 1) (pa_cons pe_int (pa_cons (pe_tup pa_nil) (pa_cons (pe_tup pa_nil) pa_nil)))))))), ?_⟩
    refine ⟨_, rfl, _, rfl, Nat.zero_le _, fun b hb => ⟨Nat.zero_le _, fun e he => ⟨line_le (m := 5) (by exact Nat.le_refl _) (by decide), fun p hp => ?_⟩⟩⟩
    have s1 := same_new (o := .tup []) hb
    have s2 := same_new (o := .tup []) he
    have s3 := same_new (o := .tup [.int s, .int o, .int 0, .ref b, .ref e]) hp
    refine q _ p ((s1.trans s2).trans s3) (s1.free (s2.free hp)) ⟨p, b, e, rfl, .of upd_same, Same.tup s3 (Same.tup s2 (.of upd_same)), Same.tup s3 (.of upd_same), ⟨fun z => ?_⟩⟩
    exact absurd z (Int.lt_irrefl 0)
abbrev s_summer_decree : Stmt := top 39
abbrev N_summer_decree : List Str := ["since", "offset", "more", "begins", "ends"]
abbrev P_summer_decree : List Str := ["since", "offset", "more", "begins", "ends"]
theorem sc_summer_decree : FnScope N_summer_decree P_summer_decree (defScope s_summer_decree) := ⟨rfl, rfl, rfl, by decide +kernel, rfl, by decide +kernel, by decide +kernel⟩
def spSummerD (K : PySem.W.Frag) : Sp := fun vs H Q _ => ∃ s o x a b l m, vs = [.int s, .int o, .int x, .ref a, .ref b] ∧ SqL K H a (iV l) ∧ SqL K H b (iV m) ∧ Pc.isRule l = true ∧ Pc.isRule m = true ∧ newD K H Q ⟨s, o, x, l, m⟩
theorem ok_summer_decree {f : Addr} (A : FnAt K mg "summer_decree" s_summer_decree P_summer_decree f) (T : Txt K mg C aL aP aR) : FnP P w K mg base 1 "summer_decree" P_summer_decree (spSummerD K) f := by
  refine A.ok sc_summer_decree (fun vs H Q E h => ?_) (fun cdv A outer s H vs Q E hr h => ?_)
  · obtain ⟨s, o, x, a, b, l, m, rfl, _⟩ := h
    rfl
  · obtain ⟨s, o, x, a, b, l, m, rfl, hA, hB, oa, ob, q⟩ := h
    refine ⟨_, (pss_one (ps_ret (pe_tup (pa_cons (pv 0) (pa_cons (pv 1) (pa_cons (pv 2) (pa_cons (pe_callTy call_tuple_of rfl T.b_tuple (by decide +kernel) (pa_cons (pv 3) pa_nil)) (pa_cons (pe_callTy call_tuple_of rfl T.b_tuple (by decide +kernel) (pa_cons (pv 4) pa_nil)) pa_nil)))))))), ?_⟩
    refine ⟨_, rfl, _, rfl, _, rfl, _, rfl, _, _, rfl, .inl ⟨hA, fun b1 hb => ?_⟩⟩
    have s1 := same_new (o := .tup (iV l)) hb
    refine ⟨_, rfl, _, _, rfl, .inl ⟨s1.seq hB, fun e he => ?_⟩⟩
    have s2 := same_new (o := .tup (iV m)) he
    refine ⟨line_le (m := 5) (by exact Nat.le_refl _) (by decide), fun p hp => ?_⟩
    have s3 := same_new (o := .tup [.int s, .int o, .int x, .ref b1, .ref e]) hp
    exact q _ p ((s1.trans s2).trans s3) (s1.free (s2.free hp)) ⟨p, b1, e, rfl, .of upd_same, Same.tup s3 (Same.tup s2 (.of upd_same)), Same.tup s3 (.of upd_same), ⟨fun _ => ⟨oa, ob⟩⟩⟩
abbrev s_since_of : Stmt := top 40
abbrev N_since_of : List Str := ["decree"]
abbrev P_since_of : List Str := ["decree"]
theorem sc_since_of : FnScope N_since_of P_since_of (defScope s_since_of) := ⟨rfl, rfl, rfl, by decide +kernel, rfl, by decide +kernel, by decide +kernel⟩
theorem ok_since_of {f : Addr} (A : FnAt K mg "since_of" s_since_of P_since_of f) : FnP P w K mg base 1 "since_of" P_since_of (spD1 K fun d => .int d.since) f := by
  refine A.ok sc_since_of (fun vs H Q E h => ?_) (fun cdv A outer s H vs Q E hr h => ?_)
  · obtain ⟨v, d, rfl, _⟩ := h
    rfl
  · obtain ⟨v, d, rfl, ⟨r, b, e, rfl, h1, _⟩, q⟩ := h
    refine ⟨_, (pss_one (ps_ret (pe_ix ix_tup (pv 0) pe_int (fun _ _ => rfl)))), ?_⟩
    exact ⟨_, rfl, _, _, _, _, rfl, rfl, h1, rfl, q⟩
abbrev s_offset_of : Stmt := top 41
abbrev N_offset_of : List Str := ["decree"]
abbrev P_offset_of : List Str := ["decree"]
theorem sc_offset_of : FnScope N_offset_of P_offset_of (defScope s_offset_of) := ⟨rfl, rfl, rfl, by decide +kernel, rfl, by decide +kernel, by decide +kernel⟩
theorem ok_offset_of {f : Addr} (A : FnAt K mg "offset_of" s_offset_of P_offset_of f) : FnP P w K mg base 1 "offset_of" P_offset_of (spD1 K fun d => .int d.offset) f := by
  refine A.ok sc_offset_of (fun vs H Q E h => ?_) (fun cdv A outer s H vs Q E hr h => ?_)
  · obtain ⟨v, d, rfl, _⟩ := h
    rfl
  · obtain ⟨v, d, rfl, ⟨r, b, e, rfl, h1, _⟩, q⟩ := h
    refine ⟨_, (pss_one (ps_ret (pe_ix ix_tup (pv 0) pe_int (fun _ _ => rfl)))), ?_⟩
    exact ⟨_, rfl, _, _, _, _, rfl, rfl, h1, rfl, q⟩
abbrev s_has_summer : Stmt := top 42
abbrev N_has_summer : List Str := ["decree"]
abbrev P_has_summer : List Str := ["decree"]
theorem sc_has_summer : FnScope N_has_summer P_has_summer (defScope s_has_summer) := ⟨rfl, rfl, rfl, by decide +kernel, rfl, by decide +kernel, by decide +kernel⟩
theorem ok_has_summer {f : Addr} (A : FnAt K mg "has_summer" s_has_summer P_has_summer f) : FnP P w K mg base 1 "has_summer" P_has_summer (spD1 K fun d => .bl (decide (0 < d.more))) f := by
  refine A.ok sc_has_summer (fun vs H Q E h => ?_) (fun cdv A outer s H vs Q E hr h => ?_)
  · obtain ⟨v, d, rfl, _⟩ := h
    rfl
  · obtain ⟨v, d, rfl, ⟨r, b, e, rfl, h1, _⟩, q⟩ := h
    refine ⟨_, (pss_one (ps_ret (pe_cmpR op_gt (pe_ix ix_tup (pv 0) pe_int (fun _ _ => rfl)) pe_int (nomark _)))), ?_⟩
    exact ⟨_, rfl, _, _, _, _, rfl, rfl, h1, rfl, _, _, rfl, rfl, q⟩
abbrev s_ahead_by : Stmt := top 43
abbrev N_ahead_by : List Str := ["decree", "moment", "since", "offset", "more", "begins", "ends"]
abbrev P_ahead_by : List Str := ["decree", "moment"]
theorem sc_ahead_by : FnScope N_ahead_by P_ahead_by (defScope s_ahead_by) := ⟨rfl, rfl, rfl, by decide +kernel, rfl, by decide +kernel, by decide +kernel⟩
def spAheadBy (K : PySem.W.Frag) : Sp := fun vs H Q _ => ∃ v d u, vs = [v, .int u] ∧ DecAt K H v d ∧ Q (.int (Pc.aheadBy d u)) H
theorem ok_ahead_by {f f1 : Addr} (A : FnAt K mg "ahead_by" s_ahead_by P_ahead_by f)
    (f_is_summer : FnP P w K mg base 5 "is_summer" P_is_summer (spSummer K) f1) : FnP P w K mg base 6 "ahead_by" P_ahead_by (spAheadBy K) f := by
  refine A.ok sc_ahead_by (fun vs H Q E h => ?_) (fun cdv A outer s H vs Q E hr h => ?_)
  · obtain ⟨v, d, u, rfl, _⟩ := h
    rfl
  · obtain ⟨v, d, u, rfl, ⟨r, b, e, rfl, h1, h2, h3, h4⟩, q⟩ := h
    unfold Pc.aheadBy at q
    refine ⟨_, (pss_cons (ps_asg (pv 0) (pg_tup rfl (pgs_cons (pg_name (i := 2) sc_ahead_by.nd rfl (Or.inl rfl)) (pgs_cons (pg_name (i := 3) sc_ahead_by.nd rfl (Or.inl rfl)) (pgs_cons (pg_name (i := 4) sc_ahead_by.nd rfl (Or.inl rfl)) (pgs_cons (pg_name (i := 5) sc_ahead_by.nd rfl (Or.inl rfl)) (pgs_cons (pg_name (i := 6) sc_ahead_by.nd rfl (Or.inl rfl)) pgs_nil)))))))
      (pss_cons (ps_if (PW.pt (pw_and (pt_cmpR op_gt (pv 4) pe_int (nomark _)) (pw_and1 (pt_val (pe_callF f_is_summer (hr.mono (by decide)) rfl (pa_cons (pv 5) (pa_cons (pv 6) (pa_cons (pv 1) pa_nil))))))))
      (pss_one (ps_ret (pe_op op_add (pv 3) (pv 4))))
      pss_nil)
      (pss_one (ps_ret (pv 3))))), ?_⟩
    refine ⟨_, rfl, _, _, rfl, h1, rfl, _, _, rfl, _, _, rfl, _, _, rfl, _, _, rfl, _, _, rfl, rfl, ?_⟩
    refine ⟨_, rfl, _, _, rfl, rfl, _, rfl, if_2 (fun c => ?_) (fun c => if_f rfl ?_)⟩
    · have m := dec_t c
      obtain ⟨oa, ob⟩ := h4.more m
      refine ⟨_, rfl, _, rfl, _, rfl, _, _, _, _, _, rfl, h2, h3, oa, ob, _, rfl, if_2 (fun c2 => ?_) (fun c2 => ?_)⟩
      · rw [if_pos ⟨m, c2⟩] at q
        exact ⟨_, rfl, _, rfl, _, _, rfl, rfl, q⟩
      · rw [if_neg fun z => by rw [c2] at z; cases z.2] at q
        exact ⟨_, rfl, q⟩
    · rw [if_neg fun z => dec_f c z.1] at q
      exact ⟨_, rfl, q⟩
abbrev s_in_force : Stmt := top 44
abbrev N_in_force : List Str := ["decrees", "moment", "found", "decree"]
abbrev P_in_force : List Str := ["decrees", "moment"]
theorem sc_in_force : FnScope N_in_force P_in_force (defScope s_in_force) := ⟨rfl, rfl, rfl, by decide +kernel, rfl, by decide +kernel, by decide +kernel⟩
def spInForce (K : PySem.W.Frag) : Sp := fun vs H Q _ => ∃ a l u, vs = [.ref a, .int u] ∧ DecsAt K H a l ∧ l ≠ [] ∧ ∀ v, DecAt K H v (Pc.inForce l u) → Q v H
theorem force_take {l : List Pc.D} {i : Nat} {d : Pc.D} (h : l[i]? = some d) (u : Int) (f : Pc.D) : Pc.force u f (l.take (i + 1)) = if d.since ≤ u then d else Pc.force u f (l.take i) := by
  rw [take_next h, Pc.force_append]
  rfl
theorem ok_in_force {f f1 : Addr} (A : FnAt K mg "in_force" s_in_force P_in_force f)
    (f_since_of : FnP P w K mg base 1 "since_of" P_since_of (spD1 K fun d => .int d.since) f1) : FnP P w K mg base 2 "in_force" P_in_force (spInForce K) f := by
  refine A.ok sc_in_force (fun vs H Q E h => ?_) (fun cdv A outer s H vs Q E hr h => ?_)
  · obtain ⟨v, d, u, rfl, _⟩ := h
    rfl
  · obtain ⟨a, l, u, rfl, ⟨us, h1, h2⟩, ne, q⟩ := h
    have hL : SqL K H a us := .of h1
    obtain ⟨d0, l', rfl⟩ : ∃ d0 l', l = d0 :: l' := by
      cases l with
      | nil => exact absurd rfl ne
      | cons d0 l' => exact ⟨d0, l', rfl⟩
    obtain ⟨v0, e0, r0⟩ := pd_got (i := 0) h2 rfl
    refine ⟨_, (pss_cons (ps_set (i := 2) sc_in_force.nd rfl (Or.inl rfl) (pe_ix ix_list (pv 0) pe_int (fun _ _ => rfl)))
      (pss_cons (ps_for PassesOwn.never rfl (pi_list (pv 0)) (pg_name (i := 3) sc_in_force.nd rfl (Or.inl rfl))
      (pss_one (ps_if (pt_cmpR op_le (pe_callF f_since_of (hr.mono (by decide)) rfl (pa_cons (pv 3) pa_nil)) (pv 1) (nomark _))
      (pss_one (ps_set (i := 2) sc_in_force.nd rfl (Or.inl rfl) (pv 3)))
      pss_nil)))
      (pss_one (ps_ret (pv 2))))), ?_⟩
    refine ⟨_, rfl, _, _, _, _, rfl, rfl, hL, atI_nat (j := 0) e0, _, rfl, a, rfl, ⟨_, hL⟩, for_list (K := K) (a := a) (xs := us) (fun i σ H' => ∃ v y, σ = [some (.ref a), some (.int u), some v, y] ∧ H' = H ∧ DecAt K H v (Pc.force u d0 ((d0 :: l').take i))) ⟨v0, none, rfl, rfl, r0⟩ ?_ ?_ ?_⟩
    · rintro i σ H' _ ⟨_, _, _, rfl, _⟩
      exact hL
    · rintro i x σ H' hi ⟨v, y, rfl, rfl, hv⟩
      obtain ⟨d, hd, rd⟩ := pd_get h2 hi
      refine ⟨_, rfl, _, _, rfl, rd, _, rfl, _, _, rfl, rfl, _, rfl, if_2 (fun c => ?_) (fun c => ?_)⟩
      · refine ⟨_, rfl, x, some x, rfl, rfl, ?_⟩
        rw [force_take hd, if_pos (dec_t c)]
        exact rd
      · refine ⟨v, some x, rfl, rfl, ?_⟩
        rw [force_take hd, if_neg (dec_f c)]
        exact hv
    · rintro σ H' ⟨v, y, rfl, rfl, hv⟩
      rw [pd_len h2, List.take_length] at hv
      exact ⟨_, rfl, q v hv⟩
abbrev s_has_since : Stmt := top 45
abbrev N_has_since : List Str := ["decrees", "since", "decree"]
abbrev P_has_since : List Str := ["decrees", "since"]
theorem sc_has_since : FnScope N_has_since P_has_since (defScope s_has_since) := ⟨rfl, rfl, rfl, by decide +kernel, rfl, by decide +kernel, by decide +kernel⟩
def spHasSince (K : PySem.W.Frag) : Sp := fun vs H Q _ => ∃ a l t, vs = [.ref a, .int t] ∧ DecsAt K H a l ∧ Q (.bl (Pc.hasSince l t)) H
theorem ok_has_since {f f1 : Addr} (A : FnAt K mg "has_since" s_has_since P_has_since f)
    (f_since_of : FnP P w K mg base 1 "since_of" P_since_of (spD1 K fun d => .int d.since) f1) : FnP P w K mg base 2 "has_since" P_has_since (spHasSince K) f := by
  refine A.ok sc_has_since (fun vs H Q E h => ?_) (fun cdv A outer s H vs Q E hr h => ?_)
  · obtain ⟨v, d, u, rfl, _⟩ := h
    rfl
  · obtain ⟨a, l, t, rfl, ⟨us, h1, h2⟩, q⟩ := h
    have hL : SqL K H a us := .of h1
    refine ⟨_, (pss_cons (ps_for PassesOwn.never rfl (pi_list (pv 0)) (pg_name (i := 2) sc_has_since.nd rfl (Or.inl rfl))
      (pss_one (ps_if (pt_cmpR op_eq (pe_callF f_since_of (hr.mono (by decide)) rfl (pa_cons (pv 2) pa_nil)) (pv 1) (nomark _))
      (pss_one (ps_ret pe_bl))
      pss_nil)))
      (pss_one (ps_ret pe_bl))), ?_⟩
    refine ⟨_, rfl, a, rfl, ⟨_, hL⟩, for_list (K := K) (a := a) (xs := us) (fun i σ H' => ∃ y, σ = [some (.ref a), some (.int t), y] ∧ H' = H ∧ Pc.hasSince (l.take i) t = false) ⟨none, rfl, rfl, rfl⟩ ?_ ?_ ?_⟩
    · rintro i σ H' _ ⟨_, _, rfl, _⟩
      exact hL
    · rintro i x σ H' hi ⟨y, rfl, rfl, hv⟩
      obtain ⟨d, hd, rd⟩ := pd_get h2 hi
      refine ⟨_, rfl, _, _, rfl, rd, _, rfl, rfl, _, rfl, if_2 (fun c => ?_) (fun c => ?_)⟩
      · have e : Pc.hasSince l t = true := by
          unfold Pc.hasSince
          rw [List.any_eq_true]
          exact ⟨d, List.mem_of_getElem? hd, decide_eq_true (eint c)⟩
        rw [e] at q
        exact q
      · refine ⟨some x, rfl, rfl, ?_⟩
        unfold Pc.hasSince at hv ⊢
        rw [take_next hd, List.any_append, hv]
        simp [fint c]
    · rintro σ H' ⟨y, rfl, rfl, hv⟩
      rw [pd_len h2, List.take_length] at hv
      rw [hv] at q
      exact q
abbrev s_with_decree : Stmt := top 46
abbrev N_with_decree : List Str := ["decrees", "added", "since", "before", "decree", "behind"]
abbrev P_with_decree : List Str := ["decrees", "added"]
theorem sc_with_decree : FnScope N_with_decree P_with_decree (defScope s_with_decree) := ⟨rfl, rfl, rfl, by decide +kernel, rfl, by decide +kernel, by decide +kernel⟩
def spWith (K : PySem.W.Frag) : Sp := fun vs H Q _ => ∃ a l v d, vs = [.ref a, v] ∧ DecsAt K H a l ∧ l.length ≤ 8 ∧ DecAt K H v d ∧ newDs K H Q (Pc.withDecree l d)
theorem filter_take {l : List Pc.D} {i : Nat} {d : Pc.D} (p : Pc.D → Bool) (h : l[i]? = some d) : (l.take (i + 1)).filter p = (l.take i).filter p ++ (if p d = true then [d] else []) := by
  rw [take_next h, List.filter_append]
  congr 1
  by_cases c : p d = true
  · rw [if_pos c]
    simp [c]
  · rw [if_neg c]
    simp [c]
theorem filter_small {l : List Pc.D} (p : Pc.D → Bool) (h : l.length ≤ 8) (i : Nat) : ((l.take i).filter p).length ≤ 8 :=
  Nat.le_trans (List.length_filter_le _ _) (by rw [List.length_take]; omega)
theorem ok_with_decree {f f1 : Addr} (A : FnAt K mg "with_decree" s_with_decree P_with_decree f)
    (f_since_of : FnP P w K mg base 1 "since_of" P_since_of (spD1 K fun d => .int d.since) f1) : FnP P w K mg base 2 "with_decree" P_with_decree (spWith K) f := by
  refine A.ok sc_with_decree (fun vs H Q E h => ?_) (fun cdv A outer s H vs Q E hr h => ?_)
  · obtain ⟨a, l, v, d, rfl, _⟩ := h
    rfl
  · obtain ⟨a, l, v, d, rfl, ⟨us, h1, h2⟩, l8, hd, q⟩ := h
    have hL : SqL K H a us := .of h1
    refine ⟨_, (pss_cons (ps_set (i := 2) sc_with_decree.nd rfl (Or.inr rfl) (pe_callF f_since_of (hr.mono (by decide)) rfl (pa_cons (pv 1) pa_nil)))
      (pss_cons (ps_setLc (i := 3) (own := [("decree", 4)]) (g := gName 4) rfl sc_with_decree.nd rfl rfl (sw_true rfl rfl rfl (by decide +kernel)) (pi_list (pv 0)) (blkOk_by (own := [("decree", 4)]) (N := N_with_decree) (sc := defScope s_with_decree) (by decide +kernel)) (fun _ _ _ _ _ => pg_name (i := 4) sc_with_decree.nd rfl (Or.inl rfl)) (fun _ _ _ _ _ => (pts_one (pt_cmpR op_lt (pe_callF f_since_of (hr.mono (by decide)) rfl (pa_cons (pv 4) pa_nil)) (pv 2) (nomark _)))) (fun _ _ _ _ _ => (pv 4)))
      (pss_cons (ps_setLc (i := 5) (own := [("decree", 4)]) (g := gName 4) rfl sc_with_decree.nd rfl rfl (sw_true rfl rfl rfl (by decide +kernel)) (pi_list (pv 0)) (blkOk_by (own := [("decree", 4)]) (N := N_with_decree) (sc := defScope s_with_decree) (by decide +kernel)) (fun _ _ _ _ _ => pg_name (i := 4) sc_with_decree.nd rfl (Or.inl rfl)) (fun _ _ _ _ _ => (pts_one (pt_cmpR op_gt (pe_callF f_since_of (hr.mono (by decide)) rfl (pa_cons (pv 4) pa_nil)) (pv 2) (nomark _)))) (fun _ _ _ _ _ => (pv 4)))
      (pss_one (ps_ret (pe_op op_cat (pe_op op_cat (pv 3) (pe_lst (pa_cons (pv 1) pa_nil))) (pv 5))))))), ?_⟩
    refine ⟨_, rfl, _, _, rfl, hd, ?_⟩
    -- before
    refine ⟨_, rfl, a, rfl, ⟨_, hL⟩, fun D1 n1 => lc_list (K := K) (a := a) (xs := us) (fun i H' => Same H H' ∧ ∃ ws, H' D1 = some (.lst ws) ∧ Paired (DecAt K H') ws ((l.take i).filter fun e => decide (e.since < d.since))) ⟨same_new n1, [], upd_same, .nil⟩ ?_ ?_ ?_⟩
    · rintro i H' _ ⟨s, _⟩
      exact s.seq hL
    · rintro i x H' hi ⟨s, ws, hD, hW⟩
      obtain ⟨e, he, re⟩ := pd_get h2 hi
      have len : ws.length ≤ 8 := by
        rw [pd_len hW]
        exact filter_small _ l8 i
      refine ⟨rfl, _, rfl, _, _, rfl, DecAt.same s re, _, rfl, _, _, rfl, rfl, _, rfl, if_2 (fun c => ?_) (fun c => ?_)⟩
      · refine ⟨_, rfl, ws, hD, small_of len (by decide), same_on s n1, _, upd_same, ?_⟩
        rw [filter_take _ he, if_pos c]
        exact pd_mono (pd_app hW (pd_one (DecAt.same s re))) fun _ _ => DecAt.keep keep_upd hD hD
      · refine ⟨s, ws, hD, ?_⟩
        rw [filter_take _ he, if_neg (by rw [c]; decide), List.append_nil]
        exact hW
    rintro H1 ⟨s1, ws1, hD1, hW1⟩
    rw [pd_len h2, List.take_length] at hW1
    -- behind
    refine ⟨_, rfl, a, rfl, ⟨_, s1.seq hL⟩, fun D2 n2 => lc_list (K := K) (a := a) (xs := us) (fun i H' => Same H1 H' ∧ ∃ ws, H' D2 = some (.lst ws) ∧ Paired (DecAt K H') ws ((l.take i).filter fun e => decide (d.since < e.since))) ⟨same_new n2, [], upd_same, .nil⟩ ?_ ?_ ?_⟩
    · rintro i H' _ ⟨s, _⟩
      exact s.seq (s1.seq hL)
    · rintro i x H' hi ⟨s, ws, hD, hW⟩
      obtain ⟨e, he, re⟩ := pd_get h2 hi
      have re' := DecAt.same (s1.trans s) re
      have len : ws.length ≤ 8 := by
        rw [pd_len hW]
        exact filter_small _ l8 i
      refine ⟨rfl, _, rfl, _, _, rfl, re', _, rfl, _, _, rfl, rfl, _, rfl, if_2 (fun c => ?_) (fun c => ?_)⟩
      · refine ⟨_, rfl, ws, hD, small_of len (by decide), same_on s n2, _, upd_same, ?_⟩
        rw [filter_take _ he, if_pos c]
        exact pd_mono (pd_app hW (pd_one re')) fun _ _ => DecAt.keep keep_upd hD hD
      · refine ⟨s, ws, hD, ?_⟩
        rw [filter_take _ he, if_neg (by rw [c]; decide), List.append_nil]
        exact hW
    rintro H2 ⟨s2, ws2, hD2, hW2⟩
    rw [pd_len h2, List.take_length] at hW2
    have len1 : ws1.length ≤ 8 := by
      rw [pd_len hW1]
      have := filter_small (fun e => decide (e.since < d.since)) l8 l.length
      rw [List.take_length] at this
      exact this
    have len2 : ws2.length ≤ 8 := by
      rw [pd_len hW2]
      have := filter_small (fun e => decide (d.since < e.since)) l8 l.length
      rw [List.take_length] at this
      exact this
    -- before + [added] + behind
    refine ⟨_, rfl, _, rfl, line_le (m := 1) (by exact Nat.le_refl _) (by decide), fun m hm => ?_⟩
    have s3 := same_new (o := .lst [v]) hm
    refine ⟨D1, m, _, _, rfl, rfl, s3 _ _ (s2 _ _ hD1), upd_same, line_le (m := 9) (by show ws1.length + 1 ≤ 9; omega) (by decide), fun n hn => ?_⟩
    have s4 := same_new (o := .lst (ws1 ++ [v])) hn
    refine ⟨_, rfl, n, D2, _, _, rfl, rfl, upd_same, s4 _ _ (s3 _ _ hD2), line_le (m := 17) (by rw [List.length_append]; show ws1.length + 1 + ws2.length ≤ 17; omega) (by decide), fun r hr => ?_⟩
    have s5 := same_new (o := .lst (ws1 ++ [v] ++ ws2)) hr
    have s25 := (s3.trans s4).trans s5
    have s15 := s2.trans s25
    exact q _ r (s1.trans s15) (s1.free (s2.free (s3.free (s4.free hr)))) ⟨_, upd_same, pd_app (pd_app (pd_mono hW1 fun _ _ => DecAt.same s15) (pd_one (DecAt.same (s1.trans s15) hd))) (pd_mono hW2 fun _ _ => DecAt.same s25)⟩
abbrev s_without_since : Stmt := top 47
abbrev N_without_since : List Str := ["decrees", "since", "decree"]
abbrev P_without_since : List Str := ["decrees", "since"]
theorem sc_without_since : FnScope N_without_since P_without_since (defScope s_without_since) := ⟨rfl, rfl, rfl, by decide +kernel, rfl, by decide +kernel, by decide +kernel⟩
def spWithout (K : PySem.W.Frag) : Sp := fun vs H Q _ => ∃ a l t, vs = [.ref a, .int t] ∧ DecsAt K H a l ∧ l.length ≤ 8 ∧ newDs K H Q (Pc.withoutSince l t)
theorem ok_without_since {f f1 : Addr} (A : FnAt K mg "without_since" s_without_since P_without_since f)
    (f_since_of : FnP P w K mg base 1 "since_of" P_since_of (spD1 K fun d => .int d.since) f1) : FnP P w K mg base 2 "without_since" P_without_since (spWithout K) f := by
  refine A.ok sc_without_since (fun vs H Q E h => ?_) (fun cdv A outer s H vs Q E hr h => ?_)
  · obtain ⟨a, l, t, rfl, _⟩ := h
    rfl
  · obtain ⟨a, l, t, rfl, ⟨us, h1, h2⟩, l8, q⟩ := h
    have hL : SqL K H a us := .of h1
    refine ⟨_, (pss_one (ps_ret (pe_lc (own := [("decree", 2)]) (g := gName 2) rfl sc_without_since.nd (pi_list (pv 0)) (blkOk_by (own := [("decree", 2)]) (N := N_without_since) (sc := defScope s_without_since) (by decide +kernel)) (fun _ _ _ _ _ => pg_name (i := 2) sc_without_since.nd rfl (Or.inl rfl)) (fun _ _ _ _ _ => (pts_one (pt_cmpR op_ne (pe_callF f_since_of (hr.mono (by decide)) rfl (pa_cons (pv 2) pa_nil)) (pv 1) (nomark _)))) (fun _ _ _ _ _ => (pv 2))))), ?_⟩
    refine ⟨_, rfl, a, rfl, ⟨_, hL⟩, fun D1 n1 => lc_list (K := K) (a := a) (xs := us) (fun i H' => Same H H' ∧ ∃ ws, H' D1 = some (.lst ws) ∧ Paired (DecAt K H') ws ((l.take i).filter fun e => decide (e.since ≠ t))) ⟨same_new n1, [], upd_same, .nil⟩ ?_ ?_ ?_⟩
    · rintro i H' _ ⟨s, _⟩
      exact s.seq hL
    · rintro i x H' hi ⟨s, ws, hD, hW⟩
      obtain ⟨e, he, re⟩ := pd_get h2 hi
      have len : ws.length ≤ 8 := by
        rw [pd_len hW]
        exact filter_small _ l8 i
      refine ⟨rfl, _, rfl, _, _, rfl, DecAt.same s re, _, rfl, rfl, _, rfl, if_2 (fun c => ?_) (fun c => ?_)⟩
      · refine ⟨_, rfl, ws, hD, small_of len (by decide), same_on s n1, _, upd_same, ?_⟩
        rw [filter_take _ he, if_pos (decide_eq_true (nint c))]
        exact pd_mono (pd_app hW (pd_one (DecAt.same s re))) fun _ _ => DecAt.keep keep_upd hD hD
      · refine ⟨s, ws, hD, ?_⟩
        rw [filter_take _ he, if_neg (by have := yint c; simp [this]), List.append_nil]
        exact hW
    rintro H1 ⟨s1, ws1, hD1, hW1⟩
    rw [pd_len h2, List.take_length] at hW1
    exact q H1 D1 s1 n1 ⟨ws1, hD1, hW1⟩
end
end Pw
namespace Pw
open PySem PySem.Spec PyProof.Rows L2
/-- a new list of spans -/
def newSp (H : Hp) (Q : VK) (l : List Pc.Span) : Prop := ∀ (H' : Hp) (p : Addr), Same H H' → H p = none → SpansAt H' p l → Q (.ref p) H'
theorem SpanAt.on {H : Hp} {D : Addr} {ws : List V} {o : HO} (hD : H D = some (.lst ws)) {v : V} {s : Pc.Span} (h : SpanAt H v s) : SpanAt (upd H D o) v s := by
  obtain ⟨r, rfl, h1⟩ := h
  refine ⟨r, rfl, ?_⟩
  rw [upd_ne (ne_of h1 hD (by intro z; cases z))]
  exact h1
theorem min_is (i j : Int) : (if j < i then j else i) = min i j := by
  split <;> omega
theorem max_is (i j : Int) : (if j > i then j else i) = max i j := by
  split <;> omega
/-- over enumerate(a list) that the body leaves as it is: each turn's pair is a new tuple -/
theorem for_enum {K : PySem.W.Frag} {a : Addr} {xs : List V} {g : TG} {tb : TS} {D : Ends} {σ : L2.St} {H : Hp} (Pv : Nat → L2.St → Hp → Prop) (h0 : Pv 0 σ H) (hl : ∀ i σ H, i ≤ xs.length → Pv i σ H → SqL K H a xs)
    (hs : ∀ i x σ H T, xs[i]? = some x → Pv i σ H → H T = none → g (.ref T) σ (upd H T (.tup [.int (i : Nat), x])) fun σ2 H2 => tb { D with nx := Pv (i + 1), ct := Pv (i + 1), bk := D.nx } σ2 H2) (hd : ∀ σ H, Pv xs.length σ H → D.nx σ H) :
    ∃ W : Nat → Nat → L2.St → Hp → Prop, (∃ m, W 0 m σ H) ∧ ∀ i m σ H, W i m σ H →
      ((Ite K a).stop i H ∧ D.nx σ H) ∨ ((Ite K a).go i H ∧ ∃ N : L2.St → Hp → Prop, (∀ σ' H', N σ' H' → ∃ m', m' < m ∧ W (i + 1) m' σ' H') ∧ ∀ x H', (Ite K a).yld i H x H' → g x σ H' fun σ2 H2 => tb { D with nx := N, ct := N, bk := D.nx } σ2 H2) := by
  refine ⟨fun i m σ H => m = xs.length - i ∧ i ≤ xs.length ∧ Pv i σ H, ⟨xs.length, by simp, Nat.zero_le _, h0⟩, ?_⟩
  rintro i m σ H ⟨rfl, hi, p⟩
  have q := hl i σ H hi p
  by_cases hlt : i < xs.length
  · refine .inr ⟨⟨xs, xs[i], q, by simp [hlt]⟩, Pv (i + 1), fun σ' H' p' => ⟨xs.length - (i + 1), by omega, rfl, hlt, p'⟩, fun x H' y => ?_⟩
    obtain ⟨T, x', rfl, nT, rfl, e⟩ := y
    exact hs i x' _ _ T (e xs q) p nT
  · have e : i = xs.length := by omega
    subst e
    exact .inl ⟨⟨xs, q, Nat.le_refl _⟩, hd σ H p⟩
section
variable {P : Program} {w : World} {K : PySem.W.Frag} {mg : Str → Option Value} {base : Heap} {C aL aP aR : Addr}
abbrev s_year_spans : Stmt := top 49
abbrev N_year_spans : List Str := ["decree", "year", "since", "offset", "more", "begins", "ends", "begin", "end", "low", "first", "second", "high"]
abbrev P_year_spans : List Str := ["decree", "year"]
theorem sc_year_spans : FnScope N_year_spans P_year_spans (defScope s_year_spans) := ⟨rfl, rfl, rfl, by decide +kernel, rfl, by decide +kernel, by decide +kernel⟩
def spYear (K : PySem.W.Frag) : Sp := fun vs H Q _ => ∃ v d y, vs = [v, .int y] ∧ DecAt K H v d ∧ 0 < d.more ∧ newSp H Q (Pc.yearSpans d y)
theorem ok_year_spans {f f1 f2 f3 : Addr} (A : FnAt K mg "year_spans" s_year_spans P_year_spans f) (T : Txt K mg C aL aP aR)
    (f_year_start : FnP P w K mg base 1 "year_start" P_year_start (spI1 fun y => .int (Pc.yearStart y)) f1)
    (f_rule_moment : FnP P w K mg base 4 "rule_moment" P_rule_moment (spMoment K) f2)
    (f_ahead_by : FnP P w K mg base 6 "ahead_by" P_ahead_by (spAheadBy K) f3) : FnP P w K mg base 7 "year_spans" P_year_spans (spYear K) f := by
  refine A.ok sc_year_spans (fun vs H Q E h => ?_) (fun cdv A outer s H vs Q E hr h => ?_)
  · obtain ⟨v, d, y, rfl, _⟩ := h
    rfl
  · obtain ⟨v, d, y, rfl, hd, hm, q⟩ := h
    obtain ⟨r, b, e, rfl, h1, h2, h3, h4⟩ := hd
    have hd : DecAt K H (.ref r) d := ⟨r, b, e, rfl, h1, h2, h3, h4⟩
    obtain ⟨oa, ob⟩ := h4.more hm
    refine ⟨_, (pss_cons (ps_asg (pv 0) (pg_tup rfl (pgs_cons (pg_name (i := 2) sc_year_spans.nd rfl (Or.inl rfl)) (pgs_cons (pg_name (i := 3) sc_year_spans.nd rfl (Or.inl rfl)) (pgs_cons (pg_name (i := 4) sc_year_spans.nd rfl (Or.inl rfl)) (pgs_cons (pg_name (i := 5) sc_year_spans.nd rfl (Or.inl rfl)) (pgs_cons (pg_name (i := 6) sc_year_spans.nd rfl (Or.inl rfl)) pgs_nil)))))))
      (pss_cons (ps_set (i := 7) sc_year_spans.nd rfl (Or.inl rfl) (pe_callF f_rule_moment (hr.mono (by decide)) rfl (pa_cons (pv 5) (pa_cons (pv 1) pa_nil))))
      (pss_cons (ps_set (i := 8) sc_year_spans.nd rfl (Or.inl rfl) (pe_callF f_rule_moment (hr.mono (by decide)) rfl (pa_cons (pv 6) (pa_cons (pv 1) pa_nil))))
      (pss_cons (ps_set (i := 9) sc_year_spans.nd rfl (Or.inl rfl) (pe_op op_mul (pe_callF f_year_start (hr.mono (by decide)) rfl (pa_cons (pv 1) pa_nil)) (pe_gI rfl T.c_DAY)))
      (pss_cons (ps_set (i := 10) sc_year_spans.nd rfl (Or.inl rfl) (pe_callB (call_min2 rfl) rfl T.b_min (by decide +kernel) (pa_cons (pv 7) (pa_cons (pv 8) pa_nil))))
      (pss_cons (ps_set (i := 11) sc_year_spans.nd rfl (Or.inl rfl) (pe_callB (call_max2 rfl) rfl T.b_max (by decide +kernel) (pa_cons (pv 7) (pa_cons (pv 8) pa_nil))))
      (pss_cons (ps_set (i := 12) sc_year_spans.nd rfl (Or.inl rfl) (pe_op op_mul (pe_callF f_year_start (hr.mono (by decide)) rfl (pa_cons (pe_op op_add (pv 1) pe_int) pa_nil)) (pe_gI rfl T.c_DAY)))
      (pss_one (ps_ret (pe_lst (pa_cons (pe_tup (pa_cons (pv 9) (pa_cons (pv 10) (pa_cons (pe_callF f_ahead_by (hr.mono (by decide)) rfl (pa_cons (pv 0) (pa_cons (pv 9) pa_nil))) pa_nil)))) (pa_cons (pe_tup (pa_cons (pv 10) (pa_cons (pv 11) (pa_cons (pe_callF f_ahead_by (hr.mono (by decide)) rfl (pa_cons (pv 0) (pa_cons (pv 10) pa_nil))) pa_nil)))) (pa_cons (pe_tup (pa_cons (pv 11) (pa_cons (pv 12) (pa_cons (pe_callF f_ahead_by (hr.mono (by decide)) rfl (pa_cons (pv 0) (pa_cons (pv 11) pa_nil))) pa_nil)))) pa_nil))))))))))))), ?_⟩
    refine ⟨_, rfl, _, _, rfl, h1, rfl, _, _, rfl, _, _, rfl, _, _, rfl, _, _, rfl, _, _, rfl, rfl, ?_⟩
    refine ⟨_, rfl, _, rfl, _, _, _, rfl, h2, oa, ?_⟩
    refine ⟨_, rfl, _, rfl, _, _, _, rfl, h3, ob, ?_⟩
    refine ⟨_, rfl, _, rfl, _, _, rfl, rfl, .inr ⟨by decide, by decide⟩, _, rfl, _, rfl, _, _, rfl, _, rfl, _, rfl, _, _, rfl, _, rfl, _, _, rfl, rfl, _, rfl, _, _, rfl, rfl, .inr ⟨by decide, by decide⟩, ?_⟩
    rw [min_is, max_is, show L2.start N_year_spans [V.ref r, V.int y] = [some (.ref r), some (.int y), none, none, none, none, none, none, none, none, none, none, none] from rfl]
    simp only [List.set_cons_succ, List.set_cons_zero]
    refine ⟨_, rfl, _, rfl, _, rfl, _, rfl, _, _, _, rfl, hd, line_le (m := 3) (by exact Nat.le_refl _) (by decide), fun p1 n1 => ?_⟩
    have s1 := same_new (o := .tup [.int (Pc.yearStart y * 1440), .int (min (Pc.ruleMoment d.begins y) (Pc.ruleMoment d.ends y)), .int (Pc.aheadBy d (Pc.yearStart y * 1440))]) n1
    refine ⟨_, rfl, _, rfl, _, rfl, _, rfl, _, _, _, rfl, hd.same s1, line_le (m := 3) (by exact Nat.le_refl _) (by decide), fun p2 n2 => ?_⟩
    have s2 := same_new (o := .tup [.int (min (Pc.ruleMoment d.begins y) (Pc.ruleMoment d.ends y)), .int (max (Pc.ruleMoment d.begins y) (Pc.ruleMoment d.ends y)), .int (Pc.aheadBy d (min (Pc.ruleMoment d.begins y) (Pc.ruleMoment d.ends y)))]) n2
    refine ⟨_, rfl, _, rfl, _, rfl, _, rfl, _, _, _, rfl, (hd.same s1).same s2, line_le (m := 3) (by exact Nat.le_refl _) (by decide), fun p3 n3 => ?_⟩
    have s3 := same_new (o := .tup [.int (max (Pc.ruleMoment d.begins y) (Pc.ruleMoment d.ends y)), .int (Pc.yearStart (y + 1) * 1440), .int (Pc.aheadBy d (max (Pc.ruleMoment d.begins y) (Pc.ruleMoment d.ends y)))]) n3
    refine ⟨line_le (m := 3) (by exact Nat.le_refl _) (by decide), fun p n => ?_⟩
    have s4 := same_new (o := .lst [.ref p1, .ref p2, .ref p3]) n
    refine q _ p (((s1.trans s2).trans s3).trans s4) (s1.free (s2.free (s3.free n))) ⟨_, upd_same, .cons ⟨p1, rfl, s4 _ _ (s3 _ _ (s2 _ _ upd_same))⟩ (.cons ⟨p2, rfl, s4 _ _ (s3 _ _ upd_same)⟩ (.cons ⟨p3, rfl, s4 _ _ upd_same⟩ .nil))⟩
abbrev s_decree_spans : Stmt := top 50
abbrev N_decree_spans : List Str := ["decree", "upto", "since", "spans", "first_year", "last_year", "year", "low", "high", "ahead", "start", "stop"]
abbrev P_decree_spans : List Str := ["decree", "upto"]
theorem sc_decree_spans : FnScope N_decree_spans P_decree_spans (defScope s_decree_spans) := ⟨rfl, rfl, rfl, by decide +kernel, rfl, by decide +kernel, by decide +kernel⟩
def spDecree (K : PySem.W.Frag) : Sp := fun vs H Q _ => ∃ v d u, vs = [v, .int u] ∧ DecAt K H v d ∧ (0 ≤ d.since ∧ d.since < u ∧ u ≤ 52596000) ∧ newSp H Q (Pc.decreeSpans d u)
theorem years_in {s u : Int} (h0 : 0 ≤ s) (h1 : s < u) (h2 : u ≤ 52596000) : 0 ≤ Pc.yearOf (s / 1440) ∧ Pc.yearOf (s / 1440) ≤ 99 ∧ 0 ≤ Pc.yearOf ((u - 1) / 1440) ∧ Pc.yearOf ((u - 1) / 1440) ≤ 99 := by
  obtain ⟨v, rfl⟩ : ∃ w : Nat, s = (w : Int) := ⟨s.toNat, by omega⟩
  obtain ⟨w, hw⟩ : ∃ w : Nat, u - 1 = (w : Int) := ⟨(u - 1).toNat, by omega⟩
  rw [hw, Pc.yearOf_at, Pc.yearOf_at]
  have y1 := Pc.year99 (t := v) (by omega)
  have y2 := Pc.year99 (t := w) (by omega)
  omega
theorem clip_take {l : List Pc.Span} {i : Nat} {s : Pc.Span} (h : l[i]? = some s) (a b : Int) : Pc.clip a b (l.take (i + 1)) = Pc.clip a b (l.take i) ++ (if max s.1 a < min s.2.1 b then [(max s.1 a, min s.2.1 b, s.2.2)] else []) := by
  unfold Pc.clip
  rw [take_next h, List.filterMap_append]
  congr 1
  by_cases c : max s.1 a < min s.2.1 b
  · rw [if_pos c]
    simp [c]
  · rw [if_neg c]
    simp [c]
theorem ok_decree_spans {f f1 f2 f3 f4 f5 : Addr} (A : FnAt K mg "decree_spans" s_decree_spans P_decree_spans f) (T : Txt K mg C aL aP aR)
    (f_since_of : FnP P w K mg base 1 "since_of" P_since_of (spD1 K fun d => .int d.since) f1)
    (f_offset_of : FnP P w K mg base 1 "offset_of" P_offset_of (spD1 K fun d => .int d.offset) f2)
    (f_has_summer : FnP P w K mg base 1 "has_summer" P_has_summer (spD1 K fun d => .bl (decide (0 < d.more))) f3)
    (f_year_of : FnP P w K mg base 1 "year_of" P_year_of (spI1 fun d => .int (Pc.yearOf d)) f4)
    (f_year_spans : FnP P w K mg base 7 "year_spans" P_year_spans (spYear K) f5) : FnP P w K mg base 8 "decree_spans" P_decree_spans (spDecree K) f := by
  refine A.ok sc_decree_spans (fun vs H Q E h => ?_) (fun cdv A outer s H vs Q E hr h => ?_)
  · obtain ⟨v, d, y, rfl, _⟩ := h
    rfl
  · obtain ⟨v, d, u, rfl, hd, ⟨b0, b1, b2⟩, q⟩ := h
    unfold Pc.decreeSpans at q
    refine ⟨_, (pss_cons (ps_set (i := 2) sc_decree_spans.nd rfl (Or.inl rfl) (pe_callF f_since_of (hr.mono (by decide)) rfl (pa_cons (pv 0) pa_nil)))
      (pss_cons (ps_if (pt_not (pt_val (pe_callF f_has_summer (hr.mono (by decide)) rfl (pa_cons (pv 0) pa_nil))))
      (pss_one (ps_ret (pe_lst (pa_cons (pe_tup (pa_cons (pv 2) (pa_cons (pv 1) (pa_cons (pe_callF f_offset_of (hr.mono (by decide)) rfl (pa_cons (pv 0) pa_nil)) pa_nil)))) pa_nil))))
      pss_nil)
      (pss_cons (ps_set (i := 3) sc_decree_spans.nd rfl (Or.inl rfl) (pe_lst pa_nil))
      (pss_cons (ps_set (i := 4) sc_decree_spans.nd rfl (Or.inl rfl) (pe_callF f_year_of (hr.mono (by decide)) rfl (pa_cons (pe_op op_fdiv (pv 2) (pe_gI rfl T.c_DAY)) pa_nil)))
      (pss_cons (ps_set (i := 5) sc_decree_spans.nd rfl (Or.inl rfl) (pe_callF f_year_of (hr.mono (by decide)) rfl (pa_cons (pe_op op_fdiv (pe_op op_sub (pv 1) pe_int) (pe_gI rfl T.c_DAY)) pa_nil)))
      (pss_cons (ps_for PassesOwn.never rfl (pi_range2 rfl T.b_range (pa_cons (pv 4) (pa_cons (pe_op op_add (pv 5) pe_int) pa_nil))) (pg_name (i := 6) sc_decree_spans.nd rfl (Or.inl rfl))
      (pss_one (ps_for PassesOwn.never rfl (pi_list (pe_callF f_year_spans (hr.mono (by decide)) rfl (pa_cons (pv 0) (pa_cons (pv 6) pa_nil)))) (pg_tup rfl (pgs_cons (pg_name (i := 7) sc_decree_spans.nd rfl (Or.inl rfl)) (pgs_cons (pg_name (i := 8) sc_decree_spans.nd rfl (Or.inl rfl)) (pgs_cons (pg_name (i := 9) sc_decree_spans.nd rfl (Or.inl rfl)) pgs_nil))))
      (pss_cons (ps_set (i := 10) sc_decree_spans.nd rfl (Or.inl rfl) (pe_callB (call_max2 rfl) rfl T.b_max (by decide +kernel) (pa_cons (pv 7) (pa_cons (pv 2) pa_nil))))
      (pss_cons (ps_set (i := 11) sc_decree_spans.nd rfl (Or.inl rfl) (pe_callB (call_min2 rfl) rfl T.b_min (by decide +kernel) (pa_cons (pv 8) (pa_cons (pv 1) pa_nil))))
      (pss_one (ps_if (pt_cmpR op_lt (pv 10) (pv 11) (nomark _))
      (pss_one (ps_expr (pe_bm PySem.F.plainAttrs_list PySem.F.slot_list_append PySem.F.type_list_append mt_append (pv 3) (pa_cons (pe_tup (pa_cons (pv 10) (pa_cons (pv 11) (pa_cons (pv 9) pa_nil)))) pa_nil))))
      pss_nil)))))))
      (pss_one (ps_ret (pv 3))))))))), ?_⟩
    refine ⟨_, rfl, _, _, rfl, hd, _, rfl, _, _, rfl, hd, _, rfl, if_2 (fun c => ?_) (fun c => ?_)⟩
    · have c' : ¬ d.more > 0 := by
        rw [Bool.not_eq_true'] at c
        exact dec_f c
      rw [if_neg c'] at q
      refine ⟨_, rfl, _, rfl, _, rfl, _, _, rfl, hd, line_le (m := 3) (by exact Nat.le_refl _) (by decide), fun p1 n1 => ⟨line_le (m := 1) (by exact Nat.le_refl _) (by decide), fun p n => ?_⟩⟩
      have s1 := same_new (o := .tup [.int d.since, .int u, .int d.offset]) n1
      have s2 := same_new (o := .lst [.ref p1]) n
      exact q _ p (s1.trans s2) (s1.free n) ⟨_, upd_same, .cons ⟨p1, rfl, s2 _ _ upd_same⟩ .nil⟩
    · have c' : 0 < d.more := by
        rw [Bool.not_eq_false'] at c
        exact dec_t c
      rw [if_pos c'] at q
      obtain ⟨y1, y2, y3, y4⟩ := years_in b0 b1 b2
      refine ⟨Nat.zero_le _, fun D nD => ?_⟩
      refine ⟨_, rfl, _, _, rfl, rfl, ⟨by decide, by decide⟩, _, rfl, _, rfl, _, _, rfl, rfl, _, _, rfl, rfl, ⟨by decide, by decide⟩, _, rfl, _, rfl, _, rfl, _, _, rfl, rfl, _, _, rfl, ⟨by omega, by omega, by omega, by omega⟩, ?_⟩
      refine for_range (fun i σ H' => ∃ a6 a7 a8 a9 a10 a11, σ = [some v, some (.int u), some (.int d.since), some (.ref D), some (.int (Pc.yearOf (d.since / 1440))), some (.int (Pc.yearOf ((u - 1) / 1440))), a6, a7, a8, a9, a10, a11] ∧ Same H H' ∧ ∃ ws, H' D = some (.lst ws) ∧ Paired (SpanAt H') ws (Pc.yearsOn d u (Pc.yearOf (d.since / 1440)) i))
        ⟨none, none, none, none, none, none, rfl, same_new nD, [], upd_same, .nil⟩ ?_ ?_
      · rintro i σ H1 hi ⟨a6, a7, a8, a9, a10, a11, rfl, s1, ws, hD, hW⟩
        refine ⟨_, rfl, _, rfl, _, _, _, rfl, hd.same s1, c', fun H2 A3 s2 n3 h3 => ?_⟩
        obtain ⟨us, h3, h4⟩ := h3
        have nAD : A3 ≠ D := fun e => by
          rw [e, hD] at n3
          cases n3
        have iw : (Pc.yearsOn d u (Pc.yearOf (d.since / 1440)) i).length ≤ 300 := by
          have := Pc.yearsOn_length d u (Pc.yearOf (d.since / 1440)) i
          omega
        refine ⟨A3, rfl, ⟨us, .of h3⟩, for_list (K := K) (a := A3) (xs := us) (fun j σ H' => ∃ a7 a8 a9 a10 a11, σ = [some v, some (.int u), some (.int d.since), some (.ref D), some (.int (Pc.yearOf (d.since / 1440))), some (.int (Pc.yearOf ((u - 1) / 1440))), some (.int ((Pc.yearOf (d.since / 1440)) + (i : Int))), a7, a8, a9, a10, a11] ∧ Same H H' ∧ H' A3 = some (.lst us) ∧ Paired (SpanAt H') us (Pc.yearSpans d ((Pc.yearOf (d.since / 1440)) + (i : Int))) ∧
            ∃ ws, H' D = some (.lst ws) ∧ Paired (SpanAt H') ws (Pc.yearsOn d u (Pc.yearOf (d.since / 1440)) i ++ Pc.clip d.since u ((Pc.yearSpans d ((Pc.yearOf (d.since / 1440)) + (i : Int))).take j)))
          ⟨a7, a8, a9, a10, a11, rfl, s1.trans s2, h3, h4, ws, s2 _ _ hD, ?_⟩ ?_ ?_ ?_⟩
        · show Paired (SpanAt H2) ws (Pc.yearsOn d u (Pc.yearOf (d.since / 1440)) i ++ [])
          rw [List.append_nil]
          exact pd_mono hW fun _ _ => SpanAt.same s2
        · rintro j σ H' _ ⟨_, _, _, _, _, rfl, _, k3, _⟩
          exact .of k3
        · rintro j x σ H3 hj ⟨a7, a8, a9, a10, a11, rfl, s3, k3, k4, ws3, kD, kW⟩
          obtain ⟨⟨lo, hi', ah⟩, hsp, ⟨r, rfl, hr3⟩⟩ := pd_get k4 hj
          refine ⟨_, _, rfl, .of hr3, rfl, _, _, rfl, _, _, rfl, _, _, rfl, rfl, ?_⟩
          refine ⟨_, rfl, _, rfl, _, _, rfl, _, rfl, _, rfl, _, _, rfl, ?_⟩
          rw [max_is, min_is]
          have small : ws3.length ≤ 303 := by
            rw [pd_len kW, List.length_append]
            have := Pc.clip_length d.since u ((Pc.yearSpans d ((Pc.yearOf (d.since / 1440)) + (i : Int))).take j)
            have h3 : ((Pc.yearSpans d ((Pc.yearOf (d.since / 1440)) + (i : Int))).take j).length ≤ 3 := by
              rw [List.length_take]
              exact Nat.min_le_right _ _
            omega
          refine ⟨_, rfl, _, rfl, _, _, rfl, rfl, _, rfl, if_2 (fun c2 => ?_) (fun c2 => ?_)⟩
          · refine ⟨_, rfl, .inl ⟨rfl, _, SqL.of kD⟩, _, rfl, _, rfl, _, rfl, line_le (m := 3) (by exact Nat.le_refl _) (by decide), fun T3 nT => ?_⟩
            have sT := same_new (o := .tup [.int (max lo d.since), .int (min hi' u), .int ah]) nT
            have kD' := sT _ _ kD
            refine ⟨D, ws3, _, rfl, rfl, kD', small_of small (by decide), _, _, _, _, _, rfl, same_on (s3.trans sT) nD, ?_, ?_, _, upd_same, ?_⟩
            · rw [upd_ne nAD]
              exact sT _ _ k3
            · exact pd_mono k4 fun _ _ h => SpanAt.on kD' (SpanAt.same sT h)
            · rw [clip_take hsp, if_pos (dec_t c2), ← List.append_assoc]
              exact pd_app (pd_mono kW fun _ _ h => SpanAt.on kD' (SpanAt.same sT h)) (pd_one (SpanAt.on kD' ⟨T3, rfl, upd_same⟩))
          · refine ⟨_, _, _, _, _, rfl, s3, k3, k4, ws3, kD, ?_⟩
            rw [clip_take hsp, if_neg (dec_f c2), List.append_nil]
            exact kW
        · rintro σ H3 ⟨a7, a8, a9, a10, a11, rfl, s3, k3, k4, ws3, kD, kW⟩
          rw [pd_len h4, List.take_length] at kW
          exact ⟨_, _, _, _, _, _, rfl, s3, ws3, kD, kW⟩
      · rintro σ H1 ⟨a6, a7, a8, a9, a10, a11, rfl, s1, ws, hD, hW⟩
        exact ⟨_, rfl, q H1 D s1 nD ⟨ws, hD, hW⟩⟩
end
end Pw
namespace Pw
open PySem PySem.Spec PyProof.Rows L2
/-- a place's decrees, as they come about -/
def LOk (l : List Pc.D) : Prop := ∃ p : Cl02.Place, Pc.POk p ∧ l = p.map Pc.dOf
theorem LOk.ne {l : List Pc.D} (h : LOk l) : l ≠ [] := by
  obtain ⟨p, h, rfl⟩ := h
  obtain ⟨e, r, rfl, _⟩ := h.first
  exact fun z => nomatch z
theorem LOk.len {l : List Pc.D} (h : LOk l) : l.length ≤ 8 := by
  obtain ⟨p, h, rfl⟩ := h
  rw [List.length_map]
  exact h.few
theorem LOk.spans {l : List Pc.D} (h : LOk l) : (Pc.placeSpans l).length ≤ 2400 := by
  obtain ⟨p, h, rfl⟩ := h
  exact Pc.placeSpans_length h
theorem LOk.on {l : List Pc.D} (h : LOk l) {i : Nat} (hi : i ≤ l.length) : (Pc.placesOn l i).length ≤ 2400 := by
  obtain ⟨p, h, rfl⟩ := h
  rw [List.length_map] at hi
  have := Pc.placesOn_length h i hi
  have := h.few
  omega
theorem LOk.part {l : List Pc.D} (h : LOk l) {i : Nat} {d : Pc.D} (hi : l[i]? = some d) : (0 ≤ d.since ∧ d.since < Pc.uptoOf l i ∧ Pc.uptoOf l i ≤ 52596000) ∧ (Pc.decreeSpans d (Pc.uptoOf l i)).length ≤ 300 := by
  obtain ⟨p, h, rfl⟩ := h
  rw [List.getElem?_map] at hi
  cases q : p[i]? with
  | none =>
    rw [q] at hi
    cases hi
  | some e =>
    rw [q] at hi
    obtain rfl := Option.some.inj hi
    have b := Pc.begin_lt h q
    rw [Pc.uptoOf_eq]
    have b0 : 0 ≤ (Pc.dOf e).since ∧ (Pc.dOf e).since < Pc.beginOf p (i + 1) ∧ Pc.beginOf p (i + 1) ≤ 52596000 := by
      rw [Pc.dOf_since]
      omega
    exact ⟨b0, Pc.decreeSpans_length b0.1 b0.2.1 b0.2.2⟩
theorem placesOn_next {l : List Pc.D} {i : Nat} {d : Pc.D} (hi : l[i]? = some d) : Pc.placesOn l (i + 1) = Pc.placesOn l i ++ Pc.decreeSpans d (Pc.uptoOf l i) := by
  show Pc.placesOn l i ++ (match l[i]? with
    | some d => Pc.decreeSpans d (Pc.uptoOf l i)
    | none => []) = _
  rw [hi]
section
variable {P : Program} {w : World} {K : PySem.W.Frag} {mg : Str → Option Value} {base : Heap} {C aL aP aR : Addr}
abbrev s_place_spans : Stmt := top 51
abbrev N_place_spans : List Str := ["decrees", "spans", "at", "decree", "upto"]
abbrev P_place_spans : List Str := ["decrees"]
theorem sc_place_spans : FnScope N_place_spans P_place_spans (defScope s_place_spans) := ⟨rfl, rfl, rfl, by decide +kernel, rfl, by decide +kernel, by decide +kernel⟩
def spSpans (K : PySem.W.Frag) : Sp := fun vs H Q _ => ∃ a l, vs = [.ref a] ∧ DecsAt K H a l ∧ LOk l ∧ newSp H Q (Pc.placeSpans l)
theorem ok_place_spans {f f1 f2 : Addr} (A : FnAt K mg "place_spans" s_place_spans P_place_spans f) (T : Txt K mg C aL aP aR)
    (f_since_of : FnP P w K mg base 1 "since_of" P_since_of (spD1 K fun d => .int d.since) f1)
    (f_decree_spans : FnP P w K mg base 8 "decree_spans" P_decree_spans (spDecree K) f2) : FnP P w K mg base 9 "place_spans" P_place_spans (spSpans K) f := by
  refine A.ok sc_place_spans (fun vs H Q E h => ?_) (fun cdv A outer s H vs Q E hr h => ?_)
  · obtain ⟨a, l, rfl, _⟩ := h
    rfl
  · obtain ⟨a, l, rfl, ⟨us, h1, h2⟩, ok, q⟩ := h
    have hL : SqL K H a us := .of h1
    have l8 := ok.len
    have eu := pd_len h2
    refine ⟨_, (pss_cons (ps_set (i := 1) sc_place_spans.nd rfl (Or.inl rfl) (pe_lst pa_nil))
      (pss_cons (ps_for PassesOwn.never rfl (pi_enum rfl T.b_enumerate (pa_cons (pv 0) pa_nil)) (pg_tup rfl (pgs_cons (pg_name (i := 2) sc_place_spans.nd rfl (Or.inl rfl)) (pgs_cons (pg_name (i := 3) sc_place_spans.nd rfl (Or.inl rfl)) pgs_nil)))
      (pss_cons (ps_set (i := 4) sc_place_spans.nd rfl (Or.inl rfl) (pe_gI rfl T.c_MOMENTS))
      (pss_cons (ps_if (pt_cmpR op_lt (pe_op op_add (pv 2) pe_int) (pe_callB call_len_seq rfl T.b_len PySem.boot_len (pa_cons (pv 0) pa_nil)) (nomark _))
      (pss_one (ps_set (i := 4) sc_place_spans.nd rfl (Or.inl rfl) (pe_callF f_since_of (hr.mono (by decide)) rfl (pa_cons (pe_ix ix_list (pv 0) (pe_op op_add (pv 2) pe_int) (fun _ _ => rfl)) pa_nil))))
      pss_nil)
      (pss_one (ps_expr (pe_bm PySem.F.plainAttrs_list PySem.F.slot_list_extend PySem.F.type_list_extend mt_extend (pv 1) (pa_cons (pe_callF f_decree_spans (hr.mono (by decide)) rfl (pa_cons (pv 3) (pa_cons (pv 4) pa_nil))) pa_nil)))))))
      (pss_one (ps_ret (pv 1))))), ?_⟩
    refine ⟨Nat.zero_le _, fun D nD => ?_⟩
    have s0 := same_new (o := .lst []) nD
    refine ⟨_, rfl, a, us, rfl, s0.seq hL, for_enum (K := K) (a := a) (xs := us) (fun i σ H' => ∃ a2 a3 a4, σ = [some (.ref a), some (.ref D), a2, a3, a4] ∧ Same H H' ∧ ∃ ws, H' D = some (.lst ws) ∧ Paired (SpanAt H') ws (Pc.placesOn l i))
      ⟨none, none, none, rfl, s0, [], upd_same, .nil⟩ ?_ ?_ ?_⟩
    · rintro i σ H' _ ⟨_, _, _, rfl, s, _⟩
      exact s.seq hL
    · rintro i x σ H' T' hi ⟨a2, a3, a4, rfl, s1, ws, hD, hW⟩ nT
      obtain ⟨d, hd, rd⟩ := pd_get h2 hi
      obtain ⟨hb, h300⟩ := ok.part hd
      have nx := placesOn_next hd
      have hil : i < l.length := (List.getElem?_eq_some_iff.mp hd).1
      have on := ok.on (i := i) (by omega)
      have sT := same_new (o := .tup [.int (i : Int), x]) nT
      have s2 := s1.trans sT
      have hD2 := sT _ _ hD
      have hW2 := pd_mono hW fun _ _ => SpanAt.same sT
      generalize hH : upd H' T' (.tup [.int (i : Int), x]) = H2 at *
      have hT2 : SqT K H2 T' [.int (i : Int), x] := .of (by rw [← hH]; exact upd_same)
      refine ⟨_, _, rfl, hT2, rfl, _, _, rfl, _, _, rfl, rfl, ?_⟩
      have wl : ws.length ≤ 2400 := by
        rw [pd_len hW2]
        exact on
      refine ⟨_, rfl, _, _, rfl, rfl, _, rfl, _, _, rfl, .inl (s2.seq hL), _, _, rfl, rfl, _, rfl, if_2 (fun c => ?_) (fun c => ?_)⟩
      · have lt : i + 1 < us.length := by
          have := dec_t c
          omega
        obtain ⟨e, he, re⟩ := pd_get h2 (List.getElem?_eq_getElem lt)
        have eu : Pc.uptoOf l i = e.since := by
          unfold Pc.uptoOf
          rw [he]
        rw [eu] at hb nx h300
        refine ⟨_, rfl, _, rfl, _, _, rfl, rfl, _, _, _, _, rfl, rfl, s2.seq hL, at_of (j := i + 1) (by omega) (List.getElem?_eq_getElem lt), _, _, rfl, re.same s2, ?_⟩
        refine ⟨_, rfl, .inl ⟨rfl, _, SqL.of hD2⟩, _, rfl, _, rfl, _, _, _, rfl, rd.same s2, hb, fun H3 p s3 np hp => ?_⟩
        obtain ⟨zs, hp, hz⟩ := hp
        have hD3 := s3 _ _ hD2
        refine ⟨D, p, _, _, rfl, rfl, hD3, hp, line_le (m := 2700) (by rw [pd_len hz]; omega) (by decide), _, _, _, rfl, same_on (s2.trans s3) nD, _, upd_same, ?_⟩
        rw [nx]
        exact pd_app (pd_mono hW2 fun _ _ h => SpanAt.on hD3 (SpanAt.same s3 h)) (pd_mono hz fun _ _ => SpanAt.on hD3)
      · have eu : Pc.uptoOf l i = 52596000 := by
          unfold Pc.uptoOf
          rw [List.getElem?_eq_none]
          have := dec_f c
          omega
        rw [eu] at hb nx h300
        refine ⟨_, rfl, .inl ⟨rfl, _, SqL.of hD2⟩, _, rfl, _, rfl, _, _, _, rfl, rd.same s2, hb, fun H3 p s3 np hp => ?_⟩
        obtain ⟨zs, hp, hz⟩ := hp
        have hD3 := s3 _ _ hD2
        refine ⟨D, p, _, _, rfl, rfl, hD3, hp, line_le (m := 2700) (by rw [pd_len hz]; omega) (by decide), _, _, _, rfl, same_on (s2.trans s3) nD, _, upd_same, ?_⟩
        rw [nx]
        exact pd_app (pd_mono hW2 fun _ _ h => SpanAt.on hD3 (SpanAt.same s3 h)) (pd_mono hz fun _ _ => SpanAt.on hD3)
    · rintro σ H' ⟨a2, a3, a4, rfl, s1, ws, hD, hW⟩
      rw [eu] at hW
      exact ⟨_, rfl, q H' D s1 nD ⟨ws, hD, hW⟩⟩
abbrev s_ahead_at : Stmt := top 53
abbrev N_ahead_at : List Str := ["decrees", "moment"]
abbrev P_ahead_at : List Str := ["decrees", "moment"]
theorem sc_ahead_at : FnScope N_ahead_at P_ahead_at (defScope s_ahead_at) := ⟨rfl, rfl, rfl, by decide +kernel, rfl, by decide +kernel, by decide +kernel⟩
def spAheadAt (K : PySem.W.Frag) : Sp := fun vs H Q _ => ∃ a l u, vs = [.ref a, .int u] ∧ DecsAt K H a l ∧ l ≠ [] ∧ Q (.int (Pc.aheadAt l u)) H
theorem ok_ahead_at {f f1 f2 : Addr} (A : FnAt K mg "ahead_at" s_ahead_at P_ahead_at f)
    (f_in_force : FnP P w K mg base 2 "in_force" P_in_force (spInForce K) f1)
    (f_ahead_by : FnP P w K mg base 6 "ahead_by" P_ahead_by (spAheadBy K) f2) : FnP P w K mg base 7 "ahead_at" P_ahead_at (spAheadAt K) f := by
  refine A.ok sc_ahead_at (fun vs H Q E h => ?_) (fun cdv A outer s H vs Q E hr h => ?_)
  · obtain ⟨a, l, u, rfl, _⟩ := h
    rfl
  · obtain ⟨a, l, u, rfl, hD, ne, q⟩ := h
    refine ⟨_, (pss_one (ps_ret (pe_callF f_ahead_by (hr.mono (by decide)) rfl (pa_cons (pe_callF f_in_force (hr.mono (by decide)) rfl (pa_cons (pv 0) (pa_cons (pv 1) pa_nil))) (pa_cons (pv 1) pa_nil))))), ?_⟩
    exact ⟨_, rfl, _, rfl, _, _, _, rfl, hD, ne, fun v hv => ⟨_, rfl, _, _, _, rfl, hv, q⟩⟩
abbrev s_shows_numbers : Stmt := top 54
abbrev N_shows_numbers : List Str := ["decrees", "moment", "shown"]
abbrev P_shows_numbers : List Str := ["decrees", "moment"]
theorem sc_shows_numbers : FnScope N_shows_numbers P_shows_numbers (defScope s_shows_numbers) := ⟨rfl, rfl, rfl, by decide +kernel, rfl, by decide +kernel, by decide +kernel⟩
def spShows (K : PySem.W.Frag) : Sp := fun vs H Q _ => ∃ a l u, vs = [.ref a, .int u] ∧ DecsAt K H a l ∧ l ≠ [] ∧ newL H Q (Pc.showsNumbers l u)
theorem date_len (z : Int) : (Pc.dateNumbers z).length ≤ 5 := by
  unfold Pc.dateNumbers
  split
  · exact Nat.le_refl _
  · exact Nat.zero_le _
theorem ok_shows_numbers {f f1 f2 : Addr} (A : FnAt K mg "shows_numbers" s_shows_numbers P_shows_numbers f)
    (f_ahead_at : FnP P w K mg base 7 "ahead_at" P_ahead_at (spAheadAt K) f1)
    (f_date_numbers : FnP P w K mg base 4 "date_numbers" P_date_numbers spDate f2) : FnP P w K mg base 8 "shows_numbers" P_shows_numbers (spShows K) f := by
  refine A.ok sc_shows_numbers (fun vs H Q E h => ?_) (fun cdv A outer s H vs Q E hr h => ?_)
  · obtain ⟨a, l, u, rfl, _⟩ := h
    rfl
  · obtain ⟨a, l, u, rfl, hD, ne, q⟩ := h
    unfold Pc.showsNumbers at q
    refine ⟨_, (pss_cons (ps_set (i := 2) sc_shows_numbers.nd rfl (Or.inl rfl) (pe_op op_add (pv 1) (pe_callF f_ahead_at (hr.mono (by decide)) rfl (pa_cons (pv 0) (pa_cons (pv 1) pa_nil)))))
      (pss_one (ps_ret (pe_op op_cat (pe_lst (pa_cons pe_int (pa_cons (pv 2) pa_nil))) (pe_callF f_date_numbers (hr.mono (by decide)) rfl (pa_cons (pv 2) pa_nil)))))), ?_⟩
    refine ⟨_, rfl, _, rfl, _, rfl, _, _, _, rfl, hD, ne, _, _, rfl, rfl, ?_⟩
    refine ⟨_, rfl, line_le (m := 2) (by exact Nat.le_refl _) (by decide), fun m nm => ⟨_, rfl, _, rfl, fun H2 p s2 np hp => ?_⟩⟩
    have s1 := same_new (o := .lst [.int 0, .int (u + Pc.aheadAt l u)]) nm
    refine ⟨m, p, _, _, rfl, rfl, s2 _ _ upd_same, hp, line_le (m := 7) (by unfold iV; rw [List.length_map]; have := date_len (u + Pc.aheadAt l u); show 2 + _ ≤ 7; omega) (by decide), fun r nr => ?_⟩
    have s3 := same_new (o := .lst ([.int 0, .int (u + Pc.aheadAt l u)] ++ iV (Pc.dateNumbers (u + Pc.aheadAt l u)))) nr
    exact q _ r ((s1.trans s2).trans s3) (s1.free (s2.free nr)) upd_same
abbrev s_moments_within : Stmt := top 55
abbrev N_moments_within : List Str := ["spans", "shown", "found", "start", "stop", "ahead", "moment"]
abbrev P_moments_within : List Str := ["spans", "shown"]
theorem sc_moments_within : FnScope N_moments_within P_moments_within (defScope s_moments_within) := ⟨rfl, rfl, rfl, by decide +kernel, rfl, by decide +kernel, by decide +kernel⟩
def spWithin : Sp := fun vs H Q _ => ∃ a l z, vs = [.ref a, .int z] ∧ SpansAt H a l ∧ l.length ≤ 2400 ∧ newL H Q (Pc.within l z)
theorem within_take {l : List Pc.Span} {i : Nat} {s : Pc.Span} (h : l[i]? = some s) (z : Int) : Pc.within (l.take (i + 1)) z = Pc.within (l.take i) z ++ (if s.1 ≤ z - s.2.2 ∧ z - s.2.2 < s.2.1 then [z - s.2.2] else []) := by
  unfold Pc.within
  rw [take_next h, List.filterMap_append]
  congr 1
  by_cases c : s.1 ≤ z - s.2.2 ∧ z - s.2.2 < s.2.1
  · rw [if_pos c]
    simp [c]
  · rw [if_neg c]
    simp only [List.filterMap_cons, List.filterMap_nil]
    rw [if_neg c]
theorem ok_moments_within {f : Addr} (A : FnAt K mg "moments_within" s_moments_within P_moments_within f) : FnP P w K mg base 1 "moments_within" P_moments_within spWithin f := by
  refine A.ok sc_moments_within (fun vs H Q E h => ?_) (fun cdv A outer s H vs Q E hr h => ?_)
  · obtain ⟨a, l, u, rfl, _⟩ := h
    rfl
  · obtain ⟨a, l, z, rfl, ⟨us, h1, h2⟩, l24, q⟩ := h
    have hL : SqL K H a us := .of h1
    refine ⟨_, (pss_cons (ps_set (i := 2) sc_moments_within.nd rfl (Or.inl rfl) (pe_lst pa_nil))
      (pss_cons (ps_for PassesOwn.never rfl (pi_list (pv 0)) (pg_tup rfl (pgs_cons (pg_name (i := 3) sc_moments_within.nd rfl (Or.inl rfl)) (pgs_cons (pg_name (i := 4) sc_moments_within.nd rfl (Or.inl rfl)) (pgs_cons (pg_name (i := 5) sc_moments_within.nd rfl (Or.inl rfl)) pgs_nil))))
      (pss_cons (ps_set (i := 6) sc_moments_within.nd rfl (Or.inl rfl) (pe_op op_sub (pv 1) (pv 5)))
      (pss_one (ps_if (PW.pt (pw_and (pt_cmpR op_le (pv 3) (pv 6) (nomark _)) (pw_and1 (pt_cmpR op_lt (pv 6) (pv 4) (nomark _)))))
      (pss_one (ps_expr (pe_bm PySem.F.plainAttrs_list PySem.F.slot_list_append PySem.F.type_list_append mt_append (pv 2) (pa_cons (pv 6) pa_nil))))
      pss_nil))))
      (pss_one (ps_ret (pv 2))))), ?_⟩
    refine ⟨Nat.zero_le _, fun D nD => ?_⟩
    have s0 := same_new (o := .lst []) nD
    refine ⟨_, rfl, a, rfl, ⟨_, s0.seq hL⟩, for_list (K := K) (a := a) (xs := us) (fun i σ H' => ∃ a3 a4 a5 a6, σ = [some (.ref a), some (.int z), some (.ref D), a3, a4, a5, a6] ∧ Same H H' ∧ H' D = some (.lst (iV (Pc.within (l.take i) z))))
      ⟨none, none, none, none, rfl, s0, upd_same⟩ ?_ ?_ ?_⟩
    · rintro i σ H' _ ⟨_, _, _, _, rfl, s, _⟩
      exact s.seq hL
    · rintro i x σ H' hi ⟨a3, a4, a5, a6, rfl, s, hD⟩
      obtain ⟨⟨lo, hi', ah⟩, hsp, ⟨r, rfl, hr3⟩⟩ := pd_get h2 hi
      have small : (iV (Pc.within (l.take i) z)).length ≤ 2400 := by
        unfold iV
        rw [List.length_map]
        have := Pc.within_length (l.take i) z
        rw [List.length_take] at this
        omega
      refine ⟨_, _, rfl, .of (s _ _ hr3), rfl, _, _, rfl, _, _, rfl, _, _, rfl, rfl, ?_⟩
      refine ⟨_, rfl, _, rfl, _, _, rfl, rfl, _, rfl, _, rfl, _, _, rfl, rfl, _, rfl, if_2 (fun c => ⟨_, rfl, _, rfl, _, _, rfl, rfl, _, rfl, if_2 (fun c2 => ?_) (fun c2 => ?_)⟩) (fun c => if_f rfl ?_)⟩
      · refine ⟨_, rfl, .inl ⟨rfl, _, SqL.of hD⟩, _, rfl, D, _, _, rfl, rfl, hD, small_of small (by decide), _, _, _, _, rfl, same_on s nD, ?_⟩
        rw [within_take hsp, if_pos ⟨dec_t c, dec_t c2⟩]
        unfold iV
        rw [List.map_append]
        exact upd_same
      · refine ⟨_, _, _, _, rfl, s, ?_⟩
        rw [within_take hsp, if_neg fun y => dec_f c2 y.2, List.append_nil]
        exact hD
      · refine ⟨_, _, _, _, rfl, s, ?_⟩
        rw [within_take hsp, if_neg fun y => dec_f c y.1, List.append_nil]
        exact hD
    · rintro σ H' ⟨a3, a4, a5, a6, rfl, s, hD⟩
      rw [pd_len h2, List.take_length] at hD
      exact ⟨_, rfl, q H' D s nD hD⟩
abbrev s_first_beyond : Stmt := top 56
abbrev N_first_beyond : List Str := ["spans", "shown", "start", "stop", "ahead", "moment"]
abbrev P_first_beyond : List Str := ["spans", "shown"]
theorem sc_first_beyond : FnScope N_first_beyond P_first_beyond (defScope s_first_beyond) := ⟨rfl, rfl, rfl, by decide +kernel, rfl, by decide +kernel, by decide +kernel⟩
def spBeyond : Sp := fun vs H Q _ => ∃ a l z, vs = [.ref a, .int z] ∧ SpansAt H a l ∧ newL H Q (Pc.beyond l z).toList
theorem ok_first_beyond {f : Addr} (A : FnAt K mg "first_beyond" s_first_beyond P_first_beyond f) (T : Txt K mg C aL aP aR) : FnP P w K mg base 1 "first_beyond" P_first_beyond spBeyond f := by
  refine A.ok sc_first_beyond (fun vs H Q E h => ?_) (fun cdv A outer s H vs Q E hr h => ?_)
  · obtain ⟨a, l, u, rfl, _⟩ := h
    rfl
  · obtain ⟨a, l, z, rfl, ⟨us, h1, h2⟩, q⟩ := h
    have hL : SqL K H a us := .of h1
    refine ⟨_, (pss_cons (ps_for PassesOwn.never rfl (pi_list (pv 0)) (pg_tup rfl (pgs_cons (pg_name (i := 2) sc_first_beyond.nd rfl (Or.inl rfl)) (pgs_cons (pg_name (i := 3) sc_first_beyond.nd rfl (Or.inl rfl)) (pgs_cons (pg_name (i := 4) sc_first_beyond.nd rfl (Or.inl rfl)) pgs_nil))))
      (pss_cons (ps_set (i := 5) sc_first_beyond.nd rfl (Or.inl rfl) (pe_callB (call_max2 rfl) rfl T.b_max (by decide +kernel) (pa_cons (pv 2) (pa_cons (pe_op op_add (pe_op op_sub (pv 1) (pv 4)) pe_int) pa_nil))))
      (pss_one (ps_if (pt_cmpR op_lt (pv 5) (pv 3) (nomark _))
      (pss_one (ps_ret (pe_lst (pa_cons (pv 5) pa_nil))))
      pss_nil))))
      (pss_one (ps_ret (pe_lst pa_nil)))), ?_⟩
    refine ⟨_, rfl, a, rfl, ⟨_, hL⟩, for_list (K := K) (a := a) (xs := us) (fun i σ H' => ∃ a2 a3 a4 a5, σ = [some (.ref a), some (.int z), a2, a3, a4, a5] ∧ H' = H ∧ Pc.beyond (l.take i) z = none)
      ⟨none, none, none, none, rfl, rfl, rfl⟩ ?_ ?_ ?_⟩
    · rintro i σ H' _ ⟨_, _, _, _, rfl, rfl, _⟩
      exact hL
    · rintro i x σ H' hi ⟨a2, a3, a4, a5, rfl, rfl, hn⟩
      obtain ⟨⟨lo, hi', ah⟩, hsp, ⟨r, rfl, hr3⟩⟩ := pd_get h2 hi
      refine ⟨_, _, rfl, .of hr3, rfl, _, _, rfl, _, _, rfl, _, _, rfl, rfl, ?_⟩
      refine ⟨_, rfl, _, rfl, _, rfl, _, _, rfl, rfl, _, _, rfl, rfl, _, _, rfl, ?_⟩
      rw [max_is]
      refine ⟨_, rfl, _, rfl, _, _, rfl, rfl, _, rfl, if_2 (fun c => ?_) (fun c => ?_)⟩
      · have e : Pc.beyond l z = some (max lo (z - ah + 1)) := by
          have hs := Pc.split_at hsp
          unfold Pc.beyond at hn ⊢
          rw [hs, List.findSome?_append, hn, List.findSome?_cons, if_pos (dec_t c)]
          rfl
        rw [e] at q
        exact ⟨_, rfl, line_le (m := 1) (by exact Nat.le_refl _) (by decide), fun p np => q _ p (same_new np) np upd_same⟩
      · refine ⟨_, _, _, _, rfl, rfl, ?_⟩
        unfold Pc.beyond at hn ⊢
        rw [take_next hsp, List.findSome?_append, hn, List.findSome?_cons, if_neg (dec_f c)]
        rfl
    · rintro σ H' ⟨a2, a3, a4, a5, rfl, rfl, hn⟩
      rw [pd_len h2, List.take_length] at hn
      rw [hn] at q
      exact ⟨Nat.zero_le _, fun p np => q _ p (same_new np) np upd_same⟩
abbrev s_moments_showing : Stmt := top 57
abbrev N_moments_showing : List Str := ["decrees", "shown"]
abbrev P_moments_showing : List Str := ["decrees", "shown"]
theorem sc_moments_showing : FnScope N_moments_showing P_moments_showing (defScope s_moments_showing) := ⟨rfl, rfl, rfl, by decide +kernel, rfl, by decide +kernel, by decide +kernel⟩
def spShowing (K : PySem.W.Frag) : Sp := fun vs H Q _ => ∃ a l z, vs = [.ref a, .int z] ∧ DecsAt K H a l ∧ LOk l ∧ newL H Q (Pc.within (Pc.placeSpans l) z)
theorem newL.from {H H1 : Hp} {Q : VK} {l : List Int} (q : newL H Q l) (s : Same H H1) : newL H1 Q l := fun H' p s' n h => q H' p (s.trans s') (s.free n) h
theorem ok_moments_showing {f f1 f2 : Addr} (A : FnAt K mg "moments_showing" s_moments_showing P_moments_showing f)
    (f_place_spans : FnP P w K mg base 9 "place_spans" P_place_spans (spSpans K) f1)
    (f_moments_within : FnP P w K mg base 1 "moments_within" P_moments_within spWithin f2) : FnP P w K mg base 10 "moments_showing" P_moments_showing (spShowing K) f := by
  refine A.ok sc_moments_showing (fun vs H Q E h => ?_) (fun cdv A outer s H vs Q E hr h => ?_)
  · obtain ⟨a, l, u, rfl, _⟩ := h
    rfl
  · obtain ⟨a, l, z, rfl, hD, ok, q⟩ := h
    refine ⟨_, (pss_one (ps_ret (pe_callF f_moments_within (hr.mono (by decide)) rfl (pa_cons (pe_callF f_place_spans (hr.mono (by decide)) rfl (pa_cons (pv 0) pa_nil)) (pa_cons (pv 1) pa_nil))))), ?_⟩
    exact ⟨_, rfl, _, _, rfl, hD, ok, fun H1 p s1 np hp => ⟨_, rfl, _, _, _, rfl, hp, ok.spans, q.from s1⟩⟩
abbrev s_meant_numbers : Stmt := top 58
abbrev N_meant_numbers : List Str := ["decrees", "shown", "spans", "just", "beyond"]
abbrev P_meant_numbers : List Str := ["decrees", "shown"]
theorem sc_meant_numbers : FnScope N_meant_numbers P_meant_numbers (defScope s_meant_numbers) := ⟨rfl, rfl, rfl, by decide +kernel, rfl, by decide +kernel, by decide +kernel⟩
def spMeant (K : PySem.W.Frag) : Sp := fun vs H Q _ => ∃ a l z, vs = [.ref a, .int z] ∧ DecsAt K H a l ∧ LOk l ∧ newL H Q (Pc.meantNumbers l z)
theorem ok_meant_numbers {f f1 f2 f3 : Addr} (A : FnAt K mg "meant_numbers" s_meant_numbers P_meant_numbers f) (T : Txt K mg C aL aP aR)
    (f_place_spans : FnP P w K mg base 9 "place_spans" P_place_spans (spSpans K) f1)
    (f_moments_within : FnP P w K mg base 1 "moments_within" P_moments_within spWithin f2)
    (f_first_beyond : FnP P w K mg base 1 "first_beyond" P_first_beyond spBeyond f3) : FnP P w K mg base 10 "meant_numbers" P_meant_numbers (spMeant K) f := by
  refine A.ok sc_meant_numbers (fun vs H Q E h => ?_) (fun cdv A outer s H vs Q E hr h => ?_)
  · obtain ⟨a, l, u, rfl, _⟩ := h
    rfl
  · obtain ⟨a, l, z, rfl, hD, ok, q⟩ := h
    unfold Pc.meantNumbers at q
    refine ⟨_, (pss_cons (ps_set (i := 2) sc_meant_numbers.nd rfl (Or.inl rfl) (pe_callF f_place_spans (hr.mono (by decide)) rfl (pa_cons (pv 0) pa_nil)))
      (pss_cons (ps_set (i := 3) sc_meant_numbers.nd rfl (Or.inl rfl) (pe_callF f_moments_within (hr.mono (by decide)) rfl (pa_cons (pv 2) (pa_cons (pv 1) pa_nil))))
      (pss_cons (ps_if (pt_cmpR op_gt (pe_callB call_len_seq rfl T.b_len PySem.boot_len (pa_cons (pv 3) pa_nil)) pe_int (nomark _))
      (pss_one (ps_ret (pe_lst (pa_cons (pe_ix ix_list (pv 3) pe_int (fun _ _ => rfl)) (pa_cons pe_int pa_nil)))))
      pss_nil)
      (pss_cons (ps_set (i := 4) sc_meant_numbers.nd rfl (Or.inl rfl) (pe_callF f_first_beyond (hr.mono (by decide)) rfl (pa_cons (pv 2) (pa_cons (pv 1) pa_nil))))
      (pss_cons (ps_if (pt_cmpR op_gt (pe_callB call_len_seq rfl T.b_len PySem.boot_len (pa_cons (pv 4) pa_nil)) pe_int (nomark _))
      (pss_one (ps_ret (pe_lst (pa_cons (pe_ix ix_list (pv 4) pe_int (fun _ _ => rfl)) (pa_cons pe_int pa_nil)))))
      pss_nil)
      (pss_one (ps_ret (pe_lst (pa_cons (pe_un un_neg pe_int) pa_nil))))))))), ?_⟩
    refine ⟨_, rfl, _, _, rfl, hD, ok, fun H1 p1 s1 n1 hp => ⟨_, rfl, _, rfl, _, _, _, rfl, hp, ok.spans, fun H2 p2 s2 n2 h2 => ?_⟩⟩
    refine ⟨_, rfl, _, _, rfl, .inl (.of h2), _, _, rfl, rfl, _, rfl, if_2 (fun c => ?_) (fun c => ?_)⟩
    · have c' := dec_t c
      cases e : Pc.within (Pc.placeSpans l) z with
      | nil =>
        rw [e] at c'
        exact absurd c' (Int.lt_irrefl 0)
      | cons m r =>
        rw [e] at q h2
        exact ⟨_, rfl, _, _, _, _, rfl, rfl, .of h2, atI_nat (j := 0) rfl, line_le (m := 2) (by exact Nat.le_refl _) (by decide), fun p np => q _ p ((s1.trans s2).trans (same_new np)) (s1.free (s2.free np)) upd_same⟩
    · have c' := dec_f c
      cases e : Pc.within (Pc.placeSpans l) z with
      | cons m r =>
        rw [e] at c'
        refine absurd ?_ c'
        show (0 : Int) < ((r.map V.int).length + 1 : Nat)
        omega
      | nil =>
        rw [e] at q
        dsimp only at q
        refine ⟨_, rfl, _, rfl, _, _, _, rfl, hp.same s2, fun H3 p3 s3 n3 h3 => ?_⟩
        refine ⟨_, rfl, _, _, rfl, .inl (.of h3), _, _, rfl, rfl, _, rfl, ?_⟩
        cases b : Pc.beyond (Pc.placeSpans l) z with
        | none =>
          rw [b] at q
          exact ⟨_, rfl, line_le (m := 1) (by exact Nat.le_refl _) (by decide), fun p np => q _ p (((s1.trans s2).trans s3).trans (same_new np)) (s1.free (s2.free (s3.free np))) upd_same⟩
        | some m =>
          rw [b] at q h3
          exact ⟨_, rfl, _, _, _, _, rfl, rfl, .of h3, atI_nat (j := 0) rfl, line_le (m := 2) (by exact Nat.le_refl _) (by decide), fun p np => q _ p (((s1.trans s2).trans s3).trans (same_new np)) (s1.free (s2.free (s3.free np))) upd_same⟩
abbrev s_change_numbers : Stmt := top 59
abbrev N_change_numbers : List Str := ["decrees", "moment", "spans", "at", "start", "stop", "ahead", "before"]
abbrev P_change_numbers : List Str := ["decrees", "moment"]
theorem sc_change_numbers : FnScope N_change_numbers P_change_numbers (defScope s_change_numbers) := ⟨rfl, rfl, rfl, by decide +kernel, rfl, by decide +kernel, by decide +kernel⟩
def spChange (K : PySem.W.Frag) : Sp := fun vs H Q _ => ∃ a l u, vs = [.ref a, .int u] ∧ DecsAt K H a l ∧ LOk l ∧ newL H Q (Pc.changeNumbers l u)
/-- what the loop has yet to say -/
def restOf (u : Int) (L : List Pc.Span) (i : Nat) : Option (List Int) := match L[i]? with
  | some s => Pc.changeIn u s (L.drop (i + 1))
  | none => none
theorem restOf_step {u : Int} {L : List Pc.Span} {i : Nat} {p s : Pc.Span} (hp : L[i]? = some p) (hs : L[i + 1]? = some s) : restOf u L i = if s.1 > u ∧ s.2.2 ≠ p.2.2 then some [s.1, p.2.2, s.2.2] else restOf u L (i + 1) := by
  unfold restOf
  rw [hp, hs]
  obtain ⟨hl, e⟩ := List.getElem?_eq_some_iff.mp hs
  have k := List.drop_eq_getElem_cons hl
  rw [e] at k
  dsimp only
  rw [k]
  rfl
theorem restOf_end {u : Int} {L : List Pc.Span} {i : Nat} (h : L.length ≤ i + 1) : restOf u L i = none := by
  unfold restOf
  cases e : L[i]? with
  | none => rfl
  | some s =>
    dsimp only
    rw [List.drop_eq_nil_of_le h]
    rfl
theorem change_rest (l : List Pc.D) (u : Int) : Pc.changeNumbers l u = (restOf u (Pc.placeSpans l) 0).getD [-6] := by
  unfold Pc.changeNumbers restOf
  cases Pc.placeSpans l with
  | nil => rfl
  | cons s r =>
    show (match Pc.changeIn u s r with
      | some x => x
      | none => [-6]) = (Pc.changeIn u s r).getD [-6]
    cases Pc.changeIn u s r <;> rfl
theorem ok_change_numbers {f f1 : Addr} (A : FnAt K mg "change_numbers" s_change_numbers P_change_numbers f) (T : Txt K mg C aL aP aR)
    (f_place_spans : FnP P w K mg base 9 "place_spans" P_place_spans (spSpans K) f1) : FnP P w K mg base 10 "change_numbers" P_change_numbers (spChange K) f := by
  refine A.ok sc_change_numbers (fun vs H Q E h => ?_) (fun cdv A outer s H vs Q E hr h => ?_)
  · obtain ⟨a, l, u, rfl, _⟩ := h
    rfl
  · obtain ⟨a, l, u, rfl, hD, ok, q⟩ := h
    rw [change_rest] at q
    refine ⟨_, (pss_cons (ps_set (i := 2) sc_change_numbers.nd rfl (Or.inl rfl) (pe_callF f_place_spans (hr.mono (by decide)) rfl (pa_cons (pv 0) pa_nil)))
      (pss_cons (ps_for PassesOwn.never rfl (pi_range2 rfl T.b_range (pa_cons pe_int (pa_cons (pe_callB call_len_seq rfl T.b_len PySem.boot_len (pa_cons (pv 2) pa_nil)) pa_nil))) (pg_name (i := 3) sc_change_numbers.nd rfl (Or.inl rfl))
      (pss_cons (ps_asg (pe_ix ix_list (pv 2) (pv 3) (fun _ _ => rfl)) (pg_tup rfl (pgs_cons (pg_name (i := 4) sc_change_numbers.nd rfl (Or.inl rfl)) (pgs_cons (pg_name (i := 5) sc_change_numbers.nd rfl (Or.inl rfl)) (pgs_cons (pg_name (i := 6) sc_change_numbers.nd rfl (Or.inl rfl)) pgs_nil)))))
      (pss_cons (ps_set (i := 7) sc_change_numbers.nd rfl (Or.inl rfl) (pe_ix ix_tup (pe_ix ix_list (pv 2) (pe_op op_sub (pv 3) pe_int) (fun _ _ => rfl)) pe_int (fun _ _ => rfl)))
      (pss_one (ps_if (PW.pt (pw_and (pt_cmpR op_gt (pv 4) (pv 1) (nomark _)) (pw_and1 (pt_cmpR op_ne (pv 6) (pv 7) (nomark _)))))
      (pss_one (ps_ret (pe_lst (pa_cons (pv 4) (pa_cons (pv 7) (pa_cons (pv 6) pa_nil))))))
      pss_nil)))))
      (pss_one (ps_ret (pe_lst (pa_cons (pe_un un_neg pe_int) pa_nil)))))), ?_⟩
    refine ⟨_, rfl, _, _, rfl, hD, ok, fun H1 p1 s1 n1 hp => ?_⟩
    obtain ⟨us, h1, h2⟩ := hp
    have l24 := ok.spans
    have el := pd_len h2
    generalize Pc.placeSpans l = L at *
    have hL : SqL K H1 p1 us := .of h1
    refine ⟨_, rfl, _, _, rfl, .inl hL, _, _, rfl, ⟨by decide, by decide, by omega, by omega⟩, ?_⟩
    refine for_range (fun i σ H' => ∃ a3 a4 a5 a6 a7, σ = [some (.ref a), some (.int u), some (.ref p1), a3, a4, a5, a6, a7] ∧ H' = H1 ∧ restOf u L 0 = restOf u L i)
      ⟨none, none, none, none, none, rfl, rfl, rfl⟩ ?_ ?_
    · rintro i σ H' hi ⟨a3, a4, a5, a6, a7, rfl, rfl, hn⟩
      have lt : i + 1 < us.length := by omega
      obtain ⟨s, hs, ⟨r, er, hrs⟩⟩ := pd_get h2 (List.getElem?_eq_getElem lt)
      obtain ⟨p, hp, ⟨r', er', hrp⟩⟩ := pd_get h2 (List.getElem?_eq_getElem (show i < us.length by omega))
      rw [restOf_step hp hs] at hn
      have g1 : us[i + 1]? = some (.ref r) := by
        rw [List.getElem?_eq_getElem lt, er]
      have g0 : us[i]? = some (.ref r') := by
        rw [List.getElem?_eq_getElem (show i < us.length by omega), er']
      refine ⟨_, rfl, _, rfl, _, _, _, _, rfl, rfl, hL, at_of (j := i + 1) (by omega) g1, ?_⟩
      refine ⟨_, _, rfl, .of hrs, rfl, _, _, rfl, _, _, rfl, _, _, rfl, rfl, ?_⟩
      refine ⟨_, rfl, _, rfl, _, _, rfl, rfl, _, _, _, _, rfl, rfl, hL, at_of (j := i) (by omega) g0, _, _, _, _, rfl, rfl, .of hrp, rfl, ?_⟩
      refine ⟨_, rfl, _, rfl, _, _, rfl, rfl, _, rfl, if_2 (fun c => ⟨_, rfl, _, rfl, rfl, _, rfl, if_2 (fun c2 => ?_) (fun c2 => ?_)⟩) (fun c => if_f rfl ?_)⟩
      · rw [if_pos ⟨dec_t c, nint c2⟩] at hn
        rw [hn] at q
        exact ⟨_, rfl, _, rfl, _, rfl, line_le (m := 3) (by exact Nat.le_refl _) (by decide), fun p np => q _ p (s1.trans (same_new np)) (s1.free np) upd_same⟩
      · rw [if_neg fun y => y.2 (yint c2)] at hn
        exact ⟨_, _, _, _, _, rfl, rfl, hn⟩
      · rw [if_neg fun y => dec_f c y.1] at hn
        exact ⟨_, _, _, _, _, rfl, rfl, hn⟩
    · rintro σ H' ⟨a3, a4, a5, a6, a7, rfl, rfl, hn⟩
      rw [hn, restOf_end (by omega)] at q
      exact ⟨_, rfl, line_le (m := 1) (by exact Nat.le_refl _) (by decide), fun p np => q _ p (s1.trans (same_new np)) (s1.free np) upd_same⟩
end
end Pw
namespace Pw
open PySem PySem.Spec PyProof.Rows L2
/-! ### the house in the heap -/
def hF (lp lk : Addr) : List (Str × V) := [("places", .ref lp), ("kept", .ref lk)]
theorem look_hit {k : Str} {v : V} {r : List (Str × V)} : List.lookup k ((k, v) :: r) = some v := by
  simp only [List.lookup, beq_self_eq_true k]
theorem look_miss {k g : Str} {v : V} {r : List (Str × V)} (h : (k == g) = false) : List.lookup k ((g, v) :: r) = List.lookup k r := by
  simp only [List.lookup, h]
theorem hF_places (lp lk : Addr) : (hF lp lk).lookup ("places" : Str) = some (.ref lp) := look_hit
theorem hF_kept (lp lk : Addr) : (hF lp lk).lookup ("kept" : Str) = some (.ref lk) := (look_miss (by decide +kernel)).trans look_hit
theorem hF_no {m : Str} (lp lk : Addr) (h1 : (m == ("places" : Str)) = false) (h2 : (m == ("kept" : Str)) = false) : (hF lp lk).lookup m = none := (look_miss h1).trans ((look_miss h2).trans rfl)
theorem hF_new (lp lk : Addr) : putF "kept" (.ref lk) (putF "places" (.ref lp) []) = hF lp lk := by
  show (if ("places" : Str) = "kept" then _ else (("places" : Str), V.ref lp) :: putF "kept" (V.ref lk) []) = _
  rw [if_neg (by decide +kernel)]
  rfl
def PlaceAt (K : PySem.W.Frag) (H : Hp) (lp lk : Addr) (v : V) (l : List Pc.D) : Prop := ∃ a, v = .ref a ∧ a ≠ lp ∧ a ≠ lk ∧ DecsAt K H a l
def KeptAt (K : PySem.W.Frag) (H : Hp) (v : V) (k : Int × Int) : Prop := ∃ r, v = .ref r ∧ SqT K H r [.int k.1, .int k.2]
structure HouseIs (K : PySem.W.Frag) (C : Addr) (H : Hp) (h lp lk dx : Addr) (xs ys : List V) (s : Pc.S) : Prop where
  at_ : H h = some (.ins C dx (hF lp lk))
  hp : H lp = some (.lst xs)
  hk : H lk = some (.lst ys)
  ne : lp ≠ lk
  ps : Paired (PlaceAt K H lp lk) xs s.places
  ks : Paired (KeptAt K H) ys s.kept
def HouseAt (K : PySem.W.Frag) (C : Addr) (H : Hp) (h lp lk : Addr) (s : Pc.S) : Prop := ∃ dx xs ys, HouseIs K C H h lp lk dx xs ys s
section
variable {K : PySem.W.Frag} {C : Addr} {H H' : Hp} {h lp lk dx : Addr} {xs ys : List V} {s : Pc.S} {Q : VK}
theorem DecsAt.keep (k : Keep lp lk H H') {us ws : List V} (hp : H lp = some (.lst us)) (hq : H lk = some (.lst ws)) {a : Addr} {l : List Pc.D} (n1 : a ≠ lp) (n2 : a ≠ lk) (d : DecsAt K H a l) : DecsAt K H' a l := by
  obtain ⟨vs, h1, h2⟩ := d
  exact ⟨vs, k _ _ h1 n1 n2, pd_mono h2 fun _ _ => DecAt.keep k hp hq⟩
theorem PlaceAt.keep (k : Keep lp lk H H') {us ws : List V} (hp : H lp = some (.lst us)) (hq : H lk = some (.lst ws)) {v : V} {l : List Pc.D} (d : PlaceAt K H lp lk v l) : PlaceAt K H' lp lk v l := by
  obtain ⟨a, rfl, n1, n2, d⟩ := d
  exact ⟨a, rfl, n1, n2, DecsAt.keep k hp hq n1 n2 d⟩
theorem KeptAt.keep (k : Keep lp lk H H') {us ws : List V} (hp : H lp = some (.lst us)) (hq : H lk = some (.lst ws)) {v : V} {l : Int × Int} (d : KeptAt K H v l) : KeptAt K H' v l := by
  obtain ⟨r, rfl, d⟩ := d
  exact ⟨r, rfl, k.tup d hp hq⟩
theorem HouseAt.same (e : Same H H') (d : HouseAt K C H h lp lk s) : HouseAt K C H' h lp lk s := by
  obtain ⟨dx, xs, ys, a, b, c, n, p, q⟩ := d
  exact ⟨dx, xs, ys, e _ _ a, e _ _ b, e _ _ c, n, pd_mono p fun _ _ => PlaceAt.keep (.of e) b c, pd_mono q fun _ _ => KeptAt.keep (.of e) b c⟩
/-- what a call is to leave: a new list, the house as told -/
def Ends (K : PySem.W.Frag) (C : Addr) (H : Hp) (Q : VK) (h lp lk : Addr) (r : Pc.S × List Int) : Prop :=
  ∀ (H' : Hp) (p : Addr), Keep lp lk H H' → H p = none → HouseAt K C H' h lp lk r.1 → H' p = some (.lst (iV r.2)) → Q (.ref p) H'
theorem Ends.now {l : List Int} {p : Addr} (q : Ends K C H Q h lp lk (s, l)) (d : HouseAt K C H h lp lk s) (n : H p = none) : Q (.ref p) (upd H p (.lst (iV l))) :=
  q _ p (.of (same_new n)) n (d.same (same_new n)) upd_same
theorem Ends.newL {l : List Int} (q : Ends K C H Q h lp lk (s, l)) (d : HouseAt K C H h lp lk s) : newL H Q l := fun H' p e n x => q H' p (.of e) n (d.same e) x
theorem Ends.from {H1 : Hp} {r : Pc.S × List Int} (q : Ends K C H Q h lp lk r) (e : Same H H1) : Ends K C H1 Q h lp lk r := fun H' p k n d x => q H' p ((Keep.of e).trans k) (e.free n) d x
/-- a place's decrees -/
theorem at_place (d : HouseIs K C H h lp lk dx xs ys s) {p : Int} (hp : s.hasPlace p = true) : ∃ a, atI xs p = some (.ref a) ∧ ixN xs.length p = some p.toNat ∧ PlaceAt K H lp lk (.ref a) (s.decrees p) := by
  unfold Pc.S.hasPlace at hp
  rw [Bool.and_eq_true, decide_eq_true_iff, decide_eq_true_iff] at hp
  have el := pd_len d.ps
  have lt : p.toNat < s.places.length := by omega
  obtain ⟨v, hv, rv⟩ := pd_got d.ps (List.getElem?_eq_getElem lt)
  obtain ⟨a, rfl, r⟩ := rv
  refine ⟨a, at_of (j := p.toNat) (by omega) hv, ?_, a, rfl, ?_⟩
  · unfold ixN
    rw [if_pos hp.1, if_pos (by omega)]
  · unfold Pc.S.decrees
    rw [List.getD_eq_getElem?_getD, List.getElem?_eq_getElem lt]
    exact r
end
theorem place_ok {st : Cl02.State} (I : Pc.IOk st) {p : Int} (hp : (Pc.sOf st).hasPlace p = true) : LOk ((Pc.sOf st).decrees p) := by
  have h0 : 0 ≤ p := by
    unfold Pc.S.hasPlace at hp
    rw [Bool.and_eq_true, decide_eq_true_iff] at hp
    exact hp.1
  rcases Pc.places_get st p h0 with ⟨h1, _⟩ | ⟨x, _, h2, h3⟩
  · rw [hp] at h1
    cases h1
  · exact ⟨x, I.at h2, h3⟩
section
variable {P : Program} {w : World} {K : PySem.W.Frag} {mg : Str → Option Value} {base : Heap} {C aL aP aR : Addr}
abbrev s_House___init__ : Stmt := inClass (top 79) 0
abbrev N_House___init__ : List Str := ["self"]
abbrev P_House___init__ : List Str := ["self"]
theorem sc_House___init__ : FnScope N_House___init__ P_House___init__ (defScope s_House___init__) := ⟨rfl, rfl, rfl, by decide +kernel, rfl, by decide +kernel, by decide +kernel⟩
def spInit (K : PySem.W.Frag) (C : Addr) : Sp := fun vs H Q _ => ∃ p dx, vs = [.ref p] ∧ H p = some (.ins C dx []) ∧ ∀ H' lp lk, (∀ b o, H b = some o → b ≠ p → H' b = some o) → H lp = none → H lk = none → HouseAt K C H' p lp lk Pc.S.init → Q .non H'
theorem ok_init {f : Addr} (A : MtAt K C "__init__" "House.__init__" s_House___init__ P_House___init__ f) (T : Txt K mg C aL aP aR) : MtP P w K mg base C 1 "__init__" P_House___init__ (spInit K C) f := by
  refine A.ok sc_House___init__ (fun vs H Q E h => ?_) (fun cdv A outer s H vs Q E hr h => ?_)
  · obtain ⟨p, dx, rfl, _⟩ := h
    rfl
  · obtain ⟨p, dx, rfl, hp, q⟩ := h
    refine ⟨_, (pss_cons (ps_fld (pv 0) (pe_lst pa_nil) rfl)
      (pss_one (ps_fld (pv 0) (pe_lst pa_nil) rfl))), ?_⟩
    refine ⟨Nat.zero_le _, fun lp n1 => ?_⟩
    have npl : p ≠ lp := ne_of_none hp n1
    refine ⟨_, rfl, p, C, dx, [], rfl, (by rw [upd_ne npl]; exact hp), T.cl, T.nP, (by show 0 < 1000; decide), ?_⟩
    refine ⟨Nat.zero_le _, fun lk n2 => ?_⟩
    have npk : p ≠ lk := fun e => by
      rw [← e, upd_same] at n2
      cases n2
    have nlk : lp ≠ lk := fun e => by
      rw [← e, upd_ne npl.symm, upd_same] at n2
      cases n2
    have n2' : H lk = none := by
      rw [upd_ne npk.symm, upd_ne nlk.symm] at n2
      exact n2
    refine ⟨_, rfl, p, C, dx, _, rfl, (by rw [upd_ne npk]; exact upd_same), T.cl, T.nK, (by show 1 < 1000; decide), ?_⟩
    refine q _ lp lk (fun b o e n => ?_) n1 n2' ⟨dx, [], [], ?_, ?_, ?_, nlk, .nil, .nil⟩
    · rw [upd_ne n, upd_ne (ne_of_none e n2'), upd_ne n, upd_ne (ne_of_none e n1)]
      exact e
    · rw [upd_same, hF_new]
    · rw [upd_ne npl.symm, upd_ne nlk, upd_ne npl.symm, upd_same]
    · rw [upd_ne npk.symm, upd_same]
abbrev s_House_has_place : Stmt := inClass (top 79) 1
abbrev N_House_has_place : List Str := ["self", "place"]
abbrev P_House_has_place : List Str := ["self", "place"]
theorem sc_House_has_place : FnScope N_House_has_place P_House_has_place (defScope s_House_has_place) := ⟨rfl, rfl, rfl, by decide +kernel, rfl, by decide +kernel, by decide +kernel⟩
def spHasPlace (K : PySem.W.Frag) (C : Addr) : Sp := fun vs H Q _ => ∃ h lp lk s p, vs = [.ref h, .int p] ∧ HouseAt K C H h lp lk s ∧ Q (.bl (s.hasPlace p)) H
theorem ok_has_place {f : Addr} (A : MtAt K C "has_place" "House.has_place" s_House_has_place P_House_has_place f) (T : Txt K mg C aL aP aR) : MtP P w K mg base C 1 "has_place" P_House_has_place (spHasPlace K C) f := by
  refine A.ok sc_House_has_place (fun vs H Q E h => ?_) (fun cdv A outer s H vs Q E hr h => ?_)
  · obtain ⟨h, lp, lk, s, p, rfl, _⟩ := h
    rfl
  · obtain ⟨h, lp, lk, s, p, rfl, ⟨dx, xs, ys, d⟩, q⟩ := h
    refine ⟨_, (pss_one (ps_ret (pe_and (pe_cmpR op_le pe_int (pv 1) (nomark _)) (pe_one (pe_cmpR op_lt (pv 1) (pe_callB call_len_seq rfl T.b_len PySem.boot_len (pa_cons (pe_fld (pv 0) rfl) pa_nil)) (nomark _)))))), ?_⟩
    change Q (.bl (decide (0 ≤ p) && decide (p < (s.places.length : Int)))) H at q
    refine ⟨_, rfl, _, _, rfl, rfl, _, rfl, if_2 (fun c => ?_) (fun c => ?_)⟩
    · rw [c, Bool.true_and, ← pd_len d.ps] at q
      exact ⟨_, rfl, _, rfl, h, C, dx, _, _, rfl, d.at_, T.cl, T.nP, hF_places _ _, lp, xs, rfl, .inl (.of d.hp), _, _, rfl, rfl, q⟩
    · rw [c, Bool.false_and] at q
      exact q
abbrev s_House_has_kept : Stmt := inClass (top 79) 2
abbrev N_House_has_kept : List Str := ["self", "number"]
abbrev P_House_has_kept : List Str := ["self", "number"]
theorem sc_House_has_kept : FnScope N_House_has_kept P_House_has_kept (defScope s_House_has_kept) := ⟨rfl, rfl, rfl, by decide +kernel, rfl, by decide +kernel, by decide +kernel⟩
def spHasKept (K : PySem.W.Frag) (C : Addr) : Sp := fun vs H Q _ => ∃ h lp lk s p, vs = [.ref h, .int p] ∧ HouseAt K C H h lp lk s ∧ Q (.bl (s.hasKept p)) H
theorem ok_has_kept {f : Addr} (A : MtAt K C "has_kept" "House.has_kept" s_House_has_kept P_House_has_kept f) (T : Txt K mg C aL aP aR) : MtP P w K mg base C 1 "has_kept" P_House_has_kept (spHasKept K C) f := by
  refine A.ok sc_House_has_kept (fun vs H Q E h => ?_) (fun cdv A outer s H vs Q E hr h => ?_)
  · obtain ⟨h, lp, lk, s, p, rfl, _⟩ := h
    rfl
  · obtain ⟨h, lp, lk, s, p, rfl, ⟨dx, xs, ys, d⟩, q⟩ := h
    refine ⟨_, (pss_one (ps_ret (pe_and (pe_cmpR op_le pe_int (pv 1) (nomark _)) (pe_one (pe_cmpR op_lt (pv 1) (pe_callB call_len_seq rfl T.b_len PySem.boot_len (pa_cons (pe_fld (pv 0) rfl) pa_nil)) (nomark _)))))), ?_⟩
    change Q (.bl (decide (0 ≤ p) && decide (p < (s.kept.length : Int)))) H at q
    refine ⟨_, rfl, _, _, rfl, rfl, _, rfl, if_2 (fun c => ?_) (fun c => ?_)⟩
    · rw [c, Bool.true_and, ← pd_len d.ks] at q
      exact ⟨_, rfl, _, rfl, h, C, dx, _, _, rfl, d.at_, T.cl, T.nK, hF_kept _ _, lk, ys, rfl, .inl (.of d.hk), _, _, rfl, rfl, q⟩
    · rw [c, Bool.false_and] at q
      exact q
abbrev s_House_decrees_of : Stmt := inClass (top 79) 3
abbrev N_House_decrees_of : List Str := ["self", "place"]
abbrev P_House_decrees_of : List Str := ["self", "place"]
theorem sc_House_decrees_of : FnScope N_House_decrees_of P_House_decrees_of (defScope s_House_decrees_of) := ⟨rfl, rfl, rfl, by decide +kernel, rfl, by decide +kernel, by decide +kernel⟩
def spDecreesOf (K : PySem.W.Frag) (C : Addr) : Sp := fun vs H Q _ => ∃ h lp lk s p, vs = [.ref h, .int p] ∧ HouseAt K C H h lp lk s ∧ s.hasPlace p = true ∧ ∀ a, DecsAt K H a (s.decrees p) → Q (.ref a) H
theorem ok_decrees_of {f : Addr} (A : MtAt K C "decrees_of" "House.decrees_of" s_House_decrees_of P_House_decrees_of f) (T : Txt K mg C aL aP aR) : MtP P w K mg base C 1 "decrees_of" P_House_decrees_of (spDecreesOf K C) f := by
  refine A.ok sc_House_decrees_of (fun vs H Q E h => ?_) (fun cdv A outer s H vs Q E hr h => ?_)
  · obtain ⟨h, lp, lk, s, p, rfl, _⟩ := h
    rfl
  · obtain ⟨h, lp, lk, s, p, rfl, ⟨dx, xs, ys, d⟩, hp, q⟩ := h
    obtain ⟨a, h1, _, ⟨_, e, _, _, h2⟩⟩ := at_place d hp
    cases e
    refine ⟨_, (pss_one (ps_ret (pe_ix ix_list (pe_fld (pv 0) rfl) (pv 1) (fun _ _ => rfl)))), ?_⟩
    exact ⟨_, rfl, h, C, dx, _, _, rfl, d.at_, T.cl, T.nP, hF_places _ _, _, rfl, lp, xs, _, _, rfl, rfl, .of d.hp, h1, q a h2⟩
abbrev s_House_add_place : Stmt := inClass (top 79) 4
abbrev N_House_add_place : List Str := ["self", "offset"]
abbrev P_House_add_place : List Str := ["self", "offset"]
theorem sc_House_add_place : FnScope N_House_add_place P_House_add_place (defScope s_House_add_place) := ⟨rfl, rfl, rfl, by decide +kernel, rfl, by decide +kernel, by decide +kernel⟩
def spAddPlace (K : PySem.W.Frag) (C : Addr) : Sp := fun vs H Q _ => ∃ h lp lk s z, vs = [.ref h, .int z] ∧ HouseAt K C H h lp lk s ∧ s.places.length < 6 ∧ ∀ H', Keep lp lk H H' → HouseAt K C H' h lp lk { s with places := s.places ++ [[Pc.plain 0 z]] } → Q .non H'
theorem ok_add_place {f f1 : Addr} (A : MtAt K C "add_place" "House.add_place" s_House_add_place P_House_add_place f) (T : Txt K mg C aL aP aR)
    (f_plain_decree : FnP P w K mg base 1 "plain_decree" P_plain_decree (spPlain K) f1) : MtP P w K mg base C 2 "add_place" P_House_add_place (spAddPlace K C) f := by
  refine A.ok sc_House_add_place (fun vs H Q E h => ?_) (fun cdv A outer s H vs Q E hr h => ?_)
  · obtain ⟨h, lp, lk, s, p, rfl, _⟩ := h
    rfl
  · obtain ⟨h, lp, lk, s, z, rfl, ⟨dx, xs, ys, d⟩, few, q⟩ := h
    have el := pd_len d.ps
    refine ⟨_, (pss_one (ps_expr (pe_bm PySem.F.plainAttrs_list PySem.F.slot_list_append PySem.F.type_list_append mt_append (pe_fld (pv 0) rfl) (pa_cons (pe_lst (pa_cons (pe_callF f_plain_decree (hr.mono (by decide)) rfl (pa_cons pe_int (pa_cons (pv 1) pa_nil))) pa_nil)) pa_nil)))), ?_⟩
    refine ⟨_, rfl, h, C, dx, _, _, rfl, d.at_, T.cl, T.nP, hF_places _ _, .inl ⟨rfl, _, SqL.of d.hp⟩, _, rfl, _, _, rfl, fun H1 p1 s1 n1 hp => ⟨line_le (m := 1) (by exact Nat.le_refl _) (by decide), fun m nm => ?_⟩⟩
    have s2 := s1.trans (same_new (o := .lst [.ref p1]) nm)
    have hlp := s2 _ _ d.hp
    have hlk := s2 _ _ d.hk
    have k : Keep lp lk H (upd (upd H1 m (.lst [.ref p1])) lp (.lst (xs ++ [.ref m]))) := fun b o e n _ => by
      rw [upd_ne n]
      exact s2 _ _ e
    have k2 : Keep lp lk (upd H1 m (.lst [.ref p1])) (upd (upd H1 m (.lst [.ref p1])) lp (.lst (xs ++ [.ref m]))) := fun b o e n _ => by
      rw [upd_ne n]
      exact e
    have nm' := s1.free nm
    refine ⟨lp, xs, _, rfl, rfl, hlp, small_of (m := 6) (by omega) (by decide), q _ k ⟨dx, _, ys, k _ _ d.at_ (ne_of d.at_ d.hp (by intro z; cases z)) (ne_of d.at_ d.hk (by intro z; cases z)), upd_same, ?_, d.ne, ?_, ?_⟩⟩
    · rw [upd_ne d.ne.symm]
      exact hlk
    · refine pd_app (pd_mono d.ps fun _ _ => PlaceAt.keep k d.hp d.hk) (pd_one ⟨m, rfl, fun e => ?_, fun e => ?_, DecsAt.keep k2 hlp hlk ?_ ?_ ⟨_, upd_same, pd_one (hp.same (same_new nm))⟩⟩)
      · rw [e, d.hp] at nm'
        cases nm'
      · rw [e, d.hk] at nm'
        cases nm'
      · intro e
        rw [e, d.hp] at nm'
        cases nm'
      · intro e
        rw [e, d.hk] at nm'
        cases nm'
    · exact pd_mono d.ks fun _ _ => KeptAt.keep k d.hp d.hk
abbrev s_House_give_decrees : Stmt := inClass (top 79) 5
abbrev N_House_give_decrees : List Str := ["self", "place", "decrees"]
abbrev P_House_give_decrees : List Str := ["self", "place", "decrees"]
theorem sc_House_give_decrees : FnScope N_House_give_decrees P_House_give_decrees (defScope s_House_give_decrees) := ⟨rfl, rfl, rfl, by decide +kernel, rfl, by decide +kernel, by decide +kernel⟩
def spGive (K : PySem.W.Frag) (C : Addr) : Sp := fun vs H Q _ => ∃ h lp lk s p a l, vs = [.ref h, .int p, .ref a] ∧ HouseAt K C H h lp lk s ∧ s.hasPlace p = true ∧ DecsAt K H a l ∧ a ≠ lp ∧ a ≠ lk ∧ ∀ H', Keep lp lk H H' → HouseAt K C H' h lp lk (s.give p l) → Q .non H'
theorem ok_give_decrees {f : Addr} (A : MtAt K C "give_decrees" "House.give_decrees" s_House_give_decrees P_House_give_decrees f) (T : Txt K mg C aL aP aR) : MtP P w K mg base C 1 "give_decrees" P_House_give_decrees (spGive K C) f := by
  refine A.ok sc_House_give_decrees (fun vs H Q E h => ?_) (fun cdv A outer s H vs Q E hr h => ?_)
  · obtain ⟨h, lp, lk, s, p, a, l, rfl, _⟩ := h
    rfl
  · obtain ⟨h, lp, lk, s, p, a, l, rfl, ⟨dx, xs, ys, d⟩, hp, ha, n1, n2, q⟩ := h
    obtain ⟨_, _, h2, _⟩ := at_place d hp
    refine ⟨_, (pss_one (ps_asg (pv 2) (pg_sub (pe_fld (pv 0) rfl) (pv 1) set_list))), ?_⟩
    have k : Keep lp lk H (upd H lp (.lst (xs.set p.toNat (.ref a)))) := fun b o e n _ => by
      rw [upd_ne n]
      exact e
    refine ⟨_, rfl, _, rfl, h, C, dx, _, _, rfl, d.at_, T.cl, T.nP, hF_places _ _, _, rfl, lp, xs, p, p.toNat, rfl, rfl, d.hp, h2, q _ k ⟨dx, _, ys, k _ _ d.at_ (ne_of d.at_ d.hp (by intro z; cases z)) (ne_of d.at_ d.hk (by intro z; cases z)), upd_same, ?_, d.ne, ?_, ?_⟩⟩
    · rw [upd_ne d.ne.symm]
      exact d.hk
    · exact pd_set _ (pd_mono d.ps fun _ _ => PlaceAt.keep k d.hp d.hk) ⟨a, rfl, n1, n2, DecsAt.keep k d.hp d.hk n1 n2 ha⟩
    · exact pd_mono d.ks fun _ _ => KeptAt.keep k d.hp d.hk
abbrev s_House_add_kept : Stmt := inClass (top 79) 6
abbrev N_House_add_kept : List Str := ["self", "place", "shown"]
abbrev P_House_add_kept : List Str := ["self", "place", "shown"]
theorem sc_House_add_kept : FnScope N_House_add_kept P_House_add_kept (defScope s_House_add_kept) := ⟨rfl, rfl, rfl, by decide +kernel, rfl, by decide +kernel, by decide +kernel⟩
def spAddKept (K : PySem.W.Frag) (C : Addr) : Sp := fun vs H Q _ => ∃ h lp lk s p z, vs = [.ref h, .int p, .int z] ∧ HouseAt K C H h lp lk s ∧ s.kept.length < 20 ∧ ∀ H', Keep lp lk H H' → HouseAt K C H' h lp lk { s with kept := s.kept ++ [(p, z)] } → Q .non H'
theorem ok_add_kept {f : Addr} (A : MtAt K C "add_kept" "House.add_kept" s_House_add_kept P_House_add_kept f) (T : Txt K mg C aL aP aR) : MtP P w K mg base C 1 "add_kept" P_House_add_kept (spAddKept K C) f := by
  refine A.ok sc_House_add_kept (fun vs H Q E h => ?_) (fun cdv A outer s H vs Q E hr h => ?_)
  · obtain ⟨h, lp, lk, s, p, z, rfl, _⟩ := h
    rfl
  · obtain ⟨h, lp, lk, s, p, z, rfl, ⟨dx, xs, ys, d⟩, few, q⟩ := h
    have el := pd_len d.ks
    refine ⟨_, (pss_one (ps_expr (pe_bm PySem.F.plainAttrs_list PySem.F.slot_list_append PySem.F.type_list_append mt_append (pe_fld (pv 0) rfl) (pa_cons (pe_tup (pa_cons (pv 1) (pa_cons (pv 2) pa_nil))) pa_nil)))), ?_⟩
    refine ⟨_, rfl, h, C, dx, _, _, rfl, d.at_, T.cl, T.nK, hF_kept _ _, .inl ⟨rfl, _, SqL.of d.hk⟩, _, rfl, _, rfl, line_le (m := 2) (by exact Nat.le_refl _) (by decide), fun m nm => ?_⟩
    have s2 := same_new (o := .tup [.int p, .int z]) nm
    have hlk := s2 _ _ d.hk
    have k : Keep lp lk H (upd (upd H m (.tup [.int p, .int z])) lk (.lst (ys ++ [.ref m]))) := fun b o e _ n => by
      rw [upd_ne n]
      exact s2 _ _ e
    refine ⟨lk, ys, _, rfl, rfl, hlk, small_of (m := 20) (by omega) (by decide), q _ k ⟨dx, xs, _, k _ _ d.at_ (ne_of d.at_ d.hp (by intro z; cases z)) (ne_of d.at_ d.hk (by intro z; cases z)), ?_, upd_same, d.ne, ?_, ?_⟩⟩
    · rw [upd_ne d.ne]
      exact s2 _ _ d.hp
    · exact pd_mono d.ps fun _ _ => PlaceAt.keep k d.hp d.hk
    · refine pd_app (pd_mono d.ks fun _ _ => KeptAt.keep k d.hp d.hk) (pd_one ⟨m, rfl, .of ?_⟩)
      rw [upd_ne (ne_of (H := upd H m (.tup [.int p, .int z])) upd_same hlk (by intro z; cases z)), upd_same]
end
end Pw
namespace Pw
open PySem PySem.Spec PyProof.Rows L2
/-! ### the shapes of what is asked -/
section
variable {ns : List Int} {rs : List (List Int)}
theorem sh0 (h : Cl02Neutral.asked1 ((0 :: ns) :: rs) = true) : ∃ z, ns = [z] ∧ rs = [] := by
  generalize e : ((0 : Int) :: ns) :: rs = c at h
  unfold Cl02Neutral.asked1 at h
  split at h
  all_goals first
    | (simp at e; done)
    | (simp only [List.cons.injEq, true_and] at e; obtain ⟨rfl, rfl⟩ := e; exact ⟨_, rfl, rfl⟩)
    | cases h
theorem sh1 (h : Cl02Neutral.asked1 ((1 :: ns) :: rs) = true) : ∃ p m z, ns = [p, m, z] ∧ rs = [] := by
  generalize e : ((1 : Int) :: ns) :: rs = c at h
  unfold Cl02Neutral.asked1 at h
  split at h
  all_goals first
    | (simp at e; done)
    | (simp only [List.cons.injEq, true_and] at e; obtain ⟨rfl, rfl⟩ := e; exact ⟨_, _, _, rfl, rfl⟩)
    | cases h
theorem sh2 (h : Cl02Neutral.asked1 ((2 :: ns) :: rs) = true) : ∃ p m z x a b, ns = [p, m, z, x] ∧ rs = [a, b] := by
  generalize e : ((2 : Int) :: ns) :: rs = c at h
  unfold Cl02Neutral.asked1 at h
  split at h
  all_goals first
    | (simp at e; done)
    | (simp only [List.cons.injEq, true_and] at e; obtain ⟨rfl, rfl⟩ := e; exact ⟨_, _, _, _, _, _, rfl, rfl⟩)
    | cases h
/-- the words of two numbers -/
theorem sh_two {k : Int} (hk : k = 3 ∨ k = 4 ∨ k = 5 ∨ k = 6 ∨ k = 7 ∨ k = 8 ∨ k = 9 ∨ k = 11) (h : Cl02Neutral.asked1 ((k :: ns) :: rs) = true) : ∃ p z, ns = [p, z] ∧ rs = [] := by
  rcases hk with r | r | r | r | r | r | r | r <;> subst r
  all_goals
    generalize e : (_ :: ns) :: rs = c at h
    unfold Cl02Neutral.asked1 at h
    split at h
    all_goals first
      | (simp at e; done)
      | (simp only [List.cons.injEq, true_and] at e; obtain ⟨rfl, rfl⟩ := e; exact ⟨_, _, rfl, rfl⟩)
      | cases h
theorem sh_one {k : Int} (hk : k = 10 ∨ k = 12) (h : Cl02Neutral.asked1 ((k :: ns) :: rs) = true) : ∃ z, ns = [z] ∧ rs = [] := by
  rcases hk with r | r <;> subst r
  all_goals
    generalize e : (_ :: ns) :: rs = c at h
    unfold Cl02Neutral.asked1 at h
    split at h
    all_goals first
      | (simp at e; done)
      | (simp only [List.cons.injEq, true_and] at e; obtain ⟨rfl, rfl⟩ := e; exact ⟨_, rfl, rfl⟩)
      | cases h
theorem sh_word {c : List (List Int)} (h : Cl02Neutral.asked1 c = true) : ∃ (k : Nat) (ns : List Int) (rs : List (List Int)), k < 13 ∧ c = ((k : Int) :: ns) :: rs := by
  unfold Cl02Neutral.asked1 at h
  split at h
  · exact ⟨0, _, _, by decide, rfl⟩
  · exact ⟨1, _, _, by decide, rfl⟩
  · exact ⟨2, _, _, by decide, rfl⟩
  · exact ⟨3, _, _, by decide, rfl⟩
  · exact ⟨4, _, _, by decide, rfl⟩
  · exact ⟨5, _, _, by decide, rfl⟩
  · exact ⟨6, _, _, by decide, rfl⟩
  · exact ⟨7, _, _, by decide, rfl⟩
  · exact ⟨8, _, _, by decide, rfl⟩
  · exact ⟨9, _, _, by decide, rfl⟩
  · exact ⟨10, _, _, by decide, rfl⟩
  · exact ⟨11, _, _, by decide, rfl⟩
  · exact ⟨12, _, _, by decide, rfl⟩
  · cases h
end
/-! ### the deeds' one promise -/
def RowsAt (K : PySem.W.Frag) (H : Hp) (ar : Addr) (rs : List (List Int)) : Prop := ∃ xs, SqL K H ar xs ∧ Paired (fun v r => ∃ b, v = V.ref b ∧ SqL K H b (iV r)) xs rs
def spDeed (K : PySem.W.Frag) (C : Addr) (k : Int) : Sp := fun vs H Q _ => ∃ h lp lk an ar st ns rs, vs = [.ref h, .ref an, .ref ar] ∧ HouseAt K C H h lp lk (Pc.sOf st) ∧ Pc.IOk st ∧ SqL K H an (iV ns) ∧ RowsAt K H ar rs ∧
  Cl02Neutral.asked1 ((k :: ns) :: rs) = true ∧ Ends K C H Q h lp lk (Pc.deed (Pc.sOf st) k ns rs)
theorem Keep.free {lp lk : Addr} {H H1 : Hp} (k : Keep lp lk H H1) {us ws : List V} (hp : H1 lp = some (.lst us)) (hq : H1 lk = some (.lst ws)) {p : Addr} (n : H1 p = none) : H p = none := by
  cases e : H p with
  | none => rfl
  | some o =>
    have n1 : p ≠ lp := fun z => by
      rw [z, hp] at n
      cases n
    have n2 : p ≠ lk := fun z => by
      rw [z, hq] at n
      cases n
    rw [k _ _ e n1 n2] at n
    cases n
theorem Ends.then {K : PySem.W.Frag} {C : Addr} {H H1 : Hp} {h lp lk : Addr} {s : Pc.S} {Q : VK} {l : List Int} {p : Addr} (q : Ends K C H Q h lp lk (s, l)) (k : Keep lp lk H H1) (d : HouseAt K C H1 h lp lk s) (n : H1 p = none) : Q (.ref p) (upd H1 p (.lst (iV l))) := by
  obtain ⟨dx, xs, ys, d'⟩ := d
  exact q _ p (k.trans (.of (same_new n))) (k.free d'.hp d'.hk n) (HouseAt.same (same_new n) ⟨dx, xs, ys, d'⟩) upd_same
theorem one_le : (1 : Nat) ≤ sizeLine := line_le (Nat.le_refl _) (by decide)
section
variable {P : Program} {w : World} {K : PySem.W.Frag} {mg : Str → Option Value} {base : Heap} {C aL aP aR : Addr}
abbrev s_do_place : Stmt := top 61
abbrev N_do_place : List Str := ["house", "numbers", "rows", "offset"]
abbrev P_do_place : List Str := ["house", "numbers", "rows"]
theorem sc_do_place : FnScope N_do_place P_do_place (defScope s_do_place) := ⟨rfl, rfl, rfl, by decide +kernel, rfl, by decide +kernel, by decide +kernel⟩
theorem ok_do_place {f f1 f2 : Addr} (A : FnAt K mg "do_place" s_do_place P_do_place f) (T : Txt K mg C aL aP aR)
    (f_is_offset : FnP P w K mg base 1 "is_offset" P_is_offset (spI1 fun n => .bl (Pc.isOffset n)) f1)
    (f_add_place : MtP P w K mg base C 2 "add_place" P_House_add_place (spAddPlace K C) f2) : FnP P w K mg base 3 "do_place" P_do_place (spDeed K C 0) f := by
  refine A.ok sc_do_place (fun vs H Q E h => ?_) (fun cdv A outer s H vs Q E hr h => ?_)
  · obtain ⟨_, _, _, _, _, _, _, _, rfl, _⟩ := h
    rfl
  · obtain ⟨h, lp, lk, an, ar, st, ns, rs, rfl, hd, I, hN, hR, ask, q⟩ := h
    obtain ⟨z, rfl, rfl⟩ := sh0 ask
    change Ends K C H Q h lp lk (Pc.doPlace (Pc.sOf st) z) at q
    unfold Pc.doPlace at q
    obtain ⟨dx, xs, ys, d⟩ := hd
    have hd : HouseAt K C H h lp lk (Pc.sOf st) := ⟨dx, xs, ys, d⟩
    have el := pd_len d.ps
    refine ⟨_, (pss_cons (ps_set (i := 3) sc_do_place.nd rfl (Or.inl rfl) (pe_ix ix_list (pv 1) pe_int (fun _ _ => rfl)))
      (pss_cons (ps_if (pt_not (pt_val (pe_callF f_is_offset (hr.mono (by decide)) rfl (pa_cons (pv 3) pa_nil))))
      (pss_one (ps_ret (pe_lst (pa_cons (pe_un un_neg pe_int) pa_nil))))
      pss_nil)
      (pss_cons (ps_if (pt_cmpR op_ge (pe_callB call_len_seq rfl T.b_len PySem.boot_len (pa_cons (pe_fld (pv 0) rfl) pa_nil)) (pe_gI rfl T.c_MOST_PLACES) (nomark _))
      (pss_one (ps_ret (pe_lst (pa_cons (pe_un un_neg pe_int) pa_nil))))
      pss_nil)
      (pss_cons (ps_expr (pe_methF (pv 0) T.cl f_add_place (hr.mono (by decide)) (pa_cons (pv 3) pa_nil)))
      (pss_one (ps_ret (pe_lst (pa_cons (pe_op op_sub (pe_callB call_len_seq rfl T.b_len PySem.boot_len (pa_cons (pe_fld (pv 0) rfl) pa_nil)) pe_int) pa_nil)))))))), ?_⟩
    refine ⟨_, rfl, _, _, _, _, rfl, rfl, hN, atI_nat (j := 0) rfl, _, rfl, _, rfl, _, rfl, if_2 (fun c => ?_) (fun c => ?_)⟩
    · rw [Bool.not_eq_true'] at c
      rw [if_pos c] at q
      exact ⟨_, rfl, one_le, fun p np => q.now hd np⟩
    · rw [Bool.not_eq_false'] at c
      rw [if_neg (by rw [c]; decide)] at q
      refine ⟨_, rfl, h, C, dx, _, _, rfl, d.at_, T.cl, T.nP, hF_places _ _, lp, xs, rfl, .inl (.of d.hp), _, _, rfl, rfl, _, rfl, if_2 (fun c2 => ?_) (fun c2 => ?_)⟩
      · rw [if_pos (by have := dec_t c2; omega)] at q
        exact ⟨_, rfl, one_le, fun p np => q.now hd np⟩
      · have few := dec_f c2
        rw [if_neg (by omega)] at q
        refine ⟨_, rfl, h, dx, _, rfl, d.at_, hF_no _ _ (by decide +kernel) (by decide +kernel), _, rfl, h, lp, lk, _, _, rfl, hd, by omega, fun H1 k1 d1 => ?_⟩
        obtain ⟨dx1, xs1, ys1, d1'⟩ := d1
        have el1 := pd_len d1'.ps
        refine ⟨_, rfl, h, C, dx1, _, _, rfl, d1'.at_, T.cl, T.nP, hF_places _ _, lp, xs1, rfl, .inl (.of d1'.hp), _, _, rfl, rfl, one_le, fun p np => ?_⟩
        have e : (xs1.length : Int) - 1 = ((Pc.sOf st).places.length : Int) := by
          rw [el1, List.length_append]
          show (((Pc.sOf st).places.length + 1 : Nat) : Int) - 1 = _
          omega
        show Q (.ref p) (upd H1 p (.lst [.int ((xs1.length : Int) - 1)]))
        rw [e]
        exact q.then k1 ⟨dx1, xs1, ys1, d1'⟩ np
abbrev s_put_decree : Stmt := top 62
abbrev N_put_decree : List Str := ["house", "place", "decree", "changed"]
abbrev P_put_decree : List Str := ["house", "place", "decree"]
theorem sc_put_decree : FnScope N_put_decree P_put_decree (defScope s_put_decree) := ⟨rfl, rfl, rfl, by decide +kernel, rfl, by decide +kernel, by decide +kernel⟩
def spPut (K : PySem.W.Frag) (C : Addr) : Sp := fun vs H Q _ => ∃ h lp lk st p v e, vs = [.ref h, .int p, v] ∧ HouseAt K C H h lp lk (Pc.sOf st) ∧ Pc.IOk st ∧ (Pc.sOf st).hasPlace p = true ∧ DecAt K H v e ∧ Ends K C H Q h lp lk (Pc.putDecree (Pc.sOf st) p e)
theorem ok_put_decree {f f1 f2 f3 : Addr} (A : FnAt K mg "put_decree" s_put_decree P_put_decree f) (T : Txt K mg C aL aP aR)
    (f_with_decree : FnP P w K mg base 2 "with_decree" P_with_decree (spWith K) f1)
    (f_decrees_of : MtP P w K mg base C 1 "decrees_of" P_House_decrees_of (spDecreesOf K C) f2)
    (f_give_decrees : MtP P w K mg base C 1 "give_decrees" P_House_give_decrees (spGive K C) f3) : FnP P w K mg base 3 "put_decree" P_put_decree (spPut K C) f := by
  refine A.ok sc_put_decree (fun vs H Q E h => ?_) (fun cdv A outer s H vs Q E hr h => ?_)
  · obtain ⟨_, _, _, _, _, _, _, rfl, _⟩ := h
    rfl
  · obtain ⟨h, lp, lk, st, p, v, e, rfl, hd, I, hp, he, q⟩ := h
    unfold Pc.putDecree at q
    obtain ⟨dx, xs, ys, d⟩ := hd
    have hd : HouseAt K C H h lp lk (Pc.sOf st) := ⟨dx, xs, ys, d⟩
    have l8 := (place_ok I hp).len
    refine ⟨_, (pss_cons (ps_set (i := 3) sc_put_decree.nd rfl (Or.inl rfl) (pe_callF f_with_decree (hr.mono (by decide)) rfl (pa_cons (pe_methF (pv 0) T.cl f_decrees_of (hr.mono (by decide)) (pa_cons (pv 1) pa_nil)) (pa_cons (pv 2) pa_nil))))
      (pss_cons (ps_if (pt_cmpR op_gt (pe_callB call_len_seq rfl T.b_len PySem.boot_len (pa_cons (pv 3) pa_nil)) (pe_gI rfl T.c_MOST_DECREES) (nomark _))
      (pss_one (ps_ret (pe_lst (pa_cons (pe_un un_neg pe_int) pa_nil))))
      pss_nil)
      (pss_cons (ps_expr (pe_methF (pv 0) T.cl f_give_decrees (hr.mono (by decide)) (pa_cons (pv 1) (pa_cons (pv 3) pa_nil))))
      (pss_one (ps_ret (pe_lst (pa_cons (pe_callB call_len_seq rfl T.b_len PySem.boot_len (pa_cons (pv 3) pa_nil)) pa_nil))))))), ?_⟩
    refine ⟨_, rfl, h, dx, _, rfl, d.at_, hF_no _ _ (by decide +kernel) (by decide +kernel), _, rfl, h, lp, lk, _, _, rfl, hd, hp, fun a ha => ?_⟩
    refine ⟨_, rfl, a, _, _, _, rfl, ha, l8, he, fun H1 m s1 n1 hm => ?_⟩
    obtain ⟨us, hm1, hm2⟩ := hm
    have eu := pd_len hm2
    have q1 := q.from s1
    have d1 := hd.same s1
    obtain ⟨dx1, xs1, ys1, d1'⟩ := d1
    refine ⟨_, rfl, m, us, rfl, .inl (.of hm1), _, _, rfl, rfl, _, rfl, if_2 (fun c => ?_) (fun c => ?_)⟩
    · rw [if_pos (by have := dec_t c; omega)] at q1
      exact ⟨_, rfl, one_le, fun p np => q1.now ⟨dx1, xs1, ys1, d1'⟩ np⟩
    · rw [if_neg (by have := dec_f c; omega)] at q1
      have nlp : m ≠ lp := fun z => by
        rw [z, d.hp] at n1
        cases n1
      have nlk : m ≠ lk := fun z => by
        rw [z, d.hk] at n1
        cases n1
      refine ⟨_, rfl, h, dx1, _, rfl, d1'.at_, hF_no _ _ (by decide +kernel) (by decide +kernel), _, rfl, _, rfl, h, lp, lk, _, _, m, _, rfl, ⟨dx1, xs1, ys1, d1'⟩, hp, ⟨us, hm1, hm2⟩, nlp, nlk, fun H2 k2 d2 => ?_⟩
      refine ⟨_, rfl, m, us, rfl, .inl (.of (k2 _ _ hm1 nlp nlk)), one_le, fun p np => ?_⟩
      rw [← eu] at q1
      exact q1.then k2 d2 np
abbrev s_do_decree : Stmt := top 63
abbrev N_do_decree : List Str := ["house", "numbers", "rows", "place", "moment", "offset"]
abbrev P_do_decree : List Str := ["house", "numbers", "rows"]
theorem sc_do_decree : FnScope N_do_decree P_do_decree (defScope s_do_decree) := ⟨rfl, rfl, rfl, by decide +kernel, rfl, by decide +kernel, by decide +kernel⟩
theorem ok_do_decree {f f1 f2 f3 f4 f5 : Addr} (A : FnAt K mg "do_decree" s_do_decree P_do_decree f) (T : Txt K mg C aL aP aR)
    (f_has_place : MtP P w K mg base C 1 "has_place" P_House_has_place (spHasPlace K C) f1)
    (f_is_moment : FnP P w K mg base 1 "is_moment" P_is_moment (spI1 fun n => .bl (Pc.isMoment n)) f2)
    (f_is_offset : FnP P w K mg base 1 "is_offset" P_is_offset (spI1 fun n => .bl (Pc.isOffset n)) f3)
    (f_plain_decree : FnP P w K mg base 1 "plain_decree" P_plain_decree (spPlain K) f4)
    (f_put_decree : FnP P w K mg base 3 "put_decree" P_put_decree (spPut K C) f5) : FnP P w K mg base 4 "do_decree" P_do_decree (spDeed K C 1) f := by
  refine A.ok sc_do_decree (fun vs H Q E h => ?_) (fun cdv A outer s H vs Q E hr h => ?_)
  · obtain ⟨_, _, _, _, _, _, _, _, rfl, _⟩ := h
    rfl
  · obtain ⟨h, lp, lk, an, ar, st, ns, rs, rfl, hd, I, hN, hR, ask, q⟩ := h
    obtain ⟨p, m, z, rfl, rfl⟩ := sh1 ask
    change Ends K C H Q h lp lk (Pc.doDecree (Pc.sOf st) p m z) at q
    unfold Pc.doDecree at q
    obtain ⟨dx, xs, ys, d⟩ := hd
    have hd : HouseAt K C H h lp lk (Pc.sOf st) := ⟨dx, xs, ys, d⟩
    refine ⟨_, (pss_cons (ps_asg (pv 1) (pg_unl rfl (pgs_cons (pg_name (i := 3) sc_do_decree.nd rfl (Or.inl rfl)) (pgs_cons (pg_name (i := 4) sc_do_decree.nd rfl (Or.inl rfl)) (pgs_cons (pg_name (i := 5) sc_do_decree.nd rfl (Or.inl rfl)) pgs_nil)))))
      (pss_cons (ps_if (pt_not (pt_val (pe_methF (pv 0) T.cl f_has_place (hr.mono (by decide)) (pa_cons (pv 3) pa_nil))))
      (pss_one (ps_ret (pe_lst (pa_cons (pe_un un_neg pe_int) pa_nil))))
      pss_nil)
      (pss_cons (ps_if (PW.pt (pw_or (pt_not (pt_val (pe_callF f_is_moment (hr.mono (by decide)) rfl (pa_cons (pv 4) pa_nil)))) (pw_or1 (pt_not (pt_val (pe_callF f_is_offset (hr.mono (by decide)) rfl (pa_cons (pv 5) pa_nil)))))))
      (pss_one (ps_ret (pe_lst (pa_cons (pe_un un_neg pe_int) pa_nil))))
      pss_nil)
      (pss_one (ps_ret (pe_callF f_put_decree (hr.mono (by decide)) rfl (pa_cons (pv 0) (pa_cons (pv 3) (pa_cons (pe_callF f_plain_decree (hr.mono (by decide)) rfl (pa_cons (pv 4) (pa_cons (pv 5) pa_nil))) pa_nil))))))))), ?_⟩
    refine ⟨_, rfl, _, _, rfl, hN, rfl, _, _, rfl, _, _, rfl, _, _, rfl, rfl, ?_⟩
    refine ⟨_, rfl, h, dx, _, rfl, d.at_, hF_no _ _ (by decide +kernel) (by decide +kernel), _, rfl, h, lp, lk, _, _, rfl, hd, _, rfl, if_2 (fun c => ?_) (fun c => ?_)⟩
    · rw [Bool.not_eq_true'] at c
      rw [if_pos c] at q
      exact ⟨_, rfl, one_le, fun p np => q.now hd np⟩
    rw [Bool.not_eq_false'] at c
    rw [if_neg (by rw [c]; decide)] at q
    refine ⟨_, rfl, _, rfl, _, rfl, if_2 (fun c2 => if_t rfl ?_) (fun c2 => ⟨_, rfl, _, rfl, _, rfl, if_2 (fun c3 => ?_) (fun c3 => ?_)⟩)⟩
    · rw [Bool.not_eq_true'] at c2
      rw [if_pos (.inl c2)] at q
      exact ⟨_, rfl, one_le, fun p np => q.now hd np⟩
    · rw [Bool.not_eq_true'] at c3
      rw [if_pos (.inr c3)] at q
      exact ⟨_, rfl, one_le, fun p np => q.now hd np⟩
    · rw [Bool.not_eq_false'] at c2 c3
      rw [if_neg (by rw [c2, c3]; decide)] at q
      exact ⟨_, rfl, _, rfl, _, rfl, _, rfl, _, _, rfl, fun H1 v s1 n1 hv => ⟨h, lp, lk, st, _, _, _, rfl, hd.same s1, I, c, hv, q.from s1⟩⟩
abbrev s_do_summer : Stmt := top 64
abbrev N_do_summer : List Str := ["house", "numbers", "rows", "place", "moment", "offset", "more", "begins", "ends"]
abbrev P_do_summer : List Str := ["house", "numbers", "rows"]
theorem sc_do_summer : FnScope N_do_summer P_do_summer (defScope s_do_summer) := ⟨rfl, rfl, rfl, by decide +kernel, rfl, by decide +kernel, by decide +kernel⟩
theorem ok_do_summer {f f1 f2 f3 f4 f5 f6 : Addr} (A : FnAt K mg "do_summer" s_do_summer P_do_summer f) (T : Txt K mg C aL aP aR)
    (f_has_place : MtP P w K mg base C 1 "has_place" P_House_has_place (spHasPlace K C) f1)
    (f_is_moment : FnP P w K mg base 1 "is_moment" P_is_moment (spI1 fun n => .bl (Pc.isMoment n)) f2)
    (f_is_offset : FnP P w K mg base 1 "is_offset" P_is_offset (spI1 fun n => .bl (Pc.isOffset n)) f3)
    (f_is_summer_rule : FnP P w K mg base 2 "is_summer_rule" P_is_summer_rule (spSummerRule K) f4)
    (f_summer_decree : FnP P w K mg base 1 "summer_decree" P_summer_decree (spSummerD K) f5)
    (f_put_decree : FnP P w K mg base 3 "put_decree" P_put_decree (spPut K C) f6) : FnP P w K mg base 4 "do_summer" P_do_summer (spDeed K C 2) f := by
  refine A.ok sc_do_summer (fun vs H Q E h => ?_) (fun cdv A outer s H vs Q E hr h => ?_)
  · obtain ⟨_, _, _, _, _, _, _, _, rfl, _⟩ := h
    rfl
  · obtain ⟨h, lp, lk, an, ar, st, ns, rs, rfl, hd, I, hN, ⟨us, hR, hR2⟩, ask, q⟩ := h
    obtain ⟨p, m, z, x, a, b, rfl, rfl⟩ := sh2 ask
    cases hR2 with
    | @cons v1 _ us1 _ r1 t1 =>
    cases t1 with
    | @cons v2 _ us2 _ r2 t2 =>
    cases t2
    obtain ⟨b1, rfl, hA⟩ := r1
    obtain ⟨b2, rfl, hB⟩ := r2
    change Ends K C H Q h lp lk (Pc.doSummer (Pc.sOf st) p m z x a b) at q
    unfold Pc.doSummer at q
    obtain ⟨dx, xs, ys, d⟩ := hd
    have hd : HouseAt K C H h lp lk (Pc.sOf st) := ⟨dx, xs, ys, d⟩
    refine ⟨_, (pss_cons (ps_asg (pv 1) (pg_unl rfl (pgs_cons (pg_name (i := 3) sc_do_summer.nd rfl (Or.inl rfl)) (pgs_cons (pg_name (i := 4) sc_do_summer.nd rfl (Or.inl rfl)) (pgs_cons (pg_name (i := 5) sc_do_summer.nd rfl (Or.inl rfl)) (pgs_cons (pg_name (i := 6) sc_do_summer.nd rfl (Or.inl rfl)) pgs_nil))))))
      (pss_cons (ps_asg (pv 2) (pg_unl rfl (pgs_cons (pg_name (i := 7) sc_do_summer.nd rfl (Or.inl rfl)) (pgs_cons (pg_name (i := 8) sc_do_summer.nd rfl (Or.inl rfl)) pgs_nil))))
      (pss_cons (ps_if (pt_not (pt_val (pe_methF (pv 0) T.cl f_has_place (hr.mono (by decide)) (pa_cons (pv 3) pa_nil))))
      (pss_one (ps_ret (pe_lst (pa_cons (pe_un un_neg pe_int) pa_nil))))
      pss_nil)
      (pss_cons (ps_if (PW.pt (pw_or (pt_not (pt_val (pe_callF f_is_moment (hr.mono (by decide)) rfl (pa_cons (pv 4) pa_nil)))) (pw_or1 (pt_not (pt_val (pe_callF f_is_offset (hr.mono (by decide)) rfl (pa_cons (pv 5) pa_nil)))))))
      (pss_one (ps_ret (pe_lst (pa_cons (pe_un un_neg pe_int) pa_nil))))
      pss_nil)
      (pss_cons (ps_if (pt_not (pt_val (pe_callF f_is_summer_rule (hr.mono (by decide)) rfl (pa_cons (pv 6) (pa_cons (pv 7) (pa_cons (pv 8) pa_nil))))))
      (pss_one (ps_ret (pe_lst (pa_cons (pe_un un_neg pe_int) pa_nil))))
      pss_nil)
      (pss_one (ps_ret (pe_callF f_put_decree (hr.mono (by decide)) rfl (pa_cons (pv 0) (pa_cons (pv 3) (pa_cons (pe_callF f_summer_decree (hr.mono (by decide)) rfl (pa_cons (pv 4) (pa_cons (pv 5) (pa_cons (pv 6) (pa_cons (pv 7) (pa_cons (pv 8) pa_nil)))))) pa_nil))))))))))), ?_⟩
    refine ⟨_, rfl, _, _, rfl, hN, rfl, _, _, rfl, _, _, rfl, _, _, rfl, _, _, rfl, rfl, ?_⟩
    refine ⟨_, rfl, _, _, rfl, hR, rfl, _, _, rfl, _, _, rfl, rfl, ?_⟩
    refine ⟨_, rfl, h, dx, _, rfl, d.at_, hF_no _ _ (by decide +kernel) (by decide +kernel), _, rfl, h, lp, lk, _, _, rfl, hd, _, rfl, if_2 (fun c => ?_) (fun c => ?_)⟩
    · rw [Bool.not_eq_true'] at c
      rw [if_pos c] at q
      exact ⟨_, rfl, one_le, fun p np => q.now hd np⟩
    rw [Bool.not_eq_false'] at c
    rw [if_neg (by rw [c]; decide)] at q
    refine ⟨_, rfl, _, rfl, _, rfl, if_2 (fun c2 => if_t rfl ?_) (fun c2 => ⟨_, rfl, _, rfl, _, rfl, if_2 (fun c3 => ?_) (fun c3 => ?_)⟩)⟩
    · rw [Bool.not_eq_true'] at c2
      rw [if_pos (.inl c2)] at q
      exact ⟨_, rfl, one_le, fun p np => q.now hd np⟩
    · rw [Bool.not_eq_true'] at c3
      rw [if_pos (.inr c3)] at q
      exact ⟨_, rfl, one_le, fun p np => q.now hd np⟩
    · rw [Bool.not_eq_false'] at c2 c3
      rw [if_neg (by rw [c2, c3]; decide)] at q
      refine ⟨_, rfl, _, rfl, _, rfl, _, _, _, _, _, rfl, hA, hB, _, rfl, if_2 (fun c4 => ?_) (fun c4 => ?_)⟩
      · rw [Bool.not_eq_true'] at c4
        rw [if_pos c4] at q
        exact ⟨_, rfl, one_le, fun p np => q.now hd np⟩
      · rw [Bool.not_eq_false'] at c4
        rw [if_neg (by rw [c4]; decide)] at q
        have ok : Pc.isRule a = true ∧ Pc.isRule b = true := by
          unfold Pc.isSummerRule at c4
          simp only [Bool.and_eq_true] at c4
          exact ⟨c4.2.2.1, c4.2.2.2.1⟩
        exact ⟨_, rfl, _, rfl, _, rfl, _, rfl, _, rfl, _, rfl, _, rfl, _, _, _, _, _, _, _, rfl, hA, hB, ok.1, ok.2, fun H1 v s1 n1 hv => ⟨h, lp, lk, st, _, _, _, rfl, hd.same s1, I, c, hv, q.from s1⟩⟩
abbrev s_do_drop : Stmt := top 65
abbrev N_do_drop : List Str := ["house", "numbers", "rows", "place", "moment", "decrees", "changed"]
abbrev P_do_drop : List Str := ["house", "numbers", "rows"]
theorem sc_do_drop : FnScope N_do_drop P_do_drop (defScope s_do_drop) := ⟨rfl, rfl, rfl, by decide +kernel, rfl, by decide +kernel, by decide +kernel⟩
theorem ok_do_drop {f f1 f2 f3 f4 f5 : Addr} (A : FnAt K mg "do_drop" s_do_drop P_do_drop f) (T : Txt K mg C aL aP aR)
    (f_has_place : MtP P w K mg base C 1 "has_place" P_House_has_place (spHasPlace K C) f1)
    (f_decrees_of : MtP P w K mg base C 1 "decrees_of" P_House_decrees_of (spDecreesOf K C) f2)
    (f_has_since : FnP P w K mg base 2 "has_since" P_has_since (spHasSince K) f3)
    (f_without_since : FnP P w K mg base 2 "without_since" P_without_since (spWithout K) f4)
    (f_give_decrees : MtP P w K mg base C 1 "give_decrees" P_House_give_decrees (spGive K C) f5) : FnP P w K mg base 3 "do_drop" P_do_drop (spDeed K C 3) f := by
  refine A.ok sc_do_drop (fun vs H Q E h => ?_) (fun cdv A outer s H vs Q E hr h => ?_)
  · obtain ⟨_, _, _, _, _, _, _, _, rfl, _⟩ := h
    rfl
  · obtain ⟨h, lp, lk, an, ar, st, ns, rs, rfl, hd, I, hN, hR, ask, q⟩ := h
    obtain ⟨p, m, rfl, rfl⟩ := sh_two (by simp) ask
    change Ends K C H Q h lp lk (Pc.doDrop (Pc.sOf st) p m) at q
    unfold Pc.doDrop at q
    obtain ⟨dx, xs, ys, d⟩ := hd
    have hd : HouseAt K C H h lp lk (Pc.sOf st) := ⟨dx, xs, ys, d⟩
    refine ⟨_, (pss_cons (ps_asg (pv 1) (pg_unl rfl (pgs_cons (pg_name (i := 3) sc_do_drop.nd rfl (Or.inl rfl)) (pgs_cons (pg_name (i := 4) sc_do_drop.nd rfl (Or.inl rfl)) pgs_nil))))
      (pss_cons (ps_if (pt_not (pt_val (pe_methF (pv 0) T.cl f_has_place (hr.mono (by decide)) (pa_cons (pv 3) pa_nil))))
      (pss_one (ps_ret (pe_lst (pa_cons (pe_un un_neg pe_int) pa_nil))))
      pss_nil)
      (pss_cons (ps_set (i := 5) sc_do_drop.nd rfl (Or.inl rfl) (pe_methF (pv 0) T.cl f_decrees_of (hr.mono (by decide)) (pa_cons (pv 3) pa_nil)))
      (pss_cons (ps_if (PW.pt (pw_or (pt_cmpR op_eq (pv 4) pe_int (nomark _)) (pw_or1 (pt_not (pt_val (pe_callF f_has_since (hr.mono (by decide)) rfl (pa_cons (pv 5) (pa_cons (pv 4) pa_nil))))))))
      (pss_one (ps_ret (pe_lst (pa_cons (pe_un un_neg pe_int) pa_nil))))
      pss_nil)
      (pss_cons (ps_set (i := 6) sc_do_drop.nd rfl (Or.inl rfl) (pe_callF f_without_since (hr.mono (by decide)) rfl (pa_cons (pv 5) (pa_cons (pv 4) pa_nil))))
      (pss_cons (ps_expr (pe_methF (pv 0) T.cl f_give_decrees (hr.mono (by decide)) (pa_cons (pv 3) (pa_cons (pv 6) pa_nil))))
      (pss_one (ps_ret (pe_lst (pa_cons (pe_callB call_len_seq rfl T.b_len PySem.boot_len (pa_cons (pv 6) pa_nil)) pa_nil)))))))))), ?_⟩
    refine ⟨_, rfl, _, _, rfl, hN, rfl, _, _, rfl, _, _, rfl, rfl, ?_⟩
    refine ⟨_, rfl, h, dx, _, rfl, d.at_, hF_no _ _ (by decide +kernel) (by decide +kernel), _, rfl, h, lp, lk, _, _, rfl, hd, _, rfl, if_2 (fun c => ?_) (fun c => ?_)⟩
    · rw [Bool.not_eq_true'] at c
      rw [if_pos c] at q
      exact ⟨_, rfl, one_le, fun p np => q.now hd np⟩
    rw [Bool.not_eq_false'] at c
    rw [if_neg (by rw [c]; decide)] at q
    have l8 := (place_ok I c).len
    refine ⟨_, rfl, h, dx, _, rfl, d.at_, hF_no _ _ (by decide +kernel) (by decide +kernel), _, rfl, h, lp, lk, _, _, rfl, hd, c, fun a ha => ?_⟩
    refine ⟨_, rfl, rfl, _, rfl, if_2 (fun c2 => if_t rfl ?_) (fun c2 => ⟨_, rfl, _, rfl, _, _, _, rfl, ha, _, rfl, if_2 (fun c3 => ?_) (fun c3 => ?_)⟩)⟩
    · rw [if_pos (.inl (eint c2))] at q
      exact ⟨_, rfl, one_le, fun p np => q.now hd np⟩
    · rw [Bool.not_eq_true'] at c3
      rw [if_pos (.inr c3)] at q
      exact ⟨_, rfl, one_le, fun p np => q.now hd np⟩
    · rw [Bool.not_eq_false'] at c3
      rw [if_neg (by rw [c3]; exact fun z => z.elim (fint c2) (fun y => nomatch y))] at q
      refine ⟨_, rfl, _, rfl, _, _, _, rfl, ha, l8, fun H1 n s1 n1 hm => ?_⟩
      obtain ⟨us, hm1, hm2⟩ := hm
      have eu := pd_len hm2
      have q1 := q.from s1
      obtain ⟨dx1, xs1, ys1, d1'⟩ := hd.same s1
      have nlp : n ≠ lp := fun z => by
        rw [z, d.hp] at n1
        cases n1
      have nlk : n ≠ lk := fun z => by
        rw [z, d.hk] at n1
        cases n1
      refine ⟨_, rfl, h, dx1, _, rfl, d1'.at_, hF_no _ _ (by decide +kernel) (by decide +kernel), _, rfl, _, rfl, h, lp, lk, _, _, n, _, rfl, ⟨dx1, xs1, ys1, d1'⟩, c, ⟨us, hm1, hm2⟩, nlp, nlk, fun H2 k2 d2 => ?_⟩
      refine ⟨_, rfl, n, us, rfl, .inl (.of (k2 _ _ hm1 nlp nlk)), one_le, fun p np => ?_⟩
      rw [← eu] at q1
      exact q1.then k2 d2 np
end
end Pw
namespace Pw
open PySem PySem.Spec PyProof.Rows L2
theorem meant_len (l : List Pc.D) (z : Int) : Pc.meantNumbers l z ≠ [] := by
  unfold Pc.meantNumbers
  split
  · exact fun h => nomatch h
  · split <;> exact fun h => nomatch h
theorem kept_place {st : Cl02.State} (I : Pc.IOk st) {k : Int} (h : (Pc.sOf st).hasKept k = true) : ∃ kp, (Pc.sOf st).kept[k.toNat]? = some kp ∧ (Pc.sOf st).hasPlace kp.1 = true ∧ 0 ≤ k ∧ Pc.meantByKept (Pc.sOf st) k = Pc.meantNumbers ((Pc.sOf st).decrees kp.1) kp.2 := by
  unfold Pc.S.hasKept at h
  rw [Bool.and_eq_true, decide_eq_true_iff, decide_eq_true_iff] at h
  have el : (Pc.sOf st).kept.length = st.kept.length := by simp [Pc.sOf]
  have lt : k.toNat < st.kept.length := by omega
  have e : (Pc.sOf st).kept[k.toNat]? = some (((st.kept[k.toNat]'lt).place : Int), (st.kept[k.toNat]'lt).shown) := by
    unfold Pc.sOf
    dsimp only
    rw [List.getElem?_map, List.getElem?_eq_getElem lt]
    rfl
  refine ⟨_, e, ?_, h.1, ?_⟩
  · have kp := I.kept _ (List.getElem_mem lt)
    unfold Pc.S.hasPlace
    rw [Bool.and_eq_true, decide_eq_true_iff, decide_eq_true_iff]
    have ep : (Pc.sOf st).places.length = st.places.length := by simp [Pc.sOf]
    dsimp only
    omega
  · unfold Pc.meantByKept
    rw [List.getD_eq_getElem?_getD, e]
    rfl
theorem ends_pure {K : PySem.W.Frag} {C : Addr} {H : Hp} {h lp lk : Addr} {s : Pc.S} {Q : VK} {l : List Int} (q : Ends K C H Q h lp lk (s, l)) : Ends K C H Q h lp lk (s, l) := q
section
variable {P : Program} {w : World} {K : PySem.W.Frag} {mg : Str → Option Value} {base : Heap} {C aL aP aR : Addr}
abbrev s_do_offset : Stmt := top 66
abbrev N_do_offset : List Str := ["house", "numbers", "rows", "place", "moment"]
abbrev P_do_offset : List Str := ["house", "numbers", "rows"]
theorem sc_do_offset : FnScope N_do_offset P_do_offset (defScope s_do_offset) := ⟨rfl, rfl, rfl, by decide +kernel, rfl, by decide +kernel, by decide +kernel⟩
theorem ok_do_offset {f f1 f2 f3 f4 : Addr} (A : FnAt K mg "do_offset" s_do_offset P_do_offset f) (T : Txt K mg C aL aP aR)
    (f_has_place : MtP P w K mg base C 1 "has_place" P_House_has_place (spHasPlace K C) f1)
    (f_is_moment : FnP P w K mg base 1 "is_moment" P_is_moment (spI1 fun n => .bl (Pc.isMoment n)) f2)
    (f_decrees_of : MtP P w K mg base C 1 "decrees_of" P_House_decrees_of (spDecreesOf K C) f3)
    (f_ahead_at : FnP P w K mg base 7 "ahead_at" P_ahead_at (spAheadAt K) f4) : FnP P w K mg base 8 "do_offset" P_do_offset (spDeed K C 4) f := by
  refine A.ok sc_do_offset (fun vs H Q E h => ?_) (fun cdv A outer s H vs Q E hr h => ?_)
  · obtain ⟨_, _, _, _, _, _, _, _, rfl, _⟩ := h
    rfl
  · obtain ⟨h, lp, lk, an, ar, st, ns, rs, rfl, hd, I, hN, hR, ask, q⟩ := h
    obtain ⟨p, m, rfl, rfl⟩ := sh_two (by simp) ask
    replace q : Ends K C H Q h lp lk (Pc.sOf st, Pc.doOffset (Pc.sOf st) p m) := q
    unfold Pc.doOffset at q
    obtain ⟨dx, xs, ys, d⟩ := hd
    have hd : HouseAt K C H h lp lk (Pc.sOf st) := ⟨dx, xs, ys, d⟩
    refine ⟨_, (pss_cons (ps_asg (pv 1) (pg_unl rfl (pgs_cons (pg_name (i := 3) sc_do_offset.nd rfl (Or.inl rfl)) (pgs_cons (pg_name (i := 4) sc_do_offset.nd rfl (Or.inl rfl)) pgs_nil))))
      (pss_cons (ps_if (pt_not (pt_val (pe_methF (pv 0) T.cl f_has_place (hr.mono (by decide)) (pa_cons (pv 3) pa_nil))))
      (pss_one (ps_ret (pe_lst (pa_cons (pe_un un_neg pe_int) pa_nil))))
      pss_nil)
      (pss_cons (ps_if (pt_not (pt_val (pe_callF f_is_moment (hr.mono (by decide)) rfl (pa_cons (pv 4) pa_nil))))
      (pss_one (ps_ret (pe_lst (pa_cons (pe_un un_neg pe_int) pa_nil))))
      pss_nil)
      (pss_one (ps_ret (pe_lst (pa_cons (pe_op op_add (pe_gI rfl T.c_OFFSET_BASE) (pe_callF f_ahead_at (hr.mono (by decide)) rfl (pa_cons (pe_methF (pv 0) T.cl f_decrees_of (hr.mono (by decide)) (pa_cons (pv 3) pa_nil)) (pa_cons (pv 4) pa_nil)))) pa_nil))))))), ?_⟩
    refine ⟨_, rfl, _, _, rfl, hN, rfl, _, _, rfl, _, _, rfl, rfl, ?_⟩
    refine ⟨_, rfl, h, dx, _, rfl, d.at_, hF_no _ _ (by decide +kernel) (by decide +kernel), _, rfl, h, lp, lk, _, _, rfl, hd, _, rfl, if_2 (fun c => ?_) (fun c => ?_)⟩
    · rw [Bool.not_eq_true'] at c
      rw [if_pos c] at q
      exact ⟨_, rfl, one_le, fun p np => q.now hd np⟩
    rw [Bool.not_eq_false'] at c
    rw [if_neg (by rw [c]; decide)] at q
    refine ⟨_, rfl, _, rfl, _, rfl, if_2 (fun c2 => ?_) (fun c2 => ?_)⟩
    · rw [Bool.not_eq_true'] at c2
      rw [if_pos c2] at q
      exact ⟨_, rfl, one_le, fun p np => q.now hd np⟩
    · rw [Bool.not_eq_false'] at c2
      rw [if_neg (by rw [c2]; decide)] at q
      exact ⟨_, rfl, h, dx, _, rfl, d.at_, hF_no _ _ (by decide +kernel) (by decide +kernel), _, rfl, h, lp, lk, _, _, rfl, hd, c, fun a ha => ⟨_, rfl, _, _, _, rfl, ha, (place_ok I c).ne, _, _, rfl, rfl, one_le, fun p np => q.now hd np⟩⟩
abbrev s_do_shows : Stmt := top 67
abbrev N_do_shows : List Str := ["house", "numbers", "rows", "place", "moment"]
abbrev P_do_shows : List Str := ["house", "numbers", "rows"]
theorem sc_do_shows : FnScope N_do_shows P_do_shows (defScope s_do_shows) := ⟨rfl, rfl, rfl, by decide +kernel, rfl, by decide +kernel, by decide +kernel⟩
theorem ok_do_shows {f f1 f2 f3 f4 : Addr} (A : FnAt K mg "do_shows" s_do_shows P_do_shows f) (T : Txt K mg C aL aP aR)
    (f_has_place : MtP P w K mg base C 1 "has_place" P_House_has_place (spHasPlace K C) f1)
    (f_is_moment : FnP P w K mg base 1 "is_moment" P_is_moment (spI1 fun n => .bl (Pc.isMoment n)) f2)
    (f_decrees_of : MtP P w K mg base C 1 "decrees_of" P_House_decrees_of (spDecreesOf K C) f3)
    (f_shows_numbers : FnP P w K mg base 8 "shows_numbers" P_shows_numbers (spShows K) f4) : FnP P w K mg base 9 "do_shows" P_do_shows (spDeed K C 5) f := by
  refine A.ok sc_do_shows (fun vs H Q E h => ?_) (fun cdv A outer s H vs Q E hr h => ?_)
  · obtain ⟨_, _, _, _, _, _, _, _, rfl, _⟩ := h
    rfl
  · obtain ⟨h, lp, lk, an, ar, st, ns, rs, rfl, hd, I, hN, hR, ask, q⟩ := h
    obtain ⟨p, m, rfl, rfl⟩ := sh_two (by simp) ask
    replace q : Ends K C H Q h lp lk (Pc.sOf st, Pc.doShows (Pc.sOf st) p m) := q
    unfold Pc.doShows at q
    obtain ⟨dx, xs, ys, d⟩ := hd
    have hd : HouseAt K C H h lp lk (Pc.sOf st) := ⟨dx, xs, ys, d⟩
    refine ⟨_, (pss_cons (ps_asg (pv 1) (pg_unl rfl (pgs_cons (pg_name (i := 3) sc_do_shows.nd rfl (Or.inl rfl)) (pgs_cons (pg_name (i := 4) sc_do_shows.nd rfl (Or.inl rfl)) pgs_nil))))
      (pss_cons (ps_if (pt_not (pt_val (pe_methF (pv 0) T.cl f_has_place (hr.mono (by decide)) (pa_cons (pv 3) pa_nil))))
      (pss_one (ps_ret (pe_lst (pa_cons (pe_un un_neg pe_int) pa_nil))))
      pss_nil)
      (pss_cons (ps_if (pt_not (pt_val (pe_callF f_is_moment (hr.mono (by decide)) rfl (pa_cons (pv 4) pa_nil))))
      (pss_one (ps_ret (pe_lst (pa_cons (pe_un un_neg pe_int) pa_nil))))
      pss_nil)
      (pss_one (ps_ret (pe_callF f_shows_numbers (hr.mono (by decide)) rfl (pa_cons (pe_methF (pv 0) T.cl f_decrees_of (hr.mono (by decide)) (pa_cons (pv 3) pa_nil)) (pa_cons (pv 4) pa_nil)))))))), ?_⟩
    refine ⟨_, rfl, _, _, rfl, hN, rfl, _, _, rfl, _, _, rfl, rfl, ?_⟩
    refine ⟨_, rfl, h, dx, _, rfl, d.at_, hF_no _ _ (by decide +kernel) (by decide +kernel), _, rfl, h, lp, lk, _, _, rfl, hd, _, rfl, if_2 (fun c => ?_) (fun c => ?_)⟩
    · rw [Bool.not_eq_true'] at c
      rw [if_pos c] at q
      exact ⟨_, rfl, one_le, fun p np => q.now hd np⟩
    rw [Bool.not_eq_false'] at c
    rw [if_neg (by rw [c]; decide)] at q
    refine ⟨_, rfl, _, rfl, _, rfl, if_2 (fun c2 => ?_) (fun c2 => ?_)⟩
    · rw [Bool.not_eq_true'] at c2
      rw [if_pos c2] at q
      exact ⟨_, rfl, one_le, fun p np => q.now hd np⟩
    · rw [Bool.not_eq_false'] at c2
      rw [if_neg (by rw [c2]; decide)] at q
      exact ⟨_, rfl, h, dx, _, rfl, d.at_, hF_no _ _ (by decide +kernel) (by decide +kernel), _, rfl, h, lp, lk, _, _, rfl, hd, c, fun a ha => ⟨_, rfl, _, _, _, rfl, ha, (place_ok I c).ne, q.newL hd⟩⟩
abbrev s_do_moments : Stmt := top 68
abbrev N_do_moments : List Str := ["house", "numbers", "rows", "place", "shown", "found"]
abbrev P_do_moments : List Str := ["house", "numbers", "rows"]
theorem sc_do_moments : FnScope N_do_moments P_do_moments (defScope s_do_moments) := ⟨rfl, rfl, rfl, by decide +kernel, rfl, by decide +kernel, by decide +kernel⟩
theorem ok_do_moments {f f1 f2 f3 : Addr} (A : FnAt K mg "do_moments" s_do_moments P_do_moments f) (T : Txt K mg C aL aP aR)
    (f_has_place : MtP P w K mg base C 1 "has_place" P_House_has_place (spHasPlace K C) f1)
    (f_decrees_of : MtP P w K mg base C 1 "decrees_of" P_House_decrees_of (spDecreesOf K C) f2)
    (f_moments_showing : FnP P w K mg base 10 "moments_showing" P_moments_showing (spShowing K) f3) : FnP P w K mg base 11 "do_moments" P_do_moments (spDeed K C 6) f := by
  refine A.ok sc_do_moments (fun vs H Q E h => ?_) (fun cdv A outer s H vs Q E hr h => ?_)
  · obtain ⟨_, _, _, _, _, _, _, _, rfl, _⟩ := h
    rfl
  · obtain ⟨h, lp, lk, an, ar, st, ns, rs, rfl, hd, I, hN, hR, ask, q⟩ := h
    obtain ⟨p, z, rfl, rfl⟩ := sh_two (by simp) ask
    replace q : Ends K C H Q h lp lk (Pc.sOf st, Pc.doMoments (Pc.sOf st) p z) := q
    unfold Pc.doMoments at q
    obtain ⟨dx, xs, ys, d⟩ := hd
    have hd : HouseAt K C H h lp lk (Pc.sOf st) := ⟨dx, xs, ys, d⟩
    refine ⟨_, (pss_cons (ps_asg (pv 1) (pg_unl rfl (pgs_cons (pg_name (i := 3) sc_do_moments.nd rfl (Or.inl rfl)) (pgs_cons (pg_name (i := 4) sc_do_moments.nd rfl (Or.inl rfl)) pgs_nil))))
      (pss_cons (ps_if (pt_not (pt_val (pe_methF (pv 0) T.cl f_has_place (hr.mono (by decide)) (pa_cons (pv 3) pa_nil))))
      (pss_one (ps_ret (pe_lst (pa_cons (pe_un un_neg pe_int) pa_nil))))
      pss_nil)
      (pss_cons (ps_set (i := 5) sc_do_moments.nd rfl (Or.inl rfl) (pe_callF f_moments_showing (hr.mono (by decide)) rfl (pa_cons (pe_methF (pv 0) T.cl f_decrees_of (hr.mono (by decide)) (pa_cons (pv 3) pa_nil)) (pa_cons (pv 4) pa_nil))))
      (pss_one (ps_ret (pe_op op_cat (pe_lst (pa_cons (pe_callB call_len_seq rfl T.b_len PySem.boot_len (pa_cons (pv 5) pa_nil)) pa_nil)) (pv 5))))))), ?_⟩
    refine ⟨_, rfl, _, _, rfl, hN, rfl, _, _, rfl, _, _, rfl, rfl, ?_⟩
    refine ⟨_, rfl, h, dx, _, rfl, d.at_, hF_no _ _ (by decide +kernel) (by decide +kernel), _, rfl, h, lp, lk, _, _, rfl, hd, _, rfl, if_2 (fun c => ?_) (fun c => ?_)⟩
    · rw [Bool.not_eq_true'] at c
      rw [if_pos c] at q
      exact ⟨_, rfl, one_le, fun p np => q.now hd np⟩
    rw [Bool.not_eq_false'] at c
    rw [if_neg (by rw [c]; decide)] at q
    have ok := place_ok I c
    have wl := Nat.le_trans (Pc.within_length (Pc.placeSpans ((Pc.sOf st).decrees p)) z) ok.spans
    refine ⟨_, rfl, h, dx, _, rfl, d.at_, hF_no _ _ (by decide +kernel) (by decide +kernel), _, rfl, h, lp, lk, _, _, rfl, hd, c, fun a ha => ⟨_, rfl, _, _, _, rfl, ha, ok, fun H1 m s1 n1 hm => ?_⟩⟩
    refine ⟨_, rfl, m, _, rfl, .inl (.of hm), one_le, fun n nn => ?_⟩
    have s2 := same_new (o := .lst [.int ((iV (Pc.within (Pc.placeSpans ((Pc.sOf st).decrees p)) z)).length : Nat)]) nn
    refine ⟨_, rfl, n, m, _, _, rfl, rfl, upd_same, s2 _ _ hm, line_le (m := 2401) (by unfold iV; rw [List.length_map]; show 1 + _ ≤ 2401; omega) (by decide), fun r nr => ?_⟩
    have q2 := q.from (s1.trans s2)
    have el : (iV (Pc.within (Pc.placeSpans ((Pc.sOf st).decrees p)) z)).length = (Pc.within (Pc.placeSpans ((Pc.sOf st).decrees p)) z).length := List.length_map ..
    rw [← el] at q2
    exact q2.now ((hd.same s1).same s2) nr
abbrev s_do_meant : Stmt := top 69
abbrev N_do_meant : List Str := ["house", "numbers", "rows", "place", "shown"]
abbrev P_do_meant : List Str := ["house", "numbers", "rows"]
theorem sc_do_meant : FnScope N_do_meant P_do_meant (defScope s_do_meant) := ⟨rfl, rfl, rfl, by decide +kernel, rfl, by decide +kernel, by decide +kernel⟩
theorem ok_do_meant {f f1 f2 f3 : Addr} (A : FnAt K mg "do_meant" s_do_meant P_do_meant f) (T : Txt K mg C aL aP aR)
    (f_has_place : MtP P w K mg base C 1 "has_place" P_House_has_place (spHasPlace K C) f1)
    (f_decrees_of : MtP P w K mg base C 1 "decrees_of" P_House_decrees_of (spDecreesOf K C) f2)
    (f_meant_numbers : FnP P w K mg base 10 "meant_numbers" P_meant_numbers (spMeant K) f3) : FnP P w K mg base 11 "do_meant" P_do_meant (spDeed K C 7) f := by
  refine A.ok sc_do_meant (fun vs H Q E h => ?_) (fun cdv A outer s H vs Q E hr h => ?_)
  · obtain ⟨_, _, _, _, _, _, _, _, rfl, _⟩ := h
    rfl
  · obtain ⟨h, lp, lk, an, ar, st, ns, rs, rfl, hd, I, hN, hR, ask, q⟩ := h
    obtain ⟨p, z, rfl, rfl⟩ := sh_two (by simp) ask
    replace q : Ends K C H Q h lp lk (Pc.sOf st, Pc.doMeant (Pc.sOf st) p z) := q
    unfold Pc.doMeant at q
    obtain ⟨dx, xs, ys, d⟩ := hd
    have hd : HouseAt K C H h lp lk (Pc.sOf st) := ⟨dx, xs, ys, d⟩
    refine ⟨_, (pss_cons (ps_asg (pv 1) (pg_unl rfl (pgs_cons (pg_name (i := 3) sc_do_meant.nd rfl (Or.inl rfl)) (pgs_cons (pg_name (i := 4) sc_do_meant.nd rfl (Or.inl rfl)) pgs_nil))))
      (pss_cons (ps_if (pt_not (pt_val (pe_methF (pv 0) T.cl f_has_place (hr.mono (by decide)) (pa_cons (pv 3) pa_nil))))
      (pss_one (ps_ret (pe_lst (pa_cons (pe_un un_neg pe_int) pa_nil))))
      pss_nil)
      (pss_one (ps_ret (pe_callF f_meant_numbers (hr.mono (by decide)) rfl (pa_cons (pe_methF (pv 0) T.cl f_decrees_of (hr.mono (by decide)) (pa_cons (pv 3) pa_nil)) (pa_cons (pv 4) pa_nil))))))), ?_⟩
    refine ⟨_, rfl, _, _, rfl, hN, rfl, _, _, rfl, _, _, rfl, rfl, ?_⟩
    refine ⟨_, rfl, h, dx, _, rfl, d.at_, hF_no _ _ (by decide +kernel) (by decide +kernel), _, rfl, h, lp, lk, _, _, rfl, hd, _, rfl, if_2 (fun c => ?_) (fun c => ?_)⟩
    · rw [Bool.not_eq_true'] at c
      rw [if_pos c] at q
      exact ⟨_, rfl, one_le, fun p np => q.now hd np⟩
    rw [Bool.not_eq_false'] at c
    rw [if_neg (by rw [c]; decide)] at q
    exact ⟨_, rfl, h, dx, _, rfl, d.at_, hF_no _ _ (by decide +kernel) (by decide +kernel), _, rfl, h, lp, lk, _, _, rfl, hd, c, fun a ha => ⟨_, rfl, _, _, _, rfl, ha, place_ok I c, q.newL hd⟩⟩
abbrev s_do_change : Stmt := top 70
abbrev N_do_change : List Str := ["house", "numbers", "rows", "place", "moment"]
abbrev P_do_change : List Str := ["house", "numbers", "rows"]
theorem sc_do_change : FnScope N_do_change P_do_change (defScope s_do_change) := ⟨rfl, rfl, rfl, by decide +kernel, rfl, by decide +kernel, by decide +kernel⟩
theorem ok_do_change {f f1 f2 f3 f4 : Addr} (A : FnAt K mg "do_change" s_do_change P_do_change f) (T : Txt K mg C aL aP aR)
    (f_has_place : MtP P w K mg base C 1 "has_place" P_House_has_place (spHasPlace K C) f1)
    (f_is_moment : FnP P w K mg base 1 "is_moment" P_is_moment (spI1 fun n => .bl (Pc.isMoment n)) f2)
    (f_decrees_of : MtP P w K mg base C 1 "decrees_of" P_House_decrees_of (spDecreesOf K C) f3)
    (f_change_numbers : FnP P w K mg base 10 "change_numbers" P_change_numbers (spChange K) f4) : FnP P w K mg base 11 "do_change" P_do_change (spDeed K C 8) f := by
  refine A.ok sc_do_change (fun vs H Q E h => ?_) (fun cdv A outer s H vs Q E hr h => ?_)
  · obtain ⟨_, _, _, _, _, _, _, _, rfl, _⟩ := h
    rfl
  · obtain ⟨h, lp, lk, an, ar, st, ns, rs, rfl, hd, I, hN, hR, ask, q⟩ := h
    obtain ⟨p, m, rfl, rfl⟩ := sh_two (by simp) ask
    replace q : Ends K C H Q h lp lk (Pc.sOf st, Pc.doChange (Pc.sOf st) p m) := q
    unfold Pc.doChange at q
    obtain ⟨dx, xs, ys, d⟩ := hd
    have hd : HouseAt K C H h lp lk (Pc.sOf st) := ⟨dx, xs, ys, d⟩
    refine ⟨_, (pss_cons (ps_asg (pv 1) (pg_unl rfl (pgs_cons (pg_name (i := 3) sc_do_change.nd rfl (Or.inl rfl)) (pgs_cons (pg_name (i := 4) sc_do_change.nd rfl (Or.inl rfl)) pgs_nil))))
      (pss_cons (ps_if (pt_not (pt_val (pe_methF (pv 0) T.cl f_has_place (hr.mono (by decide)) (pa_cons (pv 3) pa_nil))))
      (pss_one (ps_ret (pe_lst (pa_cons (pe_un un_neg pe_int) pa_nil))))
      pss_nil)
      (pss_cons (ps_if (pt_not (pt_val (pe_callF f_is_moment (hr.mono (by decide)) rfl (pa_cons (pv 4) pa_nil))))
      (pss_one (ps_ret (pe_lst (pa_cons (pe_un un_neg pe_int) pa_nil))))
      pss_nil)
      (pss_one (ps_ret (pe_callF f_change_numbers (hr.mono (by decide)) rfl (pa_cons (pe_methF (pv 0) T.cl f_decrees_of (hr.mono (by decide)) (pa_cons (pv 3) pa_nil)) (pa_cons (pv 4) pa_nil)))))))), ?_⟩
    refine ⟨_, rfl, _, _, rfl, hN, rfl, _, _, rfl, _, _, rfl, rfl, ?_⟩
    refine ⟨_, rfl, h, dx, _, rfl, d.at_, hF_no _ _ (by decide +kernel) (by decide +kernel), _, rfl, h, lp, lk, _, _, rfl, hd, _, rfl, if_2 (fun c => ?_) (fun c => ?_)⟩
    · rw [Bool.not_eq_true'] at c
      rw [if_pos c] at q
      exact ⟨_, rfl, one_le, fun p np => q.now hd np⟩
    rw [Bool.not_eq_false'] at c
    rw [if_neg (by rw [c]; decide)] at q
    refine ⟨_, rfl, _, rfl, _, rfl, if_2 (fun c2 => ?_) (fun c2 => ?_)⟩
    · rw [Bool.not_eq_true'] at c2
      rw [if_pos c2] at q
      exact ⟨_, rfl, one_le, fun p np => q.now hd np⟩
    · rw [Bool.not_eq_false'] at c2
      rw [if_neg (by rw [c2]; decide)] at q
      exact ⟨_, rfl, h, dx, _, rfl, d.at_, hF_no _ _ (by decide +kernel) (by decide +kernel), _, rfl, h, lp, lk, _, _, rfl, hd, c, fun a ha => ⟨_, rfl, _, _, _, rfl, ha, place_ok I c, q.newL hd⟩⟩
abbrev s_do_keep : Stmt := top 71
abbrev N_do_keep : List Str := ["house", "numbers", "rows", "place", "shown"]
abbrev P_do_keep : List Str := ["house", "numbers", "rows"]
theorem sc_do_keep : FnScope N_do_keep P_do_keep (defScope s_do_keep) := ⟨rfl, rfl, rfl, by decide +kernel, rfl, by decide +kernel, by decide +kernel⟩
theorem ok_do_keep {f f1 f2 : Addr} (A : FnAt K mg "do_keep" s_do_keep P_do_keep f) (T : Txt K mg C aL aP aR)
    (f_has_place : MtP P w K mg base C 1 "has_place" P_House_has_place (spHasPlace K C) f1)
    (f_add_kept : MtP P w K mg base C 1 "add_kept" P_House_add_kept (spAddKept K C) f2) : FnP P w K mg base 2 "do_keep" P_do_keep (spDeed K C 9) f := by
  refine A.ok sc_do_keep (fun vs H Q E h => ?_) (fun cdv A outer s H vs Q E hr h => ?_)
  · obtain ⟨_, _, _, _, _, _, _, _, rfl, _⟩ := h
    rfl
  · obtain ⟨h, lp, lk, an, ar, st, ns, rs, rfl, hd, I, hN, hR, ask, q⟩ := h
    obtain ⟨p, z, rfl, rfl⟩ := sh_two (by simp) ask
    replace q : Ends K C H Q h lp lk (Pc.doKeep (Pc.sOf st) p z) := q
    unfold Pc.doKeep at q
    obtain ⟨dx, xs, ys, d⟩ := hd
    have hd : HouseAt K C H h lp lk (Pc.sOf st) := ⟨dx, xs, ys, d⟩
    have el := pd_len d.ks
    refine ⟨_, (pss_cons (ps_asg (pv 1) (pg_unl rfl (pgs_cons (pg_name (i := 3) sc_do_keep.nd rfl (Or.inl rfl)) (pgs_cons (pg_name (i := 4) sc_do_keep.nd rfl (Or.inl rfl)) pgs_nil))))
      (pss_cons (ps_if (pt_not (pt_val (pe_methF (pv 0) T.cl f_has_place (hr.mono (by decide)) (pa_cons (pv 3) pa_nil))))
      (pss_one (ps_ret (pe_lst (pa_cons (pe_un un_neg pe_int) pa_nil))))
      pss_nil)
      (pss_cons (ps_if (pt_cmpR op_ge (pe_callB call_len_seq rfl T.b_len PySem.boot_len (pa_cons (pe_fld (pv 0) rfl) pa_nil)) (pe_gI rfl T.c_MOST_KEPT) (nomark _))
      (pss_one (ps_ret (pe_lst (pa_cons (pe_un un_neg pe_int) pa_nil))))
      pss_nil)
      (pss_cons (ps_expr (pe_methF (pv 0) T.cl f_add_kept (hr.mono (by decide)) (pa_cons (pv 3) (pa_cons (pv 4) pa_nil))))
      (pss_one (ps_ret (pe_lst (pa_cons (pe_op op_sub (pe_callB call_len_seq rfl T.b_len PySem.boot_len (pa_cons (pe_fld (pv 0) rfl) pa_nil)) pe_int) pa_nil)))))))), ?_⟩
    refine ⟨_, rfl, _, _, rfl, hN, rfl, _, _, rfl, _, _, rfl, rfl, ?_⟩
    refine ⟨_, rfl, h, dx, _, rfl, d.at_, hF_no _ _ (by decide +kernel) (by decide +kernel), _, rfl, h, lp, lk, _, _, rfl, hd, _, rfl, if_2 (fun c => ?_) (fun c => ?_)⟩
    · rw [Bool.not_eq_true'] at c
      rw [if_pos c] at q
      exact ⟨_, rfl, one_le, fun p np => q.now hd np⟩
    rw [Bool.not_eq_false'] at c
    rw [if_neg (by rw [c]; decide)] at q
    refine ⟨_, rfl, h, C, dx, _, _, rfl, d.at_, T.cl, T.nK, hF_kept _ _, lk, ys, rfl, .inl (.of d.hk), _, _, rfl, rfl, _, rfl, if_2 (fun c2 => ?_) (fun c2 => ?_)⟩
    · rw [if_pos (by have := dec_t c2; omega)] at q
      exact ⟨_, rfl, one_le, fun p np => q.now hd np⟩
    · have few := dec_f c2
      rw [if_neg (by omega)] at q
      refine ⟨_, rfl, h, dx, _, rfl, d.at_, hF_no _ _ (by decide +kernel) (by decide +kernel), _, rfl, _, rfl, h, lp, lk, _, _, _, rfl, hd, by omega, fun H1 k1 d1 => ?_⟩
      obtain ⟨dx1, xs1, ys1, d1'⟩ := d1
      have el1 := pd_len d1'.ks
      refine ⟨_, rfl, h, C, dx1, _, _, rfl, d1'.at_, T.cl, T.nK, hF_kept _ _, lk, ys1, rfl, .inl (.of d1'.hk), _, _, rfl, rfl, one_le, fun n nn => ?_⟩
      have e : (ys1.length : Int) - 1 = ((Pc.sOf st).kept.length : Int) := by
        rw [el1, List.length_append]
        show (((Pc.sOf st).kept.length + 1 : Nat) : Int) - 1 = _
        omega
      show Q (.ref n) (upd H1 n (.lst [.int ((ys1.length : Int) - 1)]))
      rw [e]
      exact q.then k1 ⟨dx1, xs1, ys1, d1'⟩ nn
abbrev s_meant_by_kept : Stmt := top 72
abbrev N_meant_by_kept : List Str := ["house", "number", "place", "shown"]
abbrev P_meant_by_kept : List Str := ["house", "number"]
theorem sc_meant_by_kept : FnScope N_meant_by_kept P_meant_by_kept (defScope s_meant_by_kept) := ⟨rfl, rfl, rfl, by decide +kernel, rfl, by decide +kernel, by decide +kernel⟩
def spByKept (K : PySem.W.Frag) (C : Addr) : Sp := fun vs H Q _ => ∃ h lp lk st k, vs = [.ref h, .int k] ∧ HouseAt K C H h lp lk (Pc.sOf st) ∧ Pc.IOk st ∧ (Pc.sOf st).hasKept k = true ∧ newL H Q (Pc.meantByKept (Pc.sOf st) k)
theorem ok_meant_by_kept {f f1 f2 : Addr} (A : FnAt K mg "meant_by_kept" s_meant_by_kept P_meant_by_kept f) (T : Txt K mg C aL aP aR)
    (f_decrees_of : MtP P w K mg base C 1 "decrees_of" P_House_decrees_of (spDecreesOf K C) f1)
    (f_meant_numbers : FnP P w K mg base 10 "meant_numbers" P_meant_numbers (spMeant K) f2) : FnP P w K mg base 11 "meant_by_kept" P_meant_by_kept (spByKept K C) f := by
  refine A.ok sc_meant_by_kept (fun vs H Q E h => ?_) (fun cdv A outer s H vs Q E hr h => ?_)
  · obtain ⟨_, _, _, _, _, rfl, _⟩ := h
    rfl
  · obtain ⟨h, lp, lk, st, k, rfl, hd, I, hk, q⟩ := h
    obtain ⟨⟨p, z⟩, e, hp, k0, em⟩ := kept_place I hk
    rw [em] at q
    obtain ⟨dx, xs, ys, d⟩ := hd
    have hd : HouseAt K C H h lp lk (Pc.sOf st) := ⟨dx, xs, ys, d⟩
    obtain ⟨v, hv, ⟨r, rfl, hr'⟩⟩ := pd_got d.ks e
    refine ⟨_, (pss_cons (ps_asg (pe_ix ix_list (pe_fld (pv 0) rfl) (pv 1) (fun _ _ => rfl)) (pg_tup rfl (pgs_cons (pg_name (i := 2) sc_meant_by_kept.nd rfl (Or.inl rfl)) (pgs_cons (pg_name (i := 3) sc_meant_by_kept.nd rfl (Or.inl rfl)) pgs_nil))))
      (pss_one (ps_ret (pe_callF f_meant_numbers (hr.mono (by decide)) rfl (pa_cons (pe_methF (pv 0) T.cl f_decrees_of (hr.mono (by decide)) (pa_cons (pv 2) pa_nil)) (pa_cons (pv 3) pa_nil)))))), ?_⟩
    refine ⟨_, rfl, h, C, dx, _, _, rfl, d.at_, T.cl, T.nK, hF_kept _ _, _, rfl, lk, ys, _, _, rfl, rfl, .of d.hk, at_of (j := k.toNat) (by omega) hv, ?_⟩
    refine ⟨_, _, rfl, hr', rfl, _, _, rfl, _, _, rfl, rfl, ?_⟩
    exact ⟨_, rfl, h, dx, _, rfl, d.at_, hF_no _ _ (by decide +kernel) (by decide +kernel), _, rfl, h, lp, lk, _, _, rfl, hd, hp, fun a ha => ⟨_, rfl, _, _, _, rfl, ha, place_ok I hp, q⟩⟩
abbrev s_do_when : Stmt := top 73
abbrev N_do_when : List Str := ["house", "numbers", "rows", "number"]
abbrev P_do_when : List Str := ["house", "numbers", "rows"]
theorem sc_do_when : FnScope N_do_when P_do_when (defScope s_do_when) := ⟨rfl, rfl, rfl, by decide +kernel, rfl, by decide +kernel, by decide +kernel⟩
theorem ok_do_when {f f1 f2 : Addr} (A : FnAt K mg "do_when" s_do_when P_do_when f) (T : Txt K mg C aL aP aR)
    (f_has_kept : MtP P w K mg base C 1 "has_kept" P_House_has_kept (spHasKept K C) f1)
    (f_meant_by_kept : FnP P w K mg base 11 "meant_by_kept" P_meant_by_kept (spByKept K C) f2) : FnP P w K mg base 12 "do_when" P_do_when (spDeed K C 10) f := by
  refine A.ok sc_do_when (fun vs H Q E h => ?_) (fun cdv A outer s H vs Q E hr h => ?_)
  · obtain ⟨_, _, _, _, _, _, _, _, rfl, _⟩ := h
    rfl
  · obtain ⟨h, lp, lk, an, ar, st, ns, rs, rfl, hd, I, hN, hR, ask, q⟩ := h
    obtain ⟨k, rfl, rfl⟩ := sh_one (by simp) ask
    replace q : Ends K C H Q h lp lk (Pc.sOf st, Pc.doWhen (Pc.sOf st) k) := q
    unfold Pc.doWhen at q
    obtain ⟨dx, xs, ys, d⟩ := hd
    have hd : HouseAt K C H h lp lk (Pc.sOf st) := ⟨dx, xs, ys, d⟩
    refine ⟨_, (pss_cons (ps_set (i := 3) sc_do_when.nd rfl (Or.inl rfl) (pe_ix ix_list (pv 1) pe_int (fun _ _ => rfl)))
      (pss_cons (ps_if (pt_not (pt_val (pe_methF (pv 0) T.cl f_has_kept (hr.mono (by decide)) (pa_cons (pv 3) pa_nil))))
      (pss_one (ps_ret (pe_lst (pa_cons (pe_un un_neg pe_int) pa_nil))))
      pss_nil)
      (pss_one (ps_ret (pe_callF f_meant_by_kept (hr.mono (by decide)) rfl (pa_cons (pv 0) (pa_cons (pv 3) pa_nil))))))), ?_⟩
    refine ⟨_, rfl, _, _, _, _, rfl, rfl, hN, atI_nat (j := 0) rfl, ?_⟩
    refine ⟨_, rfl, h, dx, _, rfl, d.at_, hF_no _ _ (by decide +kernel) (by decide +kernel), _, rfl, h, lp, lk, _, _, rfl, hd, _, rfl, if_2 (fun c => ?_) (fun c => ?_)⟩
    · rw [Bool.not_eq_true'] at c
      rw [if_pos c] at q
      exact ⟨_, rfl, one_le, fun p np => q.now hd np⟩
    rw [Bool.not_eq_false'] at c
    rw [if_neg (by rw [c]; decide)] at q
    exact ⟨_, rfl, _, rfl, h, lp, lk, st, _, rfl, hd, I, c, q.newL hd⟩
abbrev s_do_there : Stmt := top 74
abbrev N_do_there : List Str := ["house", "numbers", "rows", "number", "place", "meant"]
abbrev P_do_there : List Str := ["house", "numbers", "rows"]
theorem sc_do_there : FnScope N_do_there P_do_there (defScope s_do_there) := ⟨rfl, rfl, rfl, by decide +kernel, rfl, by decide +kernel, by decide +kernel⟩
theorem ok_do_there {f f1 f2 f3 f4 f5 : Addr} (A : FnAt K mg "do_there" s_do_there P_do_there f) (T : Txt K mg C aL aP aR)
    (f_has_kept : MtP P w K mg base C 1 "has_kept" P_House_has_kept (spHasKept K C) f1)
    (f_has_place : MtP P w K mg base C 1 "has_place" P_House_has_place (spHasPlace K C) f2)
    (f_decrees_of : MtP P w K mg base C 1 "decrees_of" P_House_decrees_of (spDecreesOf K C) f3)
    (f_meant_by_kept : FnP P w K mg base 11 "meant_by_kept" P_meant_by_kept (spByKept K C) f4)
    (f_shows_numbers : FnP P w K mg base 8 "shows_numbers" P_shows_numbers (spShows K) f5) : FnP P w K mg base 12 "do_there" P_do_there (spDeed K C 11) f := by
  refine A.ok sc_do_there (fun vs H Q E h => ?_) (fun cdv A outer s H vs Q E hr h => ?_)
  · obtain ⟨_, _, _, _, _, _, _, _, rfl, _⟩ := h
    rfl
  · obtain ⟨h, lp, lk, an, ar, st, ns, rs, rfl, hd, I, hN, hR, ask, q⟩ := h
    obtain ⟨k, p, rfl, rfl⟩ := sh_two (by simp) ask
    replace q : Ends K C H Q h lp lk (Pc.sOf st, Pc.doThere (Pc.sOf st) k p) := q
    unfold Pc.doThere at q
    obtain ⟨dx, xs, ys, d⟩ := hd
    have hd : HouseAt K C H h lp lk (Pc.sOf st) := ⟨dx, xs, ys, d⟩
    refine ⟨_, (pss_cons (ps_asg (pv 1) (pg_unl rfl (pgs_cons (pg_name (i := 3) sc_do_there.nd rfl (Or.inl rfl)) (pgs_cons (pg_name (i := 4) sc_do_there.nd rfl (Or.inl rfl)) pgs_nil))))
      (pss_cons (ps_if (PW.pt (pw_or (pt_not (pt_val (pe_methF (pv 0) T.cl f_has_kept (hr.mono (by decide)) (pa_cons (pv 3) pa_nil)))) (pw_or1 (pt_not (pt_val (pe_methF (pv 0) T.cl f_has_place (hr.mono (by decide)) (pa_cons (pv 4) pa_nil)))))))
      (pss_one (ps_ret (pe_lst (pa_cons (pe_un un_neg pe_int) pa_nil))))
      pss_nil)
      (pss_cons (ps_set (i := 5) sc_do_there.nd rfl (Or.inl rfl) (pe_callF f_meant_by_kept (hr.mono (by decide)) rfl (pa_cons (pv 0) (pa_cons (pv 3) pa_nil))))
      (pss_cons (ps_if (pt_cmpR op_lt (pe_ix ix_list (pv 5) pe_int (fun _ _ => rfl)) pe_int (nomark _))
      (pss_one (ps_ret (pv 5)))
      pss_nil)
      (pss_one (ps_ret (pe_callF f_shows_numbers (hr.mono (by decide)) rfl (pa_cons (pe_methF (pv 0) T.cl f_decrees_of (hr.mono (by decide)) (pa_cons (pv 4) pa_nil)) (pa_cons (pe_ix ix_list (pv 5) pe_int (fun _ _ => rfl)) pa_nil))))))))), ?_⟩
    refine ⟨_, rfl, _, _, rfl, hN, rfl, _, _, rfl, _, _, rfl, rfl, ?_⟩
    refine ⟨_, rfl, h, dx, _, rfl, d.at_, hF_no _ _ (by decide +kernel) (by decide +kernel), _, rfl, h, lp, lk, _, _, rfl, hd, _, rfl, if_2 (fun c => if_t rfl ?_) (fun c =>
      ⟨_, rfl, h, dx, _, rfl, d.at_, hF_no _ _ (by decide +kernel) (by decide +kernel), _, rfl, h, lp, lk, _, _, rfl, hd, _, rfl, if_2 (fun c2 => ?_) (fun c2 => ?_)⟩)⟩
    · rw [Bool.not_eq_true'] at c
      rw [if_pos (.inl c)] at q
      exact ⟨_, rfl, one_le, fun p np => q.now hd np⟩
    · rw [Bool.not_eq_true'] at c2
      rw [if_pos (.inr c2)] at q
      exact ⟨_, rfl, one_le, fun p np => q.now hd np⟩
    · rw [Bool.not_eq_false'] at c c2
      rw [if_neg (by rw [c, c2]; decide)] at q
      obtain ⟨⟨kp, z⟩, _, _, _, em⟩ := kept_place I c
      have ne := meant_len ((Pc.sOf st).decrees kp) z
      rw [← em] at ne
      clear em
      refine ⟨_, rfl, _, rfl, h, lp, lk, st, _, rfl, hd, I, c, fun H1 n s1 n1 hn => ?_⟩
      generalize Pc.meantByKept (Pc.sOf st) k = M at *
      cases M with
      | nil => exact absurd rfl ne
      | cons m0 M' =>
        rw [show (m0 :: M').headD 0 = m0 from rfl] at q
        have q1 := q.from s1
        have d1 := hd.same s1
        refine ⟨_, rfl, _, _, _, _, rfl, rfl, .of hn, atI_nat (j := 0) rfl, _, _, rfl, rfl, _, rfl, if_2 (fun c3 => ?_) (fun c3 => ?_)⟩
        · rw [if_pos (dec_t c3)] at q
          exact ⟨_, rfl, q H1 n (.of s1) n1 d1 hn⟩
        · rw [if_neg (dec_f c3)] at q1
          obtain ⟨dx1, xs1, ys1, d1'⟩ := d1
          exact ⟨_, rfl, h, dx1, _, rfl, d1'.at_, hF_no _ _ (by decide +kernel) (by decide +kernel), _, rfl, h, lp, lk, _, _, rfl, ⟨dx1, xs1, ys1, d1'⟩, c2, fun a ha => ⟨_, rfl, _, _, _, _, rfl, rfl, .of hn, atI_nat (j := 0) rfl, _, _, _, rfl, ha, (place_ok I c2).ne, q1.newL ⟨dx1, xs1, ys1, d1'⟩⟩⟩
abbrev s_do_ahead : Stmt := top 75
abbrev N_do_ahead : List Str := ["house", "numbers", "rows", "moment", "answer", "decrees"]
abbrev P_do_ahead : List Str := ["house", "numbers", "rows"]
theorem sc_do_ahead : FnScope N_do_ahead P_do_ahead (defScope s_do_ahead) := ⟨rfl, rfl, rfl, by decide +kernel, rfl, by decide +kernel, by decide +kernel⟩
theorem mem_ok {st : Cl02.State} (I : Pc.IOk st) {l : List Pc.D} (h : l ∈ (Pc.sOf st).places) : LOk l := by
  obtain ⟨x, hx, rfl⟩ := List.mem_map.mp h
  exact ⟨x, I.all x hx, rfl⟩
theorem ok_do_ahead {f f1 f2 : Addr} (A : FnAt K mg "do_ahead" s_do_ahead P_do_ahead f) (T : Txt K mg C aL aP aR)
    (f_is_moment : FnP P w K mg base 1 "is_moment" P_is_moment (spI1 fun n => .bl (Pc.isMoment n)) f1)
    (f_ahead_at : FnP P w K mg base 7 "ahead_at" P_ahead_at (spAheadAt K) f2) : FnP P w K mg base 8 "do_ahead" P_do_ahead (spDeed K C 12) f := by
  refine A.ok sc_do_ahead (fun vs H Q E h => ?_) (fun cdv A outer s H vs Q E hr h => ?_)
  · obtain ⟨_, _, _, _, _, _, _, _, rfl, _⟩ := h
    rfl
  · obtain ⟨h, lp, lk, an, ar, st, ns, rs, rfl, hd, I, hN, hR, ask, q⟩ := h
    obtain ⟨u, rfl, rfl⟩ := sh_one (by simp) ask
    replace q : Ends K C H Q h lp lk (Pc.sOf st, Pc.doAhead (Pc.sOf st) u) := q
    unfold Pc.doAhead at q
    obtain ⟨dx, xs, ys, d⟩ := hd
    have hd : HouseAt K C H h lp lk (Pc.sOf st) := ⟨dx, xs, ys, d⟩
    have el := pd_len d.ps
    have few : (Pc.sOf st).places.length ≤ 6 := by
      have := I.few
      simp only [Pc.sOf, List.length_map]
      exact this
    refine ⟨_, (pss_cons (ps_set (i := 3) sc_do_ahead.nd rfl (Or.inl rfl) (pe_ix ix_list (pv 1) pe_int (fun _ _ => rfl)))
      (pss_cons (ps_if (pt_not (pt_val (pe_callF f_is_moment (hr.mono (by decide)) rfl (pa_cons (pv 3) pa_nil))))
      (pss_one (ps_ret (pe_lst (pa_cons (pe_un un_neg pe_int) pa_nil))))
      pss_nil)
      (pss_cons (ps_set (i := 4) sc_do_ahead.nd rfl (Or.inl rfl) (pe_lst (pa_cons (pe_callB call_len_seq rfl T.b_len PySem.boot_len (pa_cons (pe_fld (pv 0) rfl) pa_nil)) pa_nil)))
      (pss_cons (ps_for PassesOwn.never rfl (pi_list (pe_fld (pv 0) rfl)) (pg_name (i := 5) sc_do_ahead.nd rfl (Or.inl rfl))
      (pss_one (ps_expr (pe_bm PySem.F.plainAttrs_list PySem.F.slot_list_append PySem.F.type_list_append mt_append (pv 4) (pa_cons (pe_callF f_ahead_at (hr.mono (by decide)) rfl (pa_cons (pv 5) (pa_cons (pv 3) pa_nil))) pa_nil)))))
      (pss_one (ps_ret (pv 4))))))), ?_⟩
    refine ⟨_, rfl, _, _, _, _, rfl, rfl, hN, atI_nat (j := 0) rfl, _, rfl, _, rfl, _, rfl, if_2 (fun c => ?_) (fun c => ?_)⟩
    · rw [Bool.not_eq_true'] at c
      rw [if_pos c] at q
      exact ⟨_, rfl, one_le, fun p np => q.now hd np⟩
    rw [Bool.not_eq_false'] at c
    rw [if_neg (by rw [c]; decide)] at q
    refine ⟨_, rfl, h, C, dx, _, _, rfl, d.at_, T.cl, T.nP, hF_places _ _, lp, xs, rfl, .inl (.of d.hp), one_le, fun D nD => ?_⟩
    have s0 := same_new (o := .lst [.int (xs.length : Nat)]) nD
    refine ⟨_, rfl, h, C, dx, _, _, rfl, s0 _ _ d.at_, T.cl, T.nP, hF_places _ _, lp, rfl, ⟨_, .of (s0 _ _ d.hp)⟩, for_list (K := K) (a := lp) (xs := xs) (fun i σ H' => ∃ a5, σ = [some (.ref h), some (.ref an), some (.ref ar), some (.int u), some (.ref D), a5] ∧ Same H H' ∧ H' D = some (.lst (.int (xs.length : Nat) :: iV (((Pc.sOf st).places.take i).map fun l => Pc.aheadAt l u))))
      ⟨none, rfl, s0, upd_same⟩ ?_ ?_ ?_⟩
    · rintro i σ H' _ ⟨_, rfl, s, _⟩
      exact .of (s _ _ d.hp)
    · rintro i x σ H' hi ⟨a5, rfl, s, hD⟩
      obtain ⟨l, hl, ⟨a, rfl, _, _, ha⟩⟩ := pd_get d.ps hi
      have ok := mem_ok I (List.mem_of_getElem? hl)
      have small : (V.int (xs.length : Nat) :: iV (((Pc.sOf st).places.take i).map fun l => Pc.aheadAt l u)).length ≤ 7 := by
        unfold iV
        rw [List.length_cons, List.length_map, List.length_map, List.length_take]
        omega
      refine ⟨_, rfl, .inl ⟨rfl, _, SqL.of hD⟩, _, rfl, _, rfl, _, _, _, rfl, ha.same s, ok.ne, D, _, _, rfl, rfl, hD, small_of small (by decide), _, rfl, same_on s nD, ?_⟩
      rw [upd_same, take_next hl, List.map_append]
      unfold iV
      rw [List.map_append]
      rfl
    · rintro σ H' ⟨a5, rfl, s, hD⟩
      rw [el, List.take_length] at hD
      exact ⟨_, rfl, q H' D (.of s) nD (hd.same s) hD⟩
abbrev s_answer_to : Stmt := top 77
abbrev N_answer_to : List Str := ["house", "word", "numbers", "rows", "deed"]
abbrev P_answer_to : List Str := ["house", "word", "numbers", "rows"]
theorem sc_answer_to : FnScope N_answer_to P_answer_to (defScope s_answer_to) := ⟨rfl, rfl, rfl, by decide +kernel, rfl, by decide +kernel, by decide +kernel⟩
def spAnswer (K : PySem.W.Frag) (C : Addr) : Sp := fun vs H Q _ => ∃ h lp lk an ar st, ∃ k : Nat, ∃ ns rs, vs = [.ref h, .int (k : Int), .ref an, .ref ar] ∧ HouseAt K C H h lp lk (Pc.sOf st) ∧ Pc.IOk st ∧ SqL K H an (iV ns) ∧ RowsAt K H ar rs ∧
  k < 13 ∧ Cl02Neutral.asked1 (((k : Int) :: ns) :: rs) = true ∧ Ends K C H Q h lp lk (Pc.deed (Pc.sOf st) (k : Int) ns rs)
/-- a def as one that a slot may hold -/
theorem FnP.held {k j : Nat} {x : Str} {ps : List Str} {sp : Sp} {f : Addr} (F : FnP P w K mg base j x ps sp f) (h : j ≤ k) : Held P w K mg base k f sp := by
  obtain ⟨⟨fd, G, b⟩, _, kp⟩ := F
  exact ⟨fd, ps, G.mono h, kp, b⟩
theorem ok_answer_to {f aD : Addr} {fs : List Addr} (A : FnAt K mg "answer_to" s_answer_to P_answer_to f) (g_DEEDS : mg "DEEDS" = some (.ref aD)) (v_DEEDS : ∀ H : Hp, SqT K H aD (fs.map V.ref))
    (HA : ∀ k : Nat, k < 13 → ∃ g, fs[k]? = some g ∧ Held P w K mg base 12 g (spDeed K C (k : Int))) : FnP P w K mg base 13 "answer_to" P_answer_to (spAnswer K C) f := by
  refine A.ok sc_answer_to (fun vs H Q E h => ?_) (fun cdv A outer s H vs Q E hr h => ?_)
  · obtain ⟨_, _, _, _, _, _, _, _, _, rfl, _⟩ := h
    rfl
  · obtain ⟨h, lp, lk, an, ar, st, k, ns, rs, rfl, hd, I, hN, hR, k13, ask, q⟩ := h
    obtain ⟨g, hg, hh⟩ := HA k k13
    have hv : (fs.map V.ref)[k]? = some (.ref g) := by
      rw [List.getElem?_map, hg]
      rfl
    refine ⟨_, (pss_cons (ps_set (i := 4) sc_answer_to.nd rfl (Or.inl rfl) (pe_ix ix_tup (pe_gR rfl g_DEEDS) (pv 1) (fun _ _ => rfl)))
      (pss_one (ps_ret (pe_callA (i := 4) (k := 12) (S := fun a => if a = g then some (spDeed K C (k : Int)) else none) (fun a sp e => ?_) hr rfl (Or.inl rfl) (pa_cons (pv 0) (pa_cons (pv 2) (pa_cons (pv 3) pa_nil))))))), ?_⟩
    · by_cases c : a = g
      · rw [if_pos c] at e
        rw [← Option.some.inj e, c]
        exact hh
      · rw [if_neg c] at e
        cases e
    · exact ⟨_, rfl, _, _, _, _, rfl, rfl, v_DEEDS _, atI_nat hv, g, _, rfl, if_pos rfl, _, rfl, _, rfl, _, rfl, h, lp, lk, an, ar, st, ns, rs, rfl, hd, I, hN, hR, ask, q⟩
end
end Pw
namespace Pw
open PySem PySem.Spec PyProof.Rows L2
/-! ### the one list, parted -/
theorem cut_at (l : List Int) (i j : Nat) (h1 : i ≤ j) (h2 : j ≤ l.length) : cutV (iV l) (some (i : Int)) (some (j : Int)) = iV ((l.drop i).take (j - i)) := by
  unfold cutV iV
  rw [HT.sIx_nat, HT.sIx_nat, List.length_map, Nat.min_eq_left h2, Nat.min_eq_left (show i ≤ l.length by omega), List.map_take, List.map_drop]
theorem drop_head {α : Type} {l : List α} {i : Nat} {x : α} {r : List α} (h : l.drop i = x :: r) : l[i]? = some x ∧ i < l.length ∧ l.drop (i + 1) = r ∧ r.length = l.length - (i + 1) := by
  have lt : i < l.length := by
    by_cases c : i < l.length
    · exact c
    · rw [List.drop_eq_nil_of_le (by omega)] at h
      cases h
  have k := List.drop_eq_getElem_cons lt
  rw [h] at k
  obtain ⟨k1, k2⟩ := List.cons.inj k
  refine ⟨by rw [List.getElem?_eq_getElem lt, ← k1], lt, k2.symm, ?_⟩
  rw [k2, List.length_drop]
theorem shape_some {p : Int} {n k : Nat} (h : PyCl02.shape p = some (n, k)) : ∃ i : Nat, p = (i : Int) ∧ i < 13 ∧ n ≤ 4 ∧ k ≤ 2 ∧
    (([1, 3, 4, 2, 2, 2, 2, 2, 2, 2, 1, 2, 1] : List Int).map V.int)[i]? = some (.int (n : Int)) ∧ (([0, 0, 2, 0, 0, 0, 0, 0, 0, 0, 0, 0, 0] : List Int).map V.int)[i]? = some (.int (k : Int)) := by
  unfold PyCl02.shape at h
  by_cases c0 : p = 0
  · rw [if_pos c0] at h
    cases h
    exact ⟨0, c0, by decide, by decide, by decide, rfl, rfl⟩
  rw [if_neg c0] at h
  by_cases c1 : p = 1
  · rw [if_pos c1] at h
    cases h
    exact ⟨1, c1, by decide, by decide, by decide, rfl, rfl⟩
  rw [if_neg c1] at h
  by_cases c2 : p = 2
  · rw [if_pos c2] at h
    cases h
    exact ⟨2, c2, by decide, by decide, by decide, rfl, rfl⟩
  rw [if_neg c2] at h
  by_cases c3 : p = 3
  · rw [if_pos c3] at h
    cases h
    exact ⟨3, c3, by decide, by decide, by decide, rfl, rfl⟩
  rw [if_neg c3] at h
  by_cases c4 : p = 4
  · rw [if_pos c4] at h
    cases h
    exact ⟨4, c4, by decide, by decide, by decide, rfl, rfl⟩
  rw [if_neg c4] at h
  by_cases c5 : p = 5
  · rw [if_pos c5] at h
    cases h
    exact ⟨5, c5, by decide, by decide, by decide, rfl, rfl⟩
  rw [if_neg c5] at h
  by_cases c6 : p = 6
  · rw [if_pos c6] at h
    cases h
    exact ⟨6, c6, by decide, by decide, by decide, rfl, rfl⟩
  rw [if_neg c6] at h
  by_cases c7 : p = 7
  · rw [if_pos c7] at h
    cases h
    exact ⟨7, c7, by decide, by decide, by decide, rfl, rfl⟩
  rw [if_neg c7] at h
  by_cases c8 : p = 8
  · rw [if_pos c8] at h
    cases h
    exact ⟨8, c8, by decide, by decide, by decide, rfl, rfl⟩
  rw [if_neg c8] at h
  by_cases c9 : p = 9
  · rw [if_pos c9] at h
    cases h
    exact ⟨9, c9, by decide, by decide, by decide, rfl, rfl⟩
  rw [if_neg c9] at h
  by_cases c10 : p = 10
  · rw [if_pos c10] at h
    cases h
    exact ⟨10, c10, by decide, by decide, by decide, rfl, rfl⟩
  rw [if_neg c10] at h
  by_cases c11 : p = 11
  · rw [if_pos c11] at h
    cases h
    exact ⟨11, c11, by decide, by decide, by decide, rfl, rfl⟩
  rw [if_neg c11] at h
  by_cases c12 : p = 12
  · rw [if_pos c12] at h
    cases h
    exact ⟨12, c12, by decide, by decide, by decide, rfl, rfl⟩
  rw [if_neg c12] at h
  cases h
theorem row_some {l x t : List Int} (h : PyFlat.row l = some (x, t)) : ∃ (n : Nat) (r : List Int), l = (n : Int) :: r ∧ n ≤ r.length ∧ x = r.take n ∧ t = r.drop n := by
  cases l with
  | nil => cases h
  | cons z r =>
    unfold PyFlat.row at h
    dsimp only at h
    by_cases c : 0 ≤ z ∧ z.toNat ≤ r.length
    · rw [if_pos c] at h
      cases h
      exact ⟨z.toNat, r, by rw [Int.toNat_of_nonneg c.1], c.2, rfl, rfl⟩
    · rw [if_neg c] at h
      cases h
theorem rows_some {k : Nat} {l t : List Int} {xs : List (List Int)} (h : PyFlat.rows (k + 1) l = some (xs, t)) : ∃ x s ys, PyFlat.row l = some (x, s) ∧ PyFlat.rows k s = some (ys, t) ∧ xs = x :: ys := by
  unfold PyFlat.rows at h
  cases e : PyFlat.row l with
  | none =>
    rw [e] at h
    cases h
  | some y =>
    obtain ⟨x, s⟩ := y
    rw [e] at h
    dsimp only at h
    cases e2 : PyFlat.rows k s with
    | none =>
      rw [e2] at h
      cases h
    | some z =>
      obtain ⟨ys, t'⟩ := z
      rw [e2] at h
      cases h
      exact ⟨x, s, ys, rfl, e2, rfl⟩
theorem call_some {p : Int} {r t : List Int} {c : List (List Int)} (h : PyFlat.call PyCl02.shape (p :: r) = some (c, t)) : ∃ n k xs, PyCl02.shape p = some (n, k) ∧ n ≤ r.length ∧ PyFlat.rows k (r.drop n) = some (xs, t) ∧ c = (p :: r.take n) :: xs := by
  unfold PyFlat.call at h
  dsimp only at h
  cases e : PyCl02.shape p with
  | none =>
    rw [e] at h
    cases h
  | some y =>
    obtain ⟨n, k⟩ := y
    rw [e] at h
    dsimp only at h
    by_cases q : r.length < n
    · rw [if_pos q] at h
      cases h
    · rw [if_neg q] at h
      cases e2 : PyFlat.rows k (r.drop n) with
      | none =>
        rw [e2] at h
        cases h
      | some z =>
        obtain ⟨xs, t'⟩ := z
        rw [e2] at h
        cases h
        exact ⟨n, k, xs, rfl, by omega, e2, rfl⟩
theorem calls_some {f : Nat} {p : Int} {r : List Int} {cs : List (List (List Int))} (h : PyFlat.calls PyCl02.shape f (p :: r) = some cs) : ∃ g c t ds, PyFlat.call PyCl02.shape (p :: r) = some (c, t) ∧ PyFlat.calls PyCl02.shape g t = some ds ∧ cs = c :: ds := by
  cases f with
  | zero => cases h
  | succ g =>
    unfold PyFlat.calls at h
    cases e : PyFlat.call PyCl02.shape (p :: r) with
    | none =>
      rw [e] at h
      cases h
    | some y =>
      obtain ⟨c, t⟩ := y
      rw [e] at h
      dsimp only at h
      cases e2 : PyFlat.calls PyCl02.shape g t with
      | none =>
        rw [e2] at h
        cases h
      | some ds =>
        rw [e2] at h
        cases h
        exact ⟨g, c, t, ds, rfl, e2, rfl⟩
theorem calls_nil {f : Nat} {cs : List (List (List Int))} (h : PyFlat.calls PyCl02.shape f [] = some cs) : cs = [] := by
  unfold PyFlat.calls at h
  cases h
  rfl
/-- a row of numbers at a place of that kind -/
def RowAt (N : Addr → Prop) (H : Hp) (v : V) (r : List Int) : Prop := ∃ b, v = .ref b ∧ N b ∧ H b = some (.lst (iV r))
/-- a call, its lists at places of that kind -/
def PartAt (N : Addr → Prop) (H : Hp) (v : V) (c : List (List Int)) : Prop := ∃ t p ns rs an ar xs, c = (p :: ns) :: rs ∧ v = .ref t ∧ H t = some (.tup [.int p, .ref an, .ref ar]) ∧ N an ∧ H an = some (.lst (iV ns)) ∧ N ar ∧ H ar = some (.lst xs) ∧ Paired (RowAt N H) xs rs
theorem RowAt.same {N : Addr → Prop} {H H' : Hp} (s : Same H H') {v : V} {r : List Int} (h : RowAt N H v r) : RowAt N H' v r := by
  obtain ⟨b, e, n, x⟩ := h
  exact ⟨b, e, n, s _ _ x⟩
theorem PartAt.same {N : Addr → Prop} {H H' : Hp} (s : Same H H') {v : V} {c : List (List Int)} (h : PartAt N H v c) : PartAt N H' v c := by
  obtain ⟨t, p, ns, rs, an, ar, xs, e1, e2, h1, n1, h2, n2, h3, h4⟩ := h
  exact ⟨t, p, ns, rs, an, ar, xs, e1, e2, s _ _ h1, n1, s _ _ h2, n2, s _ _ h3, pd_mono h4 fun _ _ => RowAt.same s⟩
theorem PartAt.weak {N M : Addr → Prop} (k : ∀ b, N b → M b) {H : Hp} {v : V} {c : List (List Int)} (h : PartAt N H v c) : PartAt M H v c := by
  obtain ⟨t, p, ns, rs, an, ar, xs, e1, e2, h1, n1, h2, n2, h3, h4⟩ := h
  exact ⟨t, p, ns, rs, an, ar, xs, e1, e2, h1, k _ n1, h2, k _ n2, h3, pd_mono h4 fun _ _ ⟨b, e, n, x⟩ => ⟨b, e, k _ n, x⟩⟩
/-- another list is written -/
theorem PartAt.on {N : Addr → Prop} {D : Addr} (k : ∀ b, N b → b ≠ D) {H : Hp} {ws : List V} (hD : H D = some (.lst ws)) {o : HO} {v : V} {c : List (List Int)} (h : PartAt N H v c) : PartAt N (upd H D o) v c := by
  obtain ⟨t, p, ns, rs, an, ar, xs, e1, e2, h1, n1, h2, n2, h3, h4⟩ := h
  refine ⟨t, p, ns, rs, an, ar, xs, e1, e2, ?_, n1, ?_, n2, ?_, pd_mono h4 fun _ _ ⟨b, e, n, x⟩ => ⟨b, e, n, ?_⟩⟩
  · rw [upd_ne (ne_of h1 hD (by intro z; cases z))]
    exact h1
  · rw [upd_ne (k _ n1)]
    exact h2
  · rw [upd_ne (k _ n2)]
    exact h3
  · rw [upd_ne (k _ n)]
    exact x
theorem RowAt.on {N : Addr → Prop} {D : Addr} (k : ∀ b, N b → b ≠ D) {H : Hp} {o : HO} {v : V} {r : List Int} (h : RowAt N H v r) : RowAt N (upd H D o) v r := by
  obtain ⟨b, e, n, x⟩ := h
  refine ⟨b, e, n, ?_⟩
  rw [upd_ne (k _ n)]
  exact x
section
variable {P : Program} {w : World} {K : PySem.W.Frag} {mg : Str → Option Value} {base : Heap} {C aL aP aR : Addr}
abbrev s_parted : Stmt := top 83
abbrev N_parted : List Str := ["calls", "parts", "at", "word", "first", "numbers", "rows", "turn"]
abbrev P_parted : List Str := ["calls"]
theorem sc_parted : FnScope N_parted P_parted (defScope s_parted) := ⟨rfl, rfl, rfl, by decide +kernel, rfl, by decide +kernel, by decide +kernel⟩
def spParted (K : PySem.W.Frag) : Sp := fun vs H Q _ => ∃ a l raw, vs = [.ref a] ∧ SqL K H a (iV l) ∧ l.length ≤ 1400 ∧ PyFlat.calls PyCl02.shape l.length l = some raw ∧
  ∀ H' p us, Same H H' → H p = none → H' p = some (.lst us) → Paired (PartAt (fun b => H b = none) H') us raw → Q (.ref p) H'
theorem ok_parted {f : Addr} (A : FnAt K mg "parted" s_parted P_parted f) (T : Txt K mg C aL aP aR) : FnP P w K mg base 1 "parted" P_parted (spParted K) f := by
  refine A.ok sc_parted (fun vs H Q E h => ?_) (fun cdv A outer s H vs Q E hr h => ?_)
  · obtain ⟨_, _, _, rfl, _⟩ := h
    rfl
  · obtain ⟨a, l, raw, rfl, hS, l14, hraw, q⟩ := h
    refine ⟨_, (pss_cons (ps_set (i := 1) sc_parted.nd rfl (Or.inl rfl) (pe_lst pa_nil))
      (pss_cons (ps_set (i := 2) sc_parted.nd rfl (Or.inl rfl) pe_int)
      (pss_cons (ps_while PassesOwn.never (pt_cmpR op_lt (pv 2) (pe_callB call_len_seq rfl T.b_len PySem.boot_len (pa_cons (pv 0) pa_nil)) (nomark _))
      (pss_cons (ps_set (i := 3) sc_parted.nd rfl (Or.inl rfl) (pe_ix ix_list (pv 0) (pv 2) (fun _ _ => rfl)))
      (pss_cons (ps_set (i := 4) sc_parted.nd rfl (Or.inl rfl) (pe_op op_add (pv 2) pe_int))
      (pss_cons (ps_set (i := 2) sc_parted.nd rfl (Or.inl rfl) (pe_op op_add (pv 4) (pe_ix ix_tup (pe_gR rfl T.g_PLAIN) (pv 3) (fun _ _ => rfl))))
      (pss_cons (ps_set (i := 5) sc_parted.nd rfl (Or.inl rfl) (pe_slice sl_list (pv 0) (po_some (pv 4)) (po_some (pv 2))))
      (pss_cons (ps_set (i := 6) sc_parted.nd rfl (Or.inl rfl) (pe_lst pa_nil))
      (pss_cons (ps_for PassesOwn.never rfl (pi_range1 rfl T.b_range (pa_cons (pe_ix ix_tup (pe_gR rfl T.g_ROWS) (pv 3) (fun _ _ => rfl)) pa_nil)) (pg_name (i := 7) sc_parted.nd rfl (Or.inl rfl))
      (pss_cons (ps_set (i := 4) sc_parted.nd rfl (Or.inl rfl) (pe_op op_add (pv 2) pe_int))
      (pss_cons (ps_set (i := 2) sc_parted.nd rfl (Or.inl rfl) (pe_op op_add (pv 4) (pe_ix ix_list (pv 0) (pe_op op_sub (pv 4) pe_int) (fun _ _ => rfl))))
      (pss_one (ps_expr (pe_bm PySem.F.plainAttrs_list PySem.F.slot_list_append PySem.F.type_list_append mt_append (pv 6) (pa_cons (pe_slice sl_list (pv 0) (po_some (pv 4)) (po_some (pv 2))) pa_nil)))))))
      (pss_one (ps_expr (pe_bm PySem.F.plainAttrs_list PySem.F.slot_list_append PySem.F.type_list_append mt_append (pv 1) (pa_cons (pe_tup (pa_cons (pv 3) (pa_cons (pv 5) (pa_cons (pv 6) pa_nil)))) pa_nil)))))))))))
      (pss_one (ps_ret (pv 1)))))), ?_⟩
    refine ⟨Nat.zero_le _, fun D nD => ?_⟩
    -- while at < len(calls)
    refine ⟨fun m σ H' => ∃ (i : Nat) (g : Nat) (done rest : List (List (List Int))) (ws : List V) (a3 a4 a5 a6 a7 : Option V), σ = [some (.ref a), some (.ref D), some (.int (i : Int)), a3, a4, a5, a6, a7] ∧ i + m = l.length ∧ PyFlat.calls PyCl02.shape g (l.drop i) = some rest ∧ raw = done ++ rest ∧ done.length ≤ i ∧ Same H H' ∧ H' D = some (.lst ws) ∧ Paired (PartAt (fun b => H b = none ∧ b ≠ D) H') ws done,
      ⟨l.length, 0, _, [], raw, [], none, none, none, none, none, rfl, by omega, hraw, rfl, Nat.le_refl _, same_new nD, upd_same, .nil⟩, ?_⟩
    rintro m σ H' ⟨i, g, done, rest, ws, a3, a4, a5, a6, a7, rfl, im, hc, er, dl, s1, hD, hW⟩
    have hS1 := s1.seq hS
    refine ⟨_, rfl, _, rfl, a, _, rfl, .inl hS1, _, _, rfl, rfl, _, rfl, if_2 (fun c => ?_) (fun c => ?_)⟩
    · have lt : i < l.length := by
        have := dec_t c
        unfold iV at this
        rw [List.length_map] at this
        omega
      obtain ⟨p, r, hpr⟩ : ∃ p r, l.drop i = p :: r := ⟨_, _, List.drop_eq_getElem_cons lt⟩
      rw [hpr] at hc
      obtain ⟨g', c0, t, ds, hcall, hrest, rfl⟩ := calls_some hc
      obtain ⟨n, k, xs, hsh, hn, hrows, rfl⟩ := call_some hcall
      obtain ⟨hp1, _, hp3, hp4⟩ := drop_head hpr
      obtain ⟨pi, rfl, p13, n4, k2, hP, hR⟩ := shape_some hsh
      refine ⟨fun σ' H'' => ∃ (i' : Nat) (ws' : List V) (b3 b4 b5 b6 b7 : Option V), σ' = [some (.ref a), some (.ref D), some (.int (i' : Int)), b3, b4, b5, b6, b7] ∧ i < i' ∧ i' ≤ l.length ∧ l.drop i' = t ∧ Same H H'' ∧ H'' D = some (.lst ws') ∧ Paired (PartAt (fun b => H b = none ∧ b ≠ D) H'') ws' (done ++ [((pi : Int) :: r.take n) :: xs]), ?_, ?_⟩
      · rintro σ' H'' ⟨i', ws', b3, b4, b5, b6, b7, rfl, ii, il, et, s2, hD2, hW2⟩
        refine ⟨l.length - i', by omega, i', g', _, ds, ws', b3, b4, b5, b6, b7, rfl, by omega, ?_, ?_, ?_, s2, hD2, hW2⟩
        · rw [et]
          exact hrest
        · rw [er, List.append_assoc]
          rfl
        · rw [List.length_append]
          show done.length + 1 ≤ i'
          omega
      · -- word, first, at, numbers
        have hw : (iV l)[i]? = some (.int (pi : Int)) := by
          unfold iV
          rw [List.getElem?_map, hp1]
          rfl
        refine ⟨_, rfl, _, rfl, _, _, _, _, rfl, rfl, hS1, atI_nat hw, ?_⟩
        refine ⟨_, rfl, _, _, rfl, rfl, ?_⟩
        refine ⟨_, rfl, _, rfl, _, _, _, _, rfl, rfl, T.v_PLAIN _, atI_nat hP, _, _, rfl, rfl, ?_⟩
        refine ⟨_, rfl, _, rfl, _, rfl, _, rfl, _, rfl, a, _, rfl, hS1, fun bn nb => ?_⟩
        have ecut : cutV (iV l) (some ((i : Int) + 1)) (some ((i : Int) + 1 + (n : Int))) = iV (r.take n) := by
          have := cut_at l (i + 1) (i + 1 + n) (by omega) (by omega)
          rw [hp3, show i + 1 + n - (i + 1) = n by omega] at this
          rw [← this]
          congr 2 <;> omega
        rw [ecut]
        have s12 := same_new (o := .lst (iV (r.take n))) nb
        have s2 := s1.trans s12
        have hD2 := s12 _ _ hD
        have hW2 := pd_mono hW fun _ _ => PartAt.same s12
        have hbn : (upd H' bn (.lst (iV (r.take n)))) bn = some (.lst (iV (r.take n))) := upd_same
        have nb0 : H bn = none ∧ bn ≠ D := ⟨s1.free nb, fun e => by
          rw [e, hD] at nb
          cases nb⟩
        clear s12
        generalize upd H' bn (.lst (iV (r.take n))) = H2 at *
        -- rows = []
        refine ⟨Nat.zero_le _, fun R nR => ?_⟩
        have s23 := same_new (o := .lst []) nR
        have s3 := s2.trans s23
        have hR3 : (upd H2 R (.lst [])) R = some (.lst []) := upd_same
        have nR0 : H R = none ∧ R ≠ D := ⟨s2.free nR, fun e => by
          rw [e, hD2] at nR
          cases nR⟩
        generalize upd H2 R (.lst []) = H3 at *
        -- the rows
        refine ⟨_, rfl, _, _, _, _, rfl, rfl, T.v_ROWS _, atI_nat hR, (k : Int), rfl, by omega, by omega, ?_⟩
        refine for_range (fun j σ' H'' => ∃ (i' : Nat) (todo : List (List Int)) (us : List V) (b4 b7 : Option V), σ' = [some (.ref a), some (.ref D), some (.int (i' : Int)), some (.int (pi : Int)), b4, some (.ref bn), some (.ref R), b7] ∧ i < i' ∧ i' ≤ l.length ∧ j ≤ k ∧ PyFlat.rows (k - j) (l.drop i') = some (todo, t) ∧ xs.drop j = todo ∧ Same H H'' ∧ Same H2 H'' ∧ H'' R = some (.lst us) ∧ Paired (RowAt (fun b => (H b = none ∧ b ≠ D) ∧ b ≠ R) H'') us (xs.take j))
          ⟨i + 1 + n, xs, [], some (.int ((i : Int) + 1)), a7, ?_, by omega, by omega, Nat.zero_le _, ?_, rfl, s3, s23, hR3, .nil⟩ ?_ ?_
        · rw [show ((i + 1 + n : Nat) : Int) = (i : Int) + 1 + (n : Int) by omega]
          rfl
        · rw [← List.drop_drop, hp3]
          exact hrows
        · rintro j σ' H'' hj ⟨i', todo, us, b4, b7, rfl, ii, il, jk, hrw, etodo, sA, sB, hRR, hRW⟩
          have jk' : j < k := by omega
          rw [show k - j = (k - (j + 1)) + 1 by omega] at hrw
          obtain ⟨x, s', ys, hrow, hrows', rfl⟩ := rows_some hrw
          obtain ⟨nn, r', hr1, hr2, rfl, rfl⟩ := row_some hrow
          obtain ⟨g1, g2, g3, g4⟩ := drop_head hr1
          obtain ⟨x1, x2, x3, _⟩ := drop_head etodo
          have hS3 := sA.seq hS
          have hnn : (iV l)[i']? = some (.int (nn : Int)) := by
            unfold iV
            rw [List.getElem?_map, g1]
            rfl
          have us2 : us.length ≤ 2 := by
            rw [pd_len hRW, List.length_take]
            omega
          refine ⟨_, rfl, _, _, rfl, rfl, ?_⟩
          refine ⟨_, rfl, _, rfl, _, rfl, _, _, rfl, rfl, _, _, _, _, rfl, rfl, hS3, at_of (j := i') (by omega) hnn, _, _, rfl, rfl, ?_⟩
          refine ⟨_, rfl, .inl ⟨rfl, _, SqL.of hRR⟩, _, rfl, _, rfl, _, rfl, _, rfl, _, rfl, a, _, rfl, hS3, fun br nbr => ?_⟩
          have ecut2 : cutV (iV l) (some ((i' : Int) + 1)) (some ((i' : Int) + 1 + (nn : Int))) = iV (r'.take nn) := by
            have := cut_at l (i' + 1) (i' + 1 + nn) (by omega) (by omega)
            rw [g3, show i' + 1 + nn - (i' + 1) = nn by omega] at this
            rw [← this]
            congr 2 <;> omega
          rw [ecut2]
          have sN := same_new (o := .lst (iV (r'.take nn))) nbr
          have hRR' := sN _ _ hRR
          have nbr0 : (H br = none ∧ br ≠ D) ∧ br ≠ R := by
            refine ⟨⟨sA.free nbr, fun e => ?_⟩, fun e => ?_⟩
            · rw [e, sB _ _ hD2] at nbr
              cases nbr
            · rw [e, hRR] at nbr
              cases nbr
          refine ⟨R, us, _, rfl, rfl, hRR', small_of us2 (by decide), i' + 1 + nn, ys, us ++ [.ref br], some (.int ((i' : Int) + 1)), some (.int (0 + (j : Int))), ?_, by omega, by omega, by omega, ?_, x3, same_on (sA.trans sN) nR0.1, same_on (sB.trans sN) nR, upd_same, ?_⟩
          · rw [show ((i' + 1 + nn : Nat) : Int) = (i' : Int) + 1 + (nn : Int) by omega]
            rfl
          · rw [← List.drop_drop, g3]
            exact hrows'
          · rw [take_next x1]
            exact pd_app (pd_mono hRW fun _ _ h => RowAt.on (fun b z => z.2) (RowAt.same sN h)) (pd_one (RowAt.on (fun b z => z.2) ⟨br, rfl, nbr0, upd_same⟩))
        · rintro σ' H'' ⟨i', todo, us, b4, b7, rfl, ii, il, jk, hrw, etodo, sA, sB, hRR, hRW⟩
          rw [show k - (k : Int).toNat = 0 by omega] at hrw
          cases hrw
          have ek : xs.take (k : Int).toNat = xs := by
            rw [Int.toNat_natCast] at etodo ⊢
            have := List.take_append_drop k xs
            rw [etodo, List.append_nil] at this
            exact this
          rw [ek] at hRW
          have hDB := sB _ _ hD2
          refine ⟨_, rfl, .inl ⟨rfl, _, SqL.of hDB⟩, _, rfl, _, rfl, _, rfl, line_le (m := 3) (by exact Nat.le_refl _) (by decide), fun tt nt => ?_⟩
          have sN := same_new (o := .tup [.int (pi : Int), .ref bn, .ref R]) nt
          have hDN := sN _ _ hDB
          have part : PartAt (fun b => H b = none ∧ b ≠ D) (upd H'' tt (.tup [.int (pi : Int), .ref bn, .ref R])) (.ref tt) (((pi : Int) :: r.take n) :: xs) :=
            ⟨tt, _, _, _, bn, R, us, rfl, rfl, upd_same, nb0, sN _ _ (sB _ _ hbn), nR0, sN _ _ hRR, pd_mono hRW fun _ _ ⟨b, e, y, x⟩ => ⟨b, e, y.1, sN _ _ x⟩⟩
          refine ⟨D, ws, _, rfl, rfl, hDN, small_of (m := 1400) (by rw [pd_len hW2]; omega) (by decide), i', _, _, _, _, _, _, rfl, ii, il, rfl, same_on (sA.trans sN) nD, upd_same, ?_⟩
          exact pd_app (pd_mono hW2 fun _ _ h => PartAt.on (fun b z => z.2) hDN (PartAt.same sN (PartAt.same sB h))) (pd_one (PartAt.on (fun b z => z.2) hDN part))
    · have ge : l.length ≤ i := by
        have := dec_f c
        unfold iV at this
        rw [List.length_map] at this
        omega
      rw [List.drop_eq_nil_of_le ge] at hc
      rw [calls_nil hc, List.append_nil] at er
      rw [er] at q
      exact ⟨_, rfl, q H' D ws s1 nD hD (pd_mono hW fun _ _ => PartAt.weak fun b z => z.1)⟩
end
end Pw
namespace Pw
open PySem PySem.Spec PyProof.Rows L2
/-! ### the calls, one behind another -/
theorem run_succ {raw : List (List (List Int))} {i : Nat} {c : List (List Int)} (h : raw[i]? = some c) : Pc.run (raw.take (i + 1)) = Pc.turn (Pc.run (raw.take i)) c := by
  unfold Pc.run
  rw [take_next h, List.foldl_append]
  rfl
theorem state_succ {raw : List (List (List Int))} {i : Nat} {c : List (List Int)} (h : raw[i]? = some c) : Pc.stateAt raw (i + 1) = (Cl02Neutral.step (Pc.stateAt raw i) c).1 := by
  unfold Pc.stateAt
  rw [take_next h, List.foldl_append]
  rfl
theorem run_at {raw : List (List (List Int))} (h : raw.all Cl02Neutral.asked1 = true) (i : Nat) : Pc.IOk (Pc.stateAt raw i) ∧ (Pc.run (raw.take i)).1 = Pc.sOf (Pc.stateAt raw i) :=
  Pc.run_state (raw.take i) [] Pc.IOk.init (List.all_eq_true.mpr fun c hc => List.all_eq_true.mp h c (List.mem_of_mem_take hc))
theorem told_grows : ∀ (cs : List (List (List Int))) (x : Pc.S × List Int), x.2.length ≤ (cs.foldl Pc.turn x).2.length
  | [], _ => Nat.le_refl _
  | c :: cs, x => by
    rw [List.foldl_cons]
    refine Nat.le_trans ?_ (told_grows cs _)
    unfold Pc.turn
    rw [List.length_append]
    omega
theorem run_le (raw : List (List (List Int))) (i : Nat) : (Pc.run (raw.take i)).2.length ≤ (Pc.run raw).2.length := by
  have e : Pc.run raw = (raw.drop i).foldl Pc.turn (Pc.run (raw.take i)) := by
    unfold Pc.run
    rw [← List.foldl_append, List.take_append_drop]
  rw [e]
  exact told_grows _ _
/-- a list of numbers is written: it is none of the house's lists -/
theorem HouseAt.on {K : PySem.W.Frag} {C : Addr} {H : Hp} {h lp lk D : Addr} {s : Pc.S} {A : List Int} {ws : List V} (d : HouseAt K C H h lp lk s) (ne : ∀ l ∈ s.places, l ≠ []) (hD : H D = some (.lst (iV A))) (n1 : D ≠ lp) (n2 : D ≠ lk) : HouseAt K C (upd H D (.lst ws)) h lp lk s := by
  obtain ⟨dx, xs, ys, d⟩ := d
  have k : Keep D D H (upd H D (.lst ws)) := keep_upd
  refine ⟨dx, xs, ys, ?_, ?_, ?_, d.ne, ?_, pd_mono d.ks fun v p ⟨r, e, t⟩ => ⟨r, e, k.tup t hD hD⟩⟩
  · rw [upd_ne (ne_of d.at_ hD (by intro z; cases z))]
    exact d.at_
  · rw [upd_ne n1.symm]
    exact d.hp
  · rw [upd_ne n2.symm]
    exact d.hk
  · have go : ∀ {xs : List V} {ls : List (List Pc.D)}, Paired (PlaceAt K H lp lk) xs ls → (∀ l ∈ ls, l ≠ []) → Paired (PlaceAt K (upd H D (.lst ws)) lp lk) xs ls := by
      intro xs ls p
      induction p with
      | nil => exact fun _ => .nil
      | @cons v l xs ls r _ ih =>
        intro ne
        refine .cons ?_ (ih fun z hz => ne z (List.mem_cons_of_mem _ hz))
        obtain ⟨a, rfl, m1, m2, us, ha, hu⟩ := r
        have na : a ≠ D := by
          refine ne_of ha hD fun z => ?_
          cases hu with
          | nil => exact ne _ (List.mem_cons_self ..) rfl
          | cons r1 _ =>
            obtain ⟨r, b, e, rfl, _⟩ := r1
            cases A with
            | nil => cases z
            | cons x A => cases z
        exact ⟨a, rfl, m1, m2, us, by rw [upd_ne na]; exact ha, pd_mono hu fun _ _ => DecAt.keep k hD hD⟩
    exact go d.ps ne
/-- a new instance -/
def tMk (C : Addr) (sp : Sp) : TE := fun _ H Q => ∀ x dx, H x = none → H dx = none → dx ≠ x → sp [.ref x] (upd (upd H dx (.own x)) x (.ins C dx [])) (fun v H2 => v = .non ∧ Q (.ref x) H2) E0
theorem pe_makeF {X : Cx} {k : Nat} {f C : Addr} {ps : List Str} {sp : Sp} {x : Str} {p pos : Pos} (M : Mk X.K C f) (F : MtP X.prog X.w X.K X.mg X.base C k "__init__" ps sp f) (hr : Room (k + 1) X.A) (hg : Gl X x) (hm : X.mg x = some (.ref C))
    (hdb : (x == ("__debug__" : Str)) = false := by decide) : PE X (.Call (.Name x p) [] [] pos) (tMk C sp) := by
  obtain ⟨⟨fd, G, b⟩, _⟩ := F
  exact pe_make0 M G hr hg hm b .nil pass0 hdb
section
variable {P : Program} {w : World} {K : PySem.W.Frag} {mg : Str → Option Value} {base : Heap} {C aL aP aR : Addr}
abbrev s_answers : Stmt := top 84
abbrev N_answers : List Str := ["calls", "house", "told", "word", "numbers", "rows", "answer"]
abbrev P_answers : List Str := ["calls"]
theorem sc_answers : FnScope N_answers P_answers (defScope s_answers) := ⟨rfl, rfl, rfl, by decide +kernel, rfl, by decide +kernel, by decide +kernel⟩
def spAns (K : PySem.W.Frag) : Sp := fun vs H Q _ => ∃ a l, vs = [.ref a] ∧ SqL K H a (iV l) ∧ l.length ≤ 1400 ∧ PyCl02.answers_asked l = true ∧ ∀ H' p, H' p = some (.lst (iV (PyCl02.answers l))) → Q (.ref p) H'
theorem ok_answers {f fI f1 f2 : Addr} {fd : FuncData} (A : Fun K "answers" "answers" s_answers f fd) (T : Txt K mg C aL aP aR) (HM : Mk K C fI) (g_House : mg "House" = some (.ref C))
    (f_init : MtP P w K mg base C 1 "__init__" P_House___init__ (spInit K C) fI)
    (f_parted : FnP P w K mg base 1 "parted" P_parted (spParted K) f1)
    (f_answer_to : FnP P w K mg base 13 "answer_to" P_answer_to (spAnswer K C) f2) : FnOk P w K mg base CX0 14 f fd P_answers (spAns K) := by
  refine A.ok sc_answers (fun vs H Q E h => ?_) (fun cdv A outer s H vs Q E hr h => ?_)
  · obtain ⟨_, _, rfl, _⟩ := h
    rfl
  · obtain ⟨a, l, rfl, hS, l14, ask, q⟩ := h
    obtain ⟨raw, hraw, r60, hall, hlen⟩ := Pc.asked_parts ask
    have erun := Pc.run_eq hraw hall
    rw [← erun] at q hlen
    refine ⟨_, (pss_cons (ps_set (i := 1) sc_answers.nd rfl (Or.inl rfl) (pe_makeF HM f_init (hr.mono (by decide)) rfl g_House))
      (pss_cons (ps_set (i := 2) sc_answers.nd rfl (Or.inl rfl) (pe_lst pa_nil))
      (pss_cons (ps_for PassesOwn.never rfl (pi_list (pe_callF f_parted (hr.mono (by decide)) rfl (pa_cons (pv 0) pa_nil))) (pg_tup rfl (pgs_cons (pg_name (i := 3) sc_answers.nd rfl (Or.inl rfl)) (pgs_cons (pg_name (i := 4) sc_answers.nd rfl (Or.inl rfl)) (pgs_cons (pg_name (i := 5) sc_answers.nd rfl (Or.inl rfl)) pgs_nil))))
      (pss_cons (ps_set (i := 6) sc_answers.nd rfl (Or.inl rfl) (pe_callF f_answer_to (hr.mono (by decide)) rfl (pa_cons (pv 1) (pa_cons (pv 3) (pa_cons (pv 4) (pa_cons (pv 5) pa_nil))))))
      (pss_cons (ps_expr (pe_bm PySem.F.plainAttrs_list PySem.F.slot_list_append PySem.F.type_list_append mt_append (pv 2) (pa_cons (pe_callB call_len_seq rfl T.b_len PySem.boot_len (pa_cons (pv 6) pa_nil)) pa_nil)))
      (pss_one (ps_expr (pe_bm PySem.F.plainAttrs_list PySem.F.slot_list_extend PySem.F.type_list_extend mt_extend (pv 2) (pa_cons (pv 6) pa_nil)))))))
      (pss_one (ps_ret (pv 2)))))), ?_⟩
    -- house = House()
    intro x dx nx ndx nex
    refine ⟨x, dx, rfl, upd_same, fun H1 lp lk k1 nlp nlk d1 => ⟨rfl, ?_⟩⟩
    have s1 : Same H H1 := Same.made nx ndx k1
    -- told = []
    refine ⟨Nat.zero_le _, fun D nD => ?_⟩
    obtain ⟨dx1, xs1, ys1, d1'⟩ := d1
    have s2 := same_new (o := .lst []) nD
    have hD2 : (upd H1 D (.lst [])) D = some (.lst []) := upd_same
    have d2 : HouseAt K C (upd H1 D (.lst [])) x lp lk Pc.S.init := HouseAt.same s2 ⟨dx1, xs1, ys1, d1'⟩
    have nDp : D ≠ lp := fun e => by
      rw [e, d1'.hp] at nD
      cases nD
    have nDk : D ≠ lk := fun e => by
      rw [e, d1'.hk] at nD
      cases nD
    have s12 := s1.trans s2
    clear s2
    generalize upd H1 D (.lst []) = H2 at *
    -- for word, numbers, rows in parted(calls)
    refine ⟨_, rfl, a, l, raw, rfl, s12.seq hS, l14, hraw, fun H3 pp us s3 np hp hW => ?_⟩
    have d3 := HouseAt.same s3 d2
    obtain ⟨dx2, xs2, ys2, d2'⟩ := d2
    have hp3 := s3 _ _ d2'.hp
    have hk3 := s3 _ _ d2'.hk
    have hD3 := s3 _ _ hD2
    have apart : ∀ b, H2 b = none → b ≠ lp ∧ b ≠ lk ∧ b ≠ D := by
      intro b n
      refine ⟨fun e => ?_, fun e => ?_, fun e => ?_⟩
      · rw [e, d2'.hp] at n
        cases n
      · rw [e, d2'.hk] at n
        cases n
      · rw [e, hD2] at n
        cases n
    have el := pd_len hW
    refine ⟨pp, rfl, ⟨us, .of hp⟩, for_list (K := K) (a := pp) (xs := us) (fun i σ H' => ∃ a3 a4 a5 a6, σ = [some (.ref a), some (.ref x), some (.ref D), a3, a4, a5, a6] ∧ (∀ b o, H3 b = some o → b ≠ lp → b ≠ lk → b ≠ D → H' b = some o) ∧
        HouseAt K C H' x lp lk (Pc.sOf (Pc.stateAt raw i)) ∧ H' D = some (.lst (iV (Pc.run (raw.take i)).2)))
      ⟨none, none, none, none, rfl, fun b o e _ _ _ => e, d3, hD3⟩ ?_ ?_ ?_⟩
    · rintro i σ H' _ ⟨_, _, _, _, rfl, k, _, _⟩
      obtain ⟨n1, n2, n3⟩ := apart pp np
      exact .of (k _ _ hp n1 n2 n3)
    · rintro i v σ H' hi ⟨a3, a4, a5, a6, rfl, k, hd, hD⟩
      obtain ⟨c, hc, ⟨t, pz, ns, rs, an, ar, xs, rfl, rfl, ht, nan, han, nar, har, hrs⟩⟩ := pd_get hW hi
      have ask1 := List.all_eq_true.mp hall _ (List.mem_of_getElem? hc)
      obtain ⟨kw, ns', rs', k13, ec⟩ := sh_word ask1
      obtain ⟨e1, rfl⟩ := List.cons.inj ec
      obtain ⟨rfl, rfl⟩ := List.cons.inj e1
      obtain ⟨I, er⟩ := run_at hall i
      have ht' := k _ _ ht (ne_of ht hp3 (by intro z; cases z)) (ne_of ht hk3 (by intro z; cases z)) (ne_of ht hD3 (by intro z; cases z))
      obtain ⟨m1, m2, m3⟩ := apart an nan
      have han' := k _ _ han m1 m2 m3
      obtain ⟨m4, m5, m6⟩ := apart ar nar
      have har' := k _ _ har m4 m5 m6
      have hR : RowsAt K H' ar rs := ⟨xs, .of har', pd_mono hrs fun v r ⟨b, e, n, y⟩ => ⟨b, e, .of (k _ _ y (apart b n).1 (apart b n).2.1 (apart b n).2.2)⟩⟩
      refine ⟨_, _, rfl, .of ht', rfl, _, _, rfl, _, _, rfl, _, _, rfl, rfl, ?_⟩
      refine ⟨_, rfl, _, rfl, _, rfl, _, rfl, x, lp, lk, an, ar, Pc.stateAt raw i, kw, ns, rs, rfl, hd, I, .of han', hR, k13, ask1, fun H4 m k4 nm d4 hm => ?_⟩
      have hD4 := k4 _ _ hD nDp nDk
      have nmD : m ≠ D := fun e => by
        rw [e, hD] at nm
        cases nm
      have step := run_succ hc
      have ecall : Pc.callOf (Pc.run (raw.take i)).1 (((kw : Int) :: ns) :: rs) = Pc.deed (Pc.sOf (Pc.stateAt raw i)) (kw : Int) ns rs := by
        rw [er]
        rfl
      have etold : (Pc.run (raw.take (i + 1))).2 = (Pc.run (raw.take i)).2 ++ (((Pc.deed (Pc.sOf (Pc.stateAt raw i)) (kw : Int) ns rs).2.length : Int) :: (Pc.deed (Pc.sOf (Pc.stateAt raw i)) (kw : Int) ns rs).2) := by
        rw [step]
        unfold Pc.turn
        rw [ecall]
      have big : (Pc.run (raw.take (i + 1))).2.length ≤ 10000000 := Nat.le_trans (run_le raw (i + 1)) hlen
      have big2 : (Pc.run (raw.take i)).2.length + ((Pc.deed (Pc.sOf (Pc.stateAt raw i)) (kw : Int) ns rs).2.length + 1) ≤ 10000000 := by
        rw [etold, List.length_append, List.length_cons] at big
        exact big
      have estate : (Pc.deed (Pc.sOf (Pc.stateAt raw i)) (kw : Int) ns rs).1 = Pc.sOf (Pc.stateAt raw (i + 1)) := by
        rw [state_succ hc]
        have g := (Pc.goes I ask1).1
        exact congrArg Prod.fst g
      rw [estate] at d4
      have la : (iV (Pc.run (raw.take i)).2).length = (Pc.run (raw.take i)).2.length := List.length_map ..
      have lm : (iV (Pc.deed (Pc.sOf (Pc.stateAt raw i)) (kw : Int) ns rs).2).length = (Pc.deed (Pc.sOf (Pc.stateAt raw i)) (kw : Int) ns rs).2.length := List.length_map ..
      -- told.append(len(answer)); told.extend(answer)
      refine ⟨_, rfl, .inl ⟨rfl, _, SqL.of hD4⟩, _, rfl, m, _, rfl, .inl (.of hm), D, _, _, rfl, rfl, hD4, small_of (m := 10000000) (by rw [la]; omega) (by decide), ?_⟩
      refine ⟨_, rfl, .inl ⟨rfl, _, SqL.of upd_same⟩, _, rfl, D, m, _, _, rfl, rfl, upd_same, (upd_ne nmD).trans hm, line_le (m := 10000000) (by rw [List.length_append, la, lm]; show _ + 1 + _ ≤ _; omega) (by decide), ?_⟩
      have s4 : ∀ b o, H4 b = some o → b ≠ D → (upd (upd H4 D (.lst (iV (Pc.run (raw.take i)).2 ++ [.int ((iV (Pc.deed (Pc.sOf (Pc.stateAt raw i)) (kw : Int) ns rs).2).length : Nat)]))) D
          (.lst (iV (Pc.run (raw.take i)).2 ++ [.int ((iV (Pc.deed (Pc.sOf (Pc.stateAt raw i)) (kw : Int) ns rs).2).length : Nat)] ++ iV (Pc.deed (Pc.sOf (Pc.stateAt raw i)) (kw : Int) ns rs).2))) b = some o := fun b o e n => by
        rw [upd_ne n, upd_ne n]
        exact e
      refine ⟨_, _, _, _, rfl, fun b o e n1 n2 n3 => s4 _ _ (k4 _ _ (k _ _ e n1 n2 n3) n1 n2) n3, ?_, ?_⟩
      · rw [upd_upd]
        exact HouseAt.on d4 (fun z hz => (mem_ok (run_at hall (i + 1)).1 hz).ne) hD4 nDp nDk
      · rw [upd_same, etold, lm]
        unfold iV
        rw [List.map_append, List.append_assoc]
        rfl
    · rintro σ H' ⟨a3, a4, a5, a6, rfl, k, hd, hD⟩
      rw [el, List.take_length] at hD
      exact ⟨_, rfl, q H' D hD⟩
end
end Pw
namespace Pw
open PySem PySem.Spec PyProof.Rows L2
section
variable {P : Program} {w : World} {K : PySem.W.Frag} {mg : Str → Option Value} {h : Heap} {C : Addr}
/-- what the top has written of a def -/
def FnFact (K : PySem.W.Frag) (x q : Str) (st : Stmt) (f : Addr) : Prop := ∃ (oc : Value) (od an : Option Addr) (osl : Array (Option Value)) (kV doc pm cdv ct : Value),
  K.lookup f = some ⟨oc, od, .func (PySem.W.fnOf x q (defArgs st) (defBody st) (defScope st) .none kV doc pm an cdv ct), osl⟩ ∧ PySem.W.codeIn K cdv q = true ∧ PySem.W.keepIn K (.ref f) = true
theorem fnFact {x q : Str} {st : Stmt} {f : Addr} {oc : Value} {od an : Option Addr} {osl : Array (Option Value)} {kV doc pm cdv ct : Value} (l : K.lookup f = some ⟨oc, od, .func (PySem.W.fnOf x q (defArgs st) (defBody st) (defScope st) .none kV doc pm an cdv ct), osl⟩)
    (c : PySem.W.codeIn K cdv q = true) (k : PySem.W.keepIn K (.ref f) = true) : FnFact K x q st f := ⟨oc, od, an, osl, kV, doc, pm, cdv, ct, l, c, k⟩
def BindOk (x q : Str) (st : Stmt) (ps : List Str) : Prop := ∀ (kV doc pm : Value) (an : Option Addr) (cdv ct : Value) (us : List Value), us.length = ps.length → bindArgs (PySem.W.fnOf x q (defArgs st) (defBody st) (defScope st) .none kV doc pm an cdv ct) ⟨us, []⟩ = pure (ps.zip us)
theorem fnAt_mk {x : Str} {st : Stmt} {ps : List Str} {f : Addr} (X : K.In h) (G : h.Ns mainGlobals mg) (a : PySem.W.nsIn K mainGlobals x = some (some (.ref f))) (l : FnFact K x x st f) (b : BindOk x x st ps) : FnAt K mg x st ps f := by
  obtain ⟨oc, od, an, osl, kV, doc, pm, cdv, ct, l, c, k⟩ := l
  exact ⟨⟨_, fun_mk l c k, (fun_mk l c k).binds b⟩, PySem.W.mg_of X G a⟩
theorem mtAt_mk {x q : Str} {st : Stmt} {ps : List Str} {f : Addr} (a : PySem.W.findIn K (.ref C) x = some (some (.ref f))) (i : PySem.W.isFn K (.ref f) = true) (l : FnFact K x q st f) (b : BindOk x q st ps) : MtAt K C x q st ps f := by
  obtain ⟨oc, od, an, osl, kV, doc, pm, cdv, ct, l, c, k⟩ := l
  exact ⟨⟨_, fun_mk l c k, (fun_mk l c k).binds b⟩, ⟨a, i, k⟩⟩
theorem num_mk {x : Str} {i : Int} {t : Tok} (X : K.In h) (G : h.Ns mainGlobals mg) (a : PySem.W.nsIn K mainGlobals x = some (some (.int i t))) : ∃ t, mg x = some (.int i t) := ⟨t, PySem.W.mg_of X G a⟩
theorem tup_mk {a : Addr} {its : Array Value} {n : Nat} {od : Option Addr} {sl : Array (Option Value)} {xs : List V} (l : K.lookup a = some ⟨.type "tuple", od, .seq its n, sl⟩) (z : its.size ≤ sizeLine) (v : Vals xs its.toList) : ∀ H : Hp, SqT K H a xs :=
  fun _ => .inr ⟨_, its, n, l, rfl, rfl, z, v⟩
end
section
variable {P : Program} {w : World} {K : PySem.W.Frag} {mg : Str → Option Value} {C aL aP aR aD fa fx fI : Addr} {d0 d1 d2 d3 d4 d5 d6 d7 d8 d9 d10 d11 d12 : Addr}
theorem joined (T : Txt K mg C aL aP aR) (HM : Mk K C fI) (g_House : mg "House" = some (.ref C)) (g_DEEDS : mg "DEEDS" = some (.ref aD)) (v_DEEDS : ∀ H : Hp, SqT K H aD (([d0, d1, d2, d3, d4, d5, d6, d7, d8, d9, d10, d11, d12] : List Addr).map V.ref))
    (A_is_moment : ∃ f, FnAt K mg "is_moment" s_is_moment P_is_moment f)
    (A_is_offset : ∃ f, FnAt K mg "is_offset" s_is_offset P_is_offset f)
    (A_year_start : ∃ f, FnAt K mg "year_start" s_year_start P_year_start f)
    (A_year_of : ∃ f, FnAt K mg "year_of" s_year_of P_year_of f)
    (A_month_length : ∃ f, FnAt K mg "month_length" s_month_length P_month_length f)
    (A_weekday_of : ∃ f, FnAt K mg "weekday_of" s_weekday_of P_weekday_of f)
    (A_month_start : ∃ f, FnAt K mg "month_start" s_month_start P_month_start f)
    (A_month_of : ∃ f, FnAt K mg "month_of" s_month_of P_month_of f)
    (A_from_beginning : ∃ f, FnAt K mg "from_beginning" s_from_beginning P_from_beginning f)
    (A_from_end : ∃ f, FnAt K mg "from_end" s_from_end P_from_end f)
    (A_date_numbers : ∃ f, FnAt K mg "date_numbers" s_date_numbers P_date_numbers f)
    (A_is_rule : ∃ f, FnAt K mg "is_rule" s_is_rule P_is_rule f)
    (A_month_of_rule : ∃ f, FnAt K mg "month_of_rule" s_month_of_rule P_month_of_rule f)
    (A_is_summer_rule : ∃ f, FnAt K mg "is_summer_rule" s_is_summer_rule P_is_summer_rule f)
    (A_rule_moment : ∃ f, FnAt K mg "rule_moment" s_rule_moment P_rule_moment f)
    (A_is_summer : ∃ f, FnAt K mg "is_summer" s_is_summer P_is_summer f)
    (A_plain_decree : ∃ f, FnAt K mg "plain_decree" s_plain_decree P_plain_decree f)
    (A_summer_decree : ∃ f, FnAt K mg "summer_decree" s_summer_decree P_summer_decree f)
    (A_since_of : ∃ f, FnAt K mg "since_of" s_since_of P_since_of f)
    (A_offset_of : ∃ f, FnAt K mg "offset_of" s_offset_of P_offset_of f)
    (A_has_summer : ∃ f, FnAt K mg "has_summer" s_has_summer P_has_summer f)
    (A_ahead_by : ∃ f, FnAt K mg "ahead_by" s_ahead_by P_ahead_by f)
    (A_in_force : ∃ f, FnAt K mg "in_force" s_in_force P_in_force f)
    (A_has_since : ∃ f, FnAt K mg "has_since" s_has_since P_has_since f)
    (A_with_decree : ∃ f, FnAt K mg "with_decree" s_with_decree P_with_decree f)
    (A_without_since : ∃ f, FnAt K mg "without_since" s_without_since P_without_since f)
    (A_year_spans : ∃ f, FnAt K mg "year_spans" s_year_spans P_year_spans f)
    (A_decree_spans : ∃ f, FnAt K mg "decree_spans" s_decree_spans P_decree_spans f)
    (A_place_spans : ∃ f, FnAt K mg "place_spans" s_place_spans P_place_spans f)
    (A_ahead_at : ∃ f, FnAt K mg "ahead_at" s_ahead_at P_ahead_at f)
    (A_shows_numbers : ∃ f, FnAt K mg "shows_numbers" s_shows_numbers P_shows_numbers f)
    (A_moments_within : ∃ f, FnAt K mg "moments_within" s_moments_within P_moments_within f)
    (A_first_beyond : ∃ f, FnAt K mg "first_beyond" s_first_beyond P_first_beyond f)
    (A_moments_showing : ∃ f, FnAt K mg "moments_showing" s_moments_showing P_moments_showing f)
    (A_meant_numbers : ∃ f, FnAt K mg "meant_numbers" s_meant_numbers P_meant_numbers f)
    (A_change_numbers : ∃ f, FnAt K mg "change_numbers" s_change_numbers P_change_numbers f)
    (A_init : MtAt K C "__init__" "House.__init__" s_House___init__ P_House___init__ fI)
    (A_has_place : ∃ f, MtAt K C "has_place" "House.has_place" s_House_has_place P_House_has_place f)
    (A_has_kept : ∃ f, MtAt K C "has_kept" "House.has_kept" s_House_has_kept P_House_has_kept f)
    (A_decrees_of : ∃ f, MtAt K C "decrees_of" "House.decrees_of" s_House_decrees_of P_House_decrees_of f)
    (A_add_place : ∃ f, MtAt K C "add_place" "House.add_place" s_House_add_place P_House_add_place f)
    (A_give_decrees : ∃ f, MtAt K C "give_decrees" "House.give_decrees" s_House_give_decrees P_House_give_decrees f)
    (A_add_kept : ∃ f, MtAt K C "add_kept" "House.add_kept" s_House_add_kept P_House_add_kept f)
    (A_do_place : FnAt K mg "do_place" s_do_place P_do_place d0)
    (A_put_decree : ∃ f, FnAt K mg "put_decree" s_put_decree P_put_decree f)
    (A_do_decree : FnAt K mg "do_decree" s_do_decree P_do_decree d1)
    (A_do_summer : FnAt K mg "do_summer" s_do_summer P_do_summer d2)
    (A_do_drop : FnAt K mg "do_drop" s_do_drop P_do_drop d3)
    (A_do_offset : FnAt K mg "do_offset" s_do_offset P_do_offset d4)
    (A_do_shows : FnAt K mg "do_shows" s_do_shows P_do_shows d5)
    (A_do_moments : FnAt K mg "do_moments" s_do_moments P_do_moments d6)
    (A_do_meant : FnAt K mg "do_meant" s_do_meant P_do_meant d7)
    (A_do_change : FnAt K mg "do_change" s_do_change P_do_change d8)
    (A_do_keep : FnAt K mg "do_keep" s_do_keep P_do_keep d9)
    (A_meant_by_kept : ∃ f, FnAt K mg "meant_by_kept" s_meant_by_kept P_meant_by_kept f)
    (A_do_when : FnAt K mg "do_when" s_do_when P_do_when d10)
    (A_do_there : FnAt K mg "do_there" s_do_there P_do_there d11)
    (A_do_ahead : FnAt K mg "do_ahead" s_do_ahead P_do_ahead d12)
    (A_answer_to : ∃ f, FnAt K mg "answer_to" s_answer_to P_answer_to f)
    (A_parted : ∃ f, FnAt K mg "parted" s_parted P_parted f)
    {fd : FuncData} (A_answers : Fun K "answers" "answers" s_answers fa fd)
    (base : Heap) : FnOk P w K mg base CX0 14 fa fd P_answers (spAns K) := by
  obtain ⟨a_is_moment, A_is_moment⟩ := A_is_moment
  obtain ⟨a_is_offset, A_is_offset⟩ := A_is_offset
  obtain ⟨a_year_start, A_year_start⟩ := A_year_start
  obtain ⟨a_year_of, A_year_of⟩ := A_year_of
  obtain ⟨a_month_length, A_month_length⟩ := A_month_length
  obtain ⟨a_weekday_of, A_weekday_of⟩ := A_weekday_of
  obtain ⟨a_month_start, A_month_start⟩ := A_month_start
  obtain ⟨a_month_of, A_month_of⟩ := A_month_of
  obtain ⟨a_from_beginning, A_from_beginning⟩ := A_from_beginning
  obtain ⟨a_from_end, A_from_end⟩ := A_from_end
  obtain ⟨a_date_numbers, A_date_numbers⟩ := A_date_numbers
  obtain ⟨a_is_rule, A_is_rule⟩ := A_is_rule
  obtain ⟨a_month_of_rule, A_month_of_rule⟩ := A_month_of_rule
  obtain ⟨a_is_summer_rule, A_is_summer_rule⟩ := A_is_summer_rule
  obtain ⟨a_rule_moment, A_rule_moment⟩ := A_rule_moment
  obtain ⟨a_is_summer, A_is_summer⟩ := A_is_summer
  obtain ⟨a_plain_decree, A_plain_decree⟩ := A_plain_decree
  obtain ⟨a_summer_decree, A_summer_decree⟩ := A_summer_decree
  obtain ⟨a_since_of, A_since_of⟩ := A_since_of
  obtain ⟨a_offset_of, A_offset_of⟩ := A_offset_of
  obtain ⟨a_has_summer, A_has_summer⟩ := A_has_summer
  obtain ⟨a_ahead_by, A_ahead_by⟩ := A_ahead_by
  obtain ⟨a_in_force, A_in_force⟩ := A_in_force
  obtain ⟨a_has_since, A_has_since⟩ := A_has_since
  obtain ⟨a_with_decree, A_with_decree⟩ := A_with_decree
  obtain ⟨a_without_since, A_without_since⟩ := A_without_since
  obtain ⟨a_year_spans, A_year_spans⟩ := A_year_spans
  obtain ⟨a_decree_spans, A_decree_spans⟩ := A_decree_spans
  obtain ⟨a_place_spans, A_place_spans⟩ := A_place_spans
  obtain ⟨a_ahead_at, A_ahead_at⟩ := A_ahead_at
  obtain ⟨a_shows_numbers, A_shows_numbers⟩ := A_shows_numbers
  obtain ⟨a_moments_within, A_moments_within⟩ := A_moments_within
  obtain ⟨a_first_beyond, A_first_beyond⟩ := A_first_beyond
  obtain ⟨a_moments_showing, A_moments_showing⟩ := A_moments_showing
  obtain ⟨a_meant_numbers, A_meant_numbers⟩ := A_meant_numbers
  obtain ⟨a_change_numbers, A_change_numbers⟩ := A_change_numbers
  obtain ⟨a_has_place, A_has_place⟩ := A_has_place
  obtain ⟨a_has_kept, A_has_kept⟩ := A_has_kept
  obtain ⟨a_decrees_of, A_decrees_of⟩ := A_decrees_of
  obtain ⟨a_add_place, A_add_place⟩ := A_add_place
  obtain ⟨a_give_decrees, A_give_decrees⟩ := A_give_decrees
  obtain ⟨a_add_kept, A_add_kept⟩ := A_add_kept
  obtain ⟨a_put_decree, A_put_decree⟩ := A_put_decree
  obtain ⟨a_meant_by_kept, A_meant_by_kept⟩ := A_meant_by_kept
  obtain ⟨a_answer_to, A_answer_to⟩ := A_answer_to
  obtain ⟨a_parted, A_parted⟩ := A_parted
  have p_is_moment := ok_is_moment (P := P) (w := w) (base := base) A_is_moment T
  have p_is_offset := ok_is_offset (P := P) (w := w) (base := base) A_is_offset T
  have p_year_start := ok_year_start (P := P) (w := w) (base := base) A_year_start T
  have p_year_of := ok_year_of (P := P) (w := w) (base := base) A_year_of T
  have p_month_length := ok_month_length (P := P) (w := w) (base := base) A_month_length T
  have p_weekday_of := ok_weekday_of (P := P) (w := w) (base := base) A_weekday_of T
  have p_month_start := ok_month_start (P := P) (w := w) (base := base) A_month_start T p_year_start p_month_length
  have p_month_of := ok_month_of (P := P) (w := w) (base := base) A_month_of T p_year_of p_month_start
  have p_from_beginning := ok_from_beginning (P := P) (w := w) (base := base) A_from_beginning T p_weekday_of p_month_start
  have p_from_end := ok_from_end (P := P) (w := w) (base := base) A_from_end T p_weekday_of p_month_length p_month_start
  have p_date_numbers := ok_date_numbers (P := P) (w := w) (base := base) A_date_numbers T p_is_moment p_year_of p_month_of p_month_start p_weekday_of
  have p_is_rule := ok_is_rule (P := P) (w := w) (base := base) A_is_rule T
  have p_month_of_rule := ok_month_of_rule (P := P) (w := w) (base := base) A_month_of_rule
  have p_is_summer_rule := ok_is_summer_rule (P := P) (w := w) (base := base) A_is_summer_rule T p_is_rule p_month_of_rule
  have p_rule_moment := ok_rule_moment (P := P) (w := w) (base := base) A_rule_moment T p_from_beginning p_from_end
  have p_is_summer := ok_is_summer (P := P) (w := w) (base := base) A_is_summer T p_year_of p_rule_moment
  have p_plain_decree := ok_plain_decree (P := P) (w := w) (base := base) A_plain_decree
  have p_summer_decree := ok_summer_decree (P := P) (w := w) (base := base) A_summer_decree T
  have p_since_of := ok_since_of (P := P) (w := w) (base := base) A_since_of
  have p_offset_of := ok_offset_of (P := P) (w := w) (base := base) A_offset_of
  have p_has_summer := ok_has_summer (P := P) (w := w) (base := base) A_has_summer
  have p_ahead_by := ok_ahead_by (P := P) (w := w) (base := base) A_ahead_by p_is_summer
  have p_in_force := ok_in_force (P := P) (w := w) (base := base) A_in_force p_since_of
  have p_has_since := ok_has_since (P := P) (w := w) (base := base) A_has_since p_since_of
  have p_with_decree := ok_with_decree (P := P) (w := w) (base := base) A_with_decree p_since_of
  have p_without_since := ok_without_since (P := P) (w := w) (base := base) A_without_since p_since_of
  have p_year_spans := ok_year_spans (P := P) (w := w) (base := base) A_year_spans T p_year_start p_rule_moment p_ahead_by
  have p_decree_spans := ok_decree_spans (P := P) (w := w) (base := base) A_decree_spans T p_since_of p_offset_of p_has_summer p_year_of p_year_spans
  have p_place_spans := ok_place_spans (P := P) (w := w) (base := base) A_place_spans T p_since_of p_decree_spans
  have p_ahead_at := ok_ahead_at (P := P) (w := w) (base := base) A_ahead_at p_in_force p_ahead_by
  have p_shows_numbers := ok_shows_numbers (P := P) (w := w) (base := base) A_shows_numbers p_ahead_at p_date_numbers
  have p_moments_within := ok_moments_within (P := P) (w := w) (base := base) A_moments_within
  have p_first_beyond := ok_first_beyond (P := P) (w := w) (base := base) A_first_beyond T
  have p_moments_showing := ok_moments_showing (P := P) (w := w) (base := base) A_moments_showing p_place_spans p_moments_within
  have p_meant_numbers := ok_meant_numbers (P := P) (w := w) (base := base) A_meant_numbers T p_place_spans p_moments_within p_first_beyond
  have p_change_numbers := ok_change_numbers (P := P) (w := w) (base := base) A_change_numbers T p_place_spans
  have p_init := ok_init (P := P) (w := w) (base := base) A_init T
  have p_has_place := ok_has_place (P := P) (w := w) (base := base) A_has_place T
  have p_has_kept := ok_has_kept (P := P) (w := w) (base := base) A_has_kept T
  have p_decrees_of := ok_decrees_of (P := P) (w := w) (base := base) A_decrees_of T
  have p_add_place := ok_add_place (P := P) (w := w) (base := base) A_add_place T p_plain_decree
  have p_give_decrees := ok_give_decrees (P := P) (w := w) (base := base) A_give_decrees T
  have p_add_kept := ok_add_kept (P := P) (w := w) (base := base) A_add_kept T
  have p_do_place := ok_do_place (P := P) (w := w) (base := base) A_do_place T p_is_offset p_add_place
  have p_put_decree := ok_put_decree (P := P) (w := w) (base := base) A_put_decree T p_with_decree p_decrees_of p_give_decrees
  have p_do_decree := ok_do_decree (P := P) (w := w) (base := base) A_do_decree T p_has_place p_is_moment p_is_offset p_plain_decree p_put_decree
  have p_do_summer := ok_do_summer (P := P) (w := w) (base := base) A_do_summer T p_has_place p_is_moment p_is_offset p_is_summer_rule p_summer_decree p_put_decree
  have p_do_drop := ok_do_drop (P := P) (w := w) (base := base) A_do_drop T p_has_place p_decrees_of p_has_since p_without_since p_give_decrees
  have p_do_offset := ok_do_offset (P := P) (w := w) (base := base) A_do_offset T p_has_place p_is_moment p_decrees_of p_ahead_at
  have p_do_shows := ok_do_shows (P := P) (w := w) (base := base) A_do_shows T p_has_place p_is_moment p_decrees_of p_shows_numbers
  have p_do_moments := ok_do_moments (P := P) (w := w) (base := base) A_do_moments T p_has_place p_decrees_of p_moments_showing
  have p_do_meant := ok_do_meant (P := P) (w := w) (base := base) A_do_meant T p_has_place p_decrees_of p_meant_numbers
  have p_do_change := ok_do_change (P := P) (w := w) (base := base) A_do_change T p_has_place p_is_moment p_decrees_of p_change_numbers
  have p_do_keep := ok_do_keep (P := P) (w := w) (base := base) A_do_keep T p_has_place p_add_kept
  have p_meant_by_kept := ok_meant_by_kept (P := P) (w := w) (base := base) A_meant_by_kept T p_decrees_of p_meant_numbers
  have p_do_when := ok_do_when (P := P) (w := w) (base := base) A_do_when T p_has_kept p_meant_by_kept
  have p_do_there := ok_do_there (P := P) (w := w) (base := base) A_do_there T p_has_kept p_has_place p_decrees_of p_meant_by_kept p_shows_numbers
  have p_do_ahead := ok_do_ahead (P := P) (w := w) (base := base) A_do_ahead T p_is_moment p_ahead_at
  have HA : ∀ k : Nat, k < 13 → ∃ g, ([d0, d1, d2, d3, d4, d5, d6, d7, d8, d9, d10, d11, d12] : List Addr)[k]? = some g ∧ Held P w K mg base 12 g (spDeed K C (k : Int)) := fun k hk => match k, hk with
    | 0, _ => ⟨d0, rfl, p_do_place.held (by decide)⟩
    | 1, _ => ⟨d1, rfl, p_do_decree.held (by decide)⟩
    | 2, _ => ⟨d2, rfl, p_do_summer.held (by decide)⟩
    | 3, _ => ⟨d3, rfl, p_do_drop.held (by decide)⟩
    | 4, _ => ⟨d4, rfl, p_do_offset.held (by decide)⟩
    | 5, _ => ⟨d5, rfl, p_do_shows.held (by decide)⟩
    | 6, _ => ⟨d6, rfl, p_do_moments.held (by decide)⟩
    | 7, _ => ⟨d7, rfl, p_do_meant.held (by decide)⟩
    | 8, _ => ⟨d8, rfl, p_do_change.held (by decide)⟩
    | 9, _ => ⟨d9, rfl, p_do_keep.held (by decide)⟩
    | 10, _ => ⟨d10, rfl, p_do_when.held (by decide)⟩
    | 11, _ => ⟨d11, rfl, p_do_there.held (by decide)⟩
    | 12, _ => ⟨d12, rfl, p_do_ahead.held (by decide)⟩
    | n + 13, z => absurd z (by omega)
  have p_answer_to := ok_answer_to (P := P) (w := w) (base := base) A_answer_to g_DEEDS v_DEEDS HA
  have p_parted := ok_parted (P := P) (w := w) (base := base) A_parted T
  have p_answers := ok_answers (P := P) (w := w) (base := base) A_answers T HM g_House p_init p_parted p_answer_to
  exact p_answers
/-! ### what the top leaves, as the last theorem finds it -/
theorem ended {h : Heap} (X : K.In h) (G : h.Ns mainGlobals mg) (hfa : mg "answers" = some (.ref fx)) {f_is_moment f_is_offset f_year_start f_year_of f_month_length f_weekday_of f_month_start f_month_of f_from_beginning f_from_end f_date_numbers f_is_rule f_month_of_rule f_is_summer_rule f_rule_moment f_is_summer f_plain_decree f_summer_decree f_since_of f_offset_of f_has_summer f_ahead_by f_in_force f_has_since f_with_decree f_without_since f_year_spans f_decree_spans f_place_spans f_ahead_at f_shows_numbers f_moments_within f_first_beyond f_moments_showing f_meant_numbers f_change_numbers f_has_place f_has_kept f_decrees_of f_add_place f_give_decrees f_add_kept f_put_decree f_meant_by_kept f_answer_to f_parted : Addr} {t_DAY t_MOMENTS t_FIRST_YEAR t_FARTHEST t_MOST_MORE t_OFFSET_BASE t_MOST_PLACES t_MOST_DECREES t_MOST_KEPT t_FEBRUARY t_MONTHS t_PLAIN_YEAR t_LEAP_YEAR t_FOUR_YEARS t_RULE_LENGTH t_MOST_TURNS t_WEEKDAYS : Tok}
    (gH : PySem.W.nsIn K mainGlobals "House" = some (some (.ref C)))
    (pg : PySem.W.plainGet K C Str.empty = true) (hd : PySem.W.hasDictIn K C = true) (po : PySem.W.plainOver K C = true) (sa : PySem.W.findIn K (.ref C) "__setattr__" = some (some (.builtin "object.__setattr__"))) (mk : PySem.W.makesIn K C = true) (kc : PySem.W.keepIn K (.ref C) = true)
    (nP : PySem.W.findIn K (.ref C) "places" = some none) (nK : PySem.W.findIn K (.ref C) "kept" = some none)
    (b_len : PySem.W.nsIn K mainGlobals "len" = some none)
    (b_range : PySem.W.nsIn K mainGlobals "range" = some none)
    (b_enumerate : PySem.W.nsIn K mainGlobals "enumerate" = some none)
    (b_min : PySem.W.nsIn K mainGlobals "min" = some none)
    (b_max : PySem.W.nsIn K mainGlobals "max" = some none)
    (b_tuple : PySem.W.nsIn K mainGlobals "tuple" = some none)
    (c_DAY : PySem.W.nsIn K mainGlobals "DAY" = some (some (.int 1440 t_DAY)))
    (c_MOMENTS : PySem.W.nsIn K mainGlobals "MOMENTS" = some (some (.int 52596000 t_MOMENTS)))
    (c_FIRST_YEAR : PySem.W.nsIn K mainGlobals "FIRST_YEAR" = some (some (.int 2000 t_FIRST_YEAR)))
    (c_FARTHEST : PySem.W.nsIn K mainGlobals "FARTHEST" = some (some (.int 840 t_FARTHEST)))
    (c_MOST_MORE : PySem.W.nsIn K mainGlobals "MOST_MORE" = some (some (.int 120 t_MOST_MORE)))
    (c_OFFSET_BASE : PySem.W.nsIn K mainGlobals "OFFSET_BASE" = some (some (.int 1000 t_OFFSET_BASE)))
    (c_MOST_PLACES : PySem.W.nsIn K mainGlobals "MOST_PLACES" = some (some (.int 6 t_MOST_PLACES)))
    (c_MOST_DECREES : PySem.W.nsIn K mainGlobals "MOST_DECREES" = some (some (.int 8 t_MOST_DECREES)))
    (c_MOST_KEPT : PySem.W.nsIn K mainGlobals "MOST_KEPT" = some (some (.int 20 t_MOST_KEPT)))
    (c_FEBRUARY : PySem.W.nsIn K mainGlobals "FEBRUARY" = some (some (.int 2 t_FEBRUARY)))
    (c_MONTHS : PySem.W.nsIn K mainGlobals "MONTHS" = some (some (.int 12 t_MONTHS)))
    (c_PLAIN_YEAR : PySem.W.nsIn K mainGlobals "PLAIN_YEAR" = some (some (.int 365 t_PLAIN_YEAR)))
    (c_LEAP_YEAR : PySem.W.nsIn K mainGlobals "LEAP_YEAR" = some (some (.int 366 t_LEAP_YEAR)))
    (c_FOUR_YEARS : PySem.W.nsIn K mainGlobals "FOUR_YEARS" = some (some (.int 1461 t_FOUR_YEARS)))
    (c_RULE_LENGTH : PySem.W.nsIn K mainGlobals "RULE_LENGTH" = some (some (.int 5 t_RULE_LENGTH)))
    (c_MOST_TURNS : PySem.W.nsIn K mainGlobals "MOST_TURNS" = some (some (.int 4 t_MOST_TURNS)))
    (c_WEEKDAYS : PySem.W.nsIn K mainGlobals "WEEKDAYS" = some (some (.int 7 t_WEEKDAYS)))
    (g_MONTH_LENGTHS : PySem.W.nsIn K mainGlobals "MONTH_LENGTHS" = some (some (.ref aL))) (v_MONTH_LENGTHS : ∀ H : Hp, SqT K H aL (Pc.lengths.map V.int))
    (g_PLAIN : PySem.W.nsIn K mainGlobals "PLAIN" = some (some (.ref aP))) (v_PLAIN : ∀ H : Hp, SqT K H aP (([1, 3, 4, 2, 2, 2, 2, 2, 2, 2, 1, 2, 1] : List Int).map V.int))
    (g_ROWS : PySem.W.nsIn K mainGlobals "ROWS" = some (some (.ref aR))) (v_ROWS : ∀ H : Hp, SqT K H aR (([0, 0, 2, 0, 0, 0, 0, 0, 0, 0, 0, 0, 0] : List Int).map V.int))
    (g_DEEDS : PySem.W.nsIn K mainGlobals "DEEDS" = some (some (.ref aD))) (v_DEEDS : ∀ H : Hp, SqT K H aD (([d0, d1, d2, d3, d4, d5, d6, d7, d8, d9, d10, d11, d12] : List Addr).map V.ref))
    (a_is_moment : PySem.W.nsIn K mainGlobals "is_moment" = some (some (.ref f_is_moment))) (l_is_moment : FnFact K "is_moment" "is_moment" s_is_moment f_is_moment)
    (a_is_offset : PySem.W.nsIn K mainGlobals "is_offset" = some (some (.ref f_is_offset))) (l_is_offset : FnFact K "is_offset" "is_offset" s_is_offset f_is_offset)
    (a_year_start : PySem.W.nsIn K mainGlobals "year_start" = some (some (.ref f_year_start))) (l_year_start : FnFact K "year_start" "year_start" s_year_start f_year_start)
    (a_year_of : PySem.W.nsIn K mainGlobals "year_of" = some (some (.ref f_year_of))) (l_year_of : FnFact K "year_of" "year_of" s_year_of f_year_of)
    (a_month_length : PySem.W.nsIn K mainGlobals "month_length" = some (some (.ref f_month_length))) (l_month_length : FnFact K "month_length" "month_length" s_month_length f_month_length)
    (a_weekday_of : PySem.W.nsIn K mainGlobals "weekday_of" = some (some (.ref f_weekday_of))) (l_weekday_of : FnFact K "weekday_of" "weekday_of" s_weekday_of f_weekday_of)
    (a_month_start : PySem.W.nsIn K mainGlobals "month_start" = some (some (.ref f_month_start))) (l_month_start : FnFact K "month_start" "month_start" s_month_start f_month_start)
    (a_month_of : PySem.W.nsIn K mainGlobals "month_of" = some (some (.ref f_month_of))) (l_month_of : FnFact K "month_of" "month_of" s_month_of f_month_of)
    (a_from_beginning : PySem.W.nsIn K mainGlobals "from_beginning" = some (some (.ref f_from_beginning))) (l_from_beginning : FnFact K "from_beginning" "from_beginning" s_from_beginning f_from_beginning)
    (a_from_end : PySem.W.nsIn K mainGlobals "from_end" = some (some (.ref f_from_end))) (l_from_end : FnFact K "from_end" "from_end" s_from_end f_from_end)
    (a_date_numbers : PySem.W.nsIn K mainGlobals "date_numbers" = some (some (.ref f_date_numbers))) (l_date_numbers : FnFact K "date_numbers" "date_numbers" s_date_numbers f_date_numbers)
    (a_is_rule : PySem.W.nsIn K mainGlobals "is_rule" = some (some (.ref f_is_rule))) (l_is_rule : FnFact K "is_rule" "is_rule" s_is_rule f_is_rule)
    (a_month_of_rule : PySem.W.nsIn K mainGlobals "month_of_rule" = some (some (.ref f_month_of_rule))) (l_month_of_rule : FnFact K "month_of_rule" "month_of_rule" s_month_of_rule f_month_of_rule)
    (a_is_summer_rule : PySem.W.nsIn K mainGlobals "is_summer_rule" = some (some (.ref f_is_summer_rule))) (l_is_summer_rule : FnFact K "is_summer_rule" "is_summer_rule" s_is_summer_rule f_is_summer_rule)
    (a_rule_moment : PySem.W.nsIn K mainGlobals "rule_moment" = some (some (.ref f_rule_moment))) (l_rule_moment : FnFact K "rule_moment" "rule_moment" s_rule_moment f_rule_moment)
    (a_is_summer : PySem.W.nsIn K mainGlobals "is_summer" = some (some (.ref f_is_summer))) (l_is_summer : FnFact K "is_summer" "is_summer" s_is_summer f_is_summer)
    (a_plain_decree : PySem.W.nsIn K mainGlobals "plain_decree" = some (some (.ref f_plain_decree))) (l_plain_decree : FnFact K "plain_decree" "plain_decree" s_plain_decree f_plain_decree)
    (a_summer_decree : PySem.W.nsIn K mainGlobals "summer_decree" = some (some (.ref f_summer_decree))) (l_summer_decree : FnFact K "summer_decree" "summer_decree" s_summer_decree f_summer_decree)
    (a_since_of : PySem.W.nsIn K mainGlobals "since_of" = some (some (.ref f_since_of))) (l_since_of : FnFact K "since_of" "since_of" s_since_of f_since_of)
    (a_offset_of : PySem.W.nsIn K mainGlobals "offset_of" = some (some (.ref f_offset_of))) (l_offset_of : FnFact K "offset_of" "offset_of" s_offset_of f_offset_of)
    (a_has_summer : PySem.W.nsIn K mainGlobals "has_summer" = some (some (.ref f_has_summer))) (l_has_summer : FnFact K "has_summer" "has_summer" s_has_summer f_has_summer)
    (a_ahead_by : PySem.W.nsIn K mainGlobals "ahead_by" = some (some (.ref f_ahead_by))) (l_ahead_by : FnFact K "ahead_by" "ahead_by" s_ahead_by f_ahead_by)
    (a_in_force : PySem.W.nsIn K mainGlobals "in_force" = some (some (.ref f_in_force))) (l_in_force : FnFact K "in_force" "in_force" s_in_force f_in_force)
    (a_has_since : PySem.W.nsIn K mainGlobals "has_since" = some (some (.ref f_has_since))) (l_has_since : FnFact K "has_since" "has_since" s_has_since f_has_since)
    (a_with_decree : PySem.W.nsIn K mainGlobals "with_decree" = some (some (.ref f_with_decree))) (l_with_decree : FnFact K "with_decree" "with_decree" s_with_decree f_with_decree)
    (a_without_since : PySem.W.nsIn K mainGlobals "without_since" = some (some (.ref f_without_since))) (l_without_since : FnFact K "without_since" "without_since" s_without_since f_without_since)
    (a_year_spans : PySem.W.nsIn K mainGlobals "year_spans" = some (some (.ref f_year_spans))) (l_year_spans : FnFact K "year_spans" "year_spans" s_year_spans f_year_spans)
    (a_decree_spans : PySem.W.nsIn K mainGlobals "decree_spans" = some (some (.ref f_decree_spans))) (l_decree_spans : FnFact K "decree_spans" "decree_spans" s_decree_spans f_decree_spans)
    (a_place_spans : PySem.W.nsIn K mainGlobals "place_spans" = some (some (.ref f_place_spans))) (l_place_spans : FnFact K "place_spans" "place_spans" s_place_spans f_place_spans)
    (a_ahead_at : PySem.W.nsIn K mainGlobals "ahead_at" = some (some (.ref f_ahead_at))) (l_ahead_at : FnFact K "ahead_at" "ahead_at" s_ahead_at f_ahead_at)
    (a_shows_numbers : PySem.W.nsIn K mainGlobals "shows_numbers" = some (some (.ref f_shows_numbers))) (l_shows_numbers : FnFact K "shows_numbers" "shows_numbers" s_shows_numbers f_shows_numbers)
    (a_moments_within : PySem.W.nsIn K mainGlobals "moments_within" = some (some (.ref f_moments_within))) (l_moments_within : FnFact K "moments_within" "moments_within" s_moments_within f_moments_within)
    (a_first_beyond : PySem.W.nsIn K mainGlobals "first_beyond" = some (some (.ref f_first_beyond))) (l_first_beyond : FnFact K "first_beyond" "first_beyond" s_first_beyond f_first_beyond)
    (a_moments_showing : PySem.W.nsIn K mainGlobals "moments_showing" = some (some (.ref f_moments_showing))) (l_moments_showing : FnFact K "moments_showing" "moments_showing" s_moments_showing f_moments_showing)
    (a_meant_numbers : PySem.W.nsIn K mainGlobals "meant_numbers" = some (some (.ref f_meant_numbers))) (l_meant_numbers : FnFact K "meant_numbers" "meant_numbers" s_meant_numbers f_meant_numbers)
    (a_change_numbers : PySem.W.nsIn K mainGlobals "change_numbers" = some (some (.ref f_change_numbers))) (l_change_numbers : FnFact K "change_numbers" "change_numbers" s_change_numbers f_change_numbers)
    (m_init : PySem.W.findIn K (.ref C) "__init__" = some (some (.ref fI))) (i_init : PySem.W.isFn K (.ref fI) = true) (l_init : FnFact K "__init__" "House.__init__" s_House___init__ fI)
    (m_has_place : PySem.W.findIn K (.ref C) "has_place" = some (some (.ref f_has_place))) (i_has_place : PySem.W.isFn K (.ref f_has_place) = true) (l_has_place : FnFact K "has_place" "House.has_place" s_House_has_place f_has_place)
    (m_has_kept : PySem.W.findIn K (.ref C) "has_kept" = some (some (.ref f_has_kept))) (i_has_kept : PySem.W.isFn K (.ref f_has_kept) = true) (l_has_kept : FnFact K "has_kept" "House.has_kept" s_House_has_kept f_has_kept)
    (m_decrees_of : PySem.W.findIn K (.ref C) "decrees_of" = some (some (.ref f_decrees_of))) (i_decrees_of : PySem.W.isFn K (.ref f_decrees_of) = true) (l_decrees_of : FnFact K "decrees_of" "House.decrees_of" s_House_decrees_of f_decrees_of)
    (m_add_place : PySem.W.findIn K (.ref C) "add_place" = some (some (.ref f_add_place))) (i_add_place : PySem.W.isFn K (.ref f_add_place) = true) (l_add_place : FnFact K "add_place" "House.add_place" s_House_add_place f_add_place)
    (m_give_decrees : PySem.W.findIn K (.ref C) "give_decrees" = some (some (.ref f_give_decrees))) (i_give_decrees : PySem.W.isFn K (.ref f_give_decrees) = true) (l_give_decrees : FnFact K "give_decrees" "House.give_decrees" s_House_give_decrees f_give_decrees)
    (m_add_kept : PySem.W.findIn K (.ref C) "add_kept" = some (some (.ref f_add_kept))) (i_add_kept : PySem.W.isFn K (.ref f_add_kept) = true) (l_add_kept : FnFact K "add_kept" "House.add_kept" s_House_add_kept f_add_kept)
    (a_do_place : PySem.W.nsIn K mainGlobals "do_place" = some (some (.ref d0))) (l_do_place : FnFact K "do_place" "do_place" s_do_place d0)
    (a_put_decree : PySem.W.nsIn K mainGlobals "put_decree" = some (some (.ref f_put_decree))) (l_put_decree : FnFact K "put_decree" "put_decree" s_put_decree f_put_decree)
    (a_do_decree : PySem.W.nsIn K mainGlobals "do_decree" = some (some (.ref d1))) (l_do_decree : FnFact K "do_decree" "do_decree" s_do_decree d1)
    (a_do_summer : PySem.W.nsIn K mainGlobals "do_summer" = some (some (.ref d2))) (l_do_summer : FnFact K "do_summer" "do_summer" s_do_summer d2)
    (a_do_drop : PySem.W.nsIn K mainGlobals "do_drop" = some (some (.ref d3))) (l_do_drop : FnFact K "do_drop" "do_drop" s_do_drop d3)
    (a_do_offset : PySem.W.nsIn K mainGlobals "do_offset" = some (some (.ref d4))) (l_do_offset : FnFact K "do_offset" "do_offset" s_do_offset d4)
    (a_do_shows : PySem.W.nsIn K mainGlobals "do_shows" = some (some (.ref d5))) (l_do_shows : FnFact K "do_shows" "do_shows" s_do_shows d5)
    (a_do_moments : PySem.W.nsIn K mainGlobals "do_moments" = some (some (.ref d6))) (l_do_moments : FnFact K "do_moments" "do_moments" s_do_moments d6)
    (a_do_meant : PySem.W.nsIn K mainGlobals "do_meant" = some (some (.ref d7))) (l_do_meant : FnFact K "do_meant" "do_meant" s_do_meant d7)
    (a_do_change : PySem.W.nsIn K mainGlobals "do_change" = some (some (.ref d8))) (l_do_change : FnFact K "do_change" "do_change" s_do_change d8)
    (a_do_keep : PySem.W.nsIn K mainGlobals "do_keep" = some (some (.ref d9))) (l_do_keep : FnFact K "do_keep" "do_keep" s_do_keep d9)
    (a_meant_by_kept : PySem.W.nsIn K mainGlobals "meant_by_kept" = some (some (.ref f_meant_by_kept))) (l_meant_by_kept : FnFact K "meant_by_kept" "meant_by_kept" s_meant_by_kept f_meant_by_kept)
    (a_do_when : PySem.W.nsIn K mainGlobals "do_when" = some (some (.ref d10))) (l_do_when : FnFact K "do_when" "do_when" s_do_when d10)
    (a_do_there : PySem.W.nsIn K mainGlobals "do_there" = some (some (.ref d11))) (l_do_there : FnFact K "do_there" "do_there" s_do_there d11)
    (a_do_ahead : PySem.W.nsIn K mainGlobals "do_ahead" = some (some (.ref d12))) (l_do_ahead : FnFact K "do_ahead" "do_ahead" s_do_ahead d12)
    (a_answer_to : PySem.W.nsIn K mainGlobals "answer_to" = some (some (.ref f_answer_to))) (l_answer_to : FnFact K "answer_to" "answer_to" s_answer_to f_answer_to)
    (a_parted : PySem.W.nsIn K mainGlobals "parted" = some (some (.ref f_parted))) (l_parted : FnFact K "parted" "parted" s_parted f_parted)
    (a_answers : PySem.W.nsIn K mainGlobals "answers" = some (some (.ref fa))) (l_answers : FnFact K "answers" "answers" s_answers fa)
    : ∃ fd : FuncData, (∀ (s : Shared) (us : List Value), us.length = P_answers.length → BindsTo s fd ⟨us, []⟩ (P_answers.zip us)) ∧ ∀ base : Heap, K.In base → base.Ns mainGlobals mg → FnOk P w K mg base CX0 14 fx fd P_answers (spAns K) := by
  have e := hfa.symm.trans (PySem.W.mg_of X G a_answers)
  cases e
  have T : Txt K mg C aL aP aR := ⟨⟨pg, hd, po, sa⟩, nP, nK, PySem.W.mg_none_of X G b_len, PySem.W.mg_none_of X G b_range, PySem.W.mg_none_of X G b_enumerate, PySem.W.mg_none_of X G b_min, PySem.W.mg_none_of X G b_max, PySem.W.mg_none_of X G b_tuple, num_mk X G c_DAY, num_mk X G c_MOMENTS, num_mk X G c_FIRST_YEAR, num_mk X G c_FARTHEST, num_mk X G c_MOST_MORE, num_mk X G c_OFFSET_BASE, num_mk X G c_MOST_PLACES, num_mk X G c_MOST_DECREES, num_mk X G c_MOST_KEPT, num_mk X G c_FEBRUARY, num_mk X G c_MONTHS, num_mk X G c_PLAIN_YEAR, num_mk X G c_LEAP_YEAR, num_mk X G c_FOUR_YEARS, num_mk X G c_RULE_LENGTH, num_mk X G c_MOST_TURNS, num_mk X G c_WEEKDAYS, PySem.W.mg_of X G g_MONTH_LENGTHS, v_MONTH_LENGTHS, PySem.W.mg_of X G g_PLAIN, v_PLAIN, PySem.W.mg_of X G g_ROWS, v_ROWS⟩
  obtain ⟨oc, od, an, osl, kV, doc, pm, cdv, ct, l, c, k⟩ := l_answers
  have A_answers := fun_mk l c k
  have A_is_moment := fnAt_mk X G a_is_moment l_is_moment (st := s_is_moment) (ps := P_is_moment) (fun _ _ _ _ _ _ us hl => match us, hl with | [_], _ => rfl)
  have A_is_offset := fnAt_mk X G a_is_offset l_is_offset (st := s_is_offset) (ps := P_is_offset) (fun _ _ _ _ _ _ us hl => match us, hl with | [_], _ => rfl)
  have A_year_start := fnAt_mk X G a_year_start l_year_start (st := s_year_start) (ps := P_year_start) (fun _ _ _ _ _ _ us hl => match us, hl with | [_], _ => rfl)
  have A_year_of := fnAt_mk X G a_year_of l_year_of (st := s_year_of) (ps := P_year_of) (fun _ _ _ _ _ _ us hl => match us, hl with | [_], _ => rfl)
  have A_month_length := fnAt_mk X G a_month_length l_month_length (st := s_month_length) (ps := P_month_length) (fun _ _ _ _ _ _ us hl => match us, hl with | [_, _], _ => rfl)
  have A_weekday_of := fnAt_mk X G a_weekday_of l_weekday_of (st := s_weekday_of) (ps := P_weekday_of) (fun _ _ _ _ _ _ us hl => match us, hl with | [_], _ => rfl)
  have A_month_start := fnAt_mk X G a_month_start l_month_start (st := s_month_start) (ps := P_month_start) (fun _ _ _ _ _ _ us hl => match us, hl with | [_, _], _ => rfl)
  have A_month_of := fnAt_mk X G a_month_of l_month_of (st := s_month_of) (ps := P_month_of) (fun _ _ _ _ _ _ us hl => match us, hl with | [_], _ => rfl)
  have A_from_beginning := fnAt_mk X G a_from_beginning l_from_beginning (st := s_from_beginning) (ps := P_from_beginning) (fun _ _ _ _ _ _ us hl => match us, hl with | [_, _, _, _], _ => rfl)
  have A_from_end := fnAt_mk X G a_from_end l_from_end (st := s_from_end) (ps := P_from_end) (fun _ _ _ _ _ _ us hl => match us, hl with | [_, _, _, _], _ => rfl)
  have A_date_numbers := fnAt_mk X G a_date_numbers l_date_numbers (st := s_date_numbers) (ps := P_date_numbers) (fun _ _ _ _ _ _ us hl => match us, hl with | [_], _ => rfl)
  have A_is_rule := fnAt_mk X G a_is_rule l_is_rule (st := s_is_rule) (ps := P_is_rule) (fun _ _ _ _ _ _ us hl => match us, hl with | [_], _ => rfl)
  have A_month_of_rule := fnAt_mk X G a_month_of_rule l_month_of_rule (st := s_month_of_rule) (ps := P_month_of_rule) (fun _ _ _ _ _ _ us hl => match us, hl with | [_], _ => rfl)
  have A_is_summer_rule := fnAt_mk X G a_is_summer_rule l_is_summer_rule (st := s_is_summer_rule) (ps := P_is_summer_rule) (fun _ _ _ _ _ _ us hl => match us, hl with | [_, _, _], _ => rfl)
  have A_rule_moment := fnAt_mk X G a_rule_moment l_rule_moment (st := s_rule_moment) (ps := P_rule_moment) (fun _ _ _ _ _ _ us hl => match us, hl with | [_, _], _ => rfl)
  have A_is_summer := fnAt_mk X G a_is_summer l_is_summer (st := s_is_summer) (ps := P_is_summer) (fun _ _ _ _ _ _ us hl => match us, hl with | [_, _, _], _ => rfl)
  have A_plain_decree := fnAt_mk X G a_plain_decree l_plain_decree (st := s_plain_decree) (ps := P_plain_decree) (fun _ _ _ _ _ _ us hl => match us, hl with | [_, _], _ => rfl)
  have A_summer_decree := fnAt_mk X G a_summer_decree l_summer_decree (st := s_summer_decree) (ps := P_summer_decree) (fun _ _ _ _ _ _ us hl => match us, hl with | [_, _, _, _, _], _ => rfl)
  have A_since_of := fnAt_mk X G a_since_of l_since_of (st := s_since_of) (ps := P_since_of) (fun _ _ _ _ _ _ us hl => match us, hl with | [_], _ => rfl)
  have A_offset_of := fnAt_mk X G a_offset_of l_offset_of (st := s_offset_of) (ps := P_offset_of) (fun _ _ _ _ _ _ us hl => match us, hl with | [_], _ => rfl)
  have A_has_summer := fnAt_mk X G a_has_summer l_has_summer (st := s_has_summer) (ps := P_has_summer) (fun _ _ _ _ _ _ us hl => match us, hl with | [_], _ => rfl)
  have A_ahead_by := fnAt_mk X G a_ahead_by l_ahead_by (st := s_ahead_by) (ps := P_ahead_by) (fun _ _ _ _ _ _ us hl => match us, hl with | [_, _], _ => rfl)
  have A_in_force := fnAt_mk X G a_in_force l_in_force (st := s_in_force) (ps := P_in_force) (fun _ _ _ _ _ _ us hl => match us, hl with | [_, _], _ => rfl)
  have A_has_since := fnAt_mk X G a_has_since l_has_since (st := s_has_since) (ps := P_has_since) (fun _ _ _ _ _ _ us hl => match us, hl with | [_, _], _ => rfl)
  have A_with_decree := fnAt_mk X G a_with_decree l_with_decree (st := s_with_decree) (ps := P_with_decree) (fun _ _ _ _ _ _ us hl => match us, hl with | [_, _], _ => rfl)
  have A_without_since := fnAt_mk X G a_without_since l_without_since (st := s_without_since) (ps := P_without_since) (fun _ _ _ _ _ _ us hl => match us, hl with | [_, _], _ => rfl)
  have A_year_spans := fnAt_mk X G a_year_spans l_year_spans (st := s_year_spans) (ps := P_year_spans) (fun _ _ _ _ _ _ us hl => match us, hl with | [_, _], _ => rfl)
  have A_decree_spans := fnAt_mk X G a_decree_spans l_decree_spans (st := s_decree_spans) (ps := P_decree_spans) (fun _ _ _ _ _ _ us hl => match us, hl with | [_, _], _ => rfl)
  have A_place_spans := fnAt_mk X G a_place_spans l_place_spans (st := s_place_spans) (ps := P_place_spans) (fun _ _ _ _ _ _ us hl => match us, hl with | [_], _ => rfl)
  have A_ahead_at := fnAt_mk X G a_ahead_at l_ahead_at (st := s_ahead_at) (ps := P_ahead_at) (fun _ _ _ _ _ _ us hl => match us, hl with | [_, _], _ => rfl)
  have A_shows_numbers := fnAt_mk X G a_shows_numbers l_shows_numbers (st := s_shows_numbers) (ps := P_shows_numbers) (fun _ _ _ _ _ _ us hl => match us, hl with | [_, _], _ => rfl)
  have A_moments_within := fnAt_mk X G a_moments_within l_moments_within (st := s_moments_within) (ps := P_moments_within) (fun _ _ _ _ _ _ us hl => match us, hl with | [_, _], _ => rfl)
  have A_first_beyond := fnAt_mk X G a_first_beyond l_first_beyond (st := s_first_beyond) (ps := P_first_beyond) (fun _ _ _ _ _ _ us hl => match us, hl with | [_, _], _ => rfl)
  have A_moments_showing := fnAt_mk X G a_moments_showing l_moments_showing (st := s_moments_showing) (ps := P_moments_showing) (fun _ _ _ _ _ _ us hl => match us, hl with | [_, _], _ => rfl)
  have A_meant_numbers := fnAt_mk X G a_meant_numbers l_meant_numbers (st := s_meant_numbers) (ps := P_meant_numbers) (fun _ _ _ _ _ _ us hl => match us, hl with | [_, _], _ => rfl)
  have A_change_numbers := fnAt_mk X G a_change_numbers l_change_numbers (st := s_change_numbers) (ps := P_change_numbers) (fun _ _ _ _ _ _ us hl => match us, hl with | [_, _], _ => rfl)
  have A_init := mtAt_mk m_init i_init l_init (st := s_House___init__) (ps := P_House___init__) (fun _ _ _ _ _ _ us hl => match us, hl with | [_], _ => rfl)
  have A_has_place := mtAt_mk m_has_place i_has_place l_has_place (st := s_House_has_place) (ps := P_House_has_place) (fun _ _ _ _ _ _ us hl => match us, hl with | [_, _], _ => rfl)
  have A_has_kept := mtAt_mk m_has_kept i_has_kept l_has_kept (st := s_House_has_kept) (ps := P_House_has_kept) (fun _ _ _ _ _ _ us hl => match us, hl with | [_, _], _ => rfl)
  have A_decrees_of := mtAt_mk m_decrees_of i_decrees_of l_decrees_of (st := s_House_decrees_of) (ps := P_House_decrees_of) (fun _ _ _ _ _ _ us hl => match us, hl with | [_, _], _ => rfl)
  have A_add_place := mtAt_mk m_add_place i_add_place l_add_place (st := s_House_add_place) (ps := P_House_add_place) (fun _ _ _ _ _ _ us hl => match us, hl with | [_, _], _ => rfl)
  have A_give_decrees := mtAt_mk m_give_decrees i_give_decrees l_give_decrees (st := s_House_give_decrees) (ps := P_House_give_decrees) (fun _ _ _ _ _ _ us hl => match us, hl with | [_, _, _], _ => rfl)
  have A_add_kept := mtAt_mk m_add_kept i_add_kept l_add_kept (st := s_House_add_kept) (ps := P_House_add_kept) (fun _ _ _ _ _ _ us hl => match us, hl with | [_, _, _], _ => rfl)
  have A_do_place := fnAt_mk X G a_do_place l_do_place (st := s_do_place) (ps := P_do_place) (fun _ _ _ _ _ _ us hl => match us, hl with | [_, _, _], _ => rfl)
  have A_put_decree := fnAt_mk X G a_put_decree l_put_decree (st := s_put_decree) (ps := P_put_decree) (fun _ _ _ _ _ _ us hl => match us, hl with | [_, _, _], _ => rfl)
  have A_do_decree := fnAt_mk X G a_do_decree l_do_decree (st := s_do_decree) (ps := P_do_decree) (fun _ _ _ _ _ _ us hl => match us, hl with | [_, _, _], _ => rfl)
  have A_do_summer := fnAt_mk X G a_do_summer l_do_summer (st := s_do_summer) (ps := P_do_summer) (fun _ _ _ _ _ _ us hl => match us, hl with | [_, _, _], _ => rfl)
  have A_do_drop := fnAt_mk X G a_do_drop l_do_drop (st := s_do_drop) (ps := P_do_drop) (fun _ _ _ _ _ _ us hl => match us, hl with | [_, _, _], _ => rfl)
  have A_do_offset := fnAt_mk X G a_do_offset l_do_offset (st := s_do_offset) (ps := P_do_offset) (fun _ _ _ _ _ _ us hl => match us, hl with | [_, _, _], _ => rfl)
  have A_do_shows := fnAt_mk X G a_do_shows l_do_shows (st := s_do_shows) (ps := P_do_shows) (fun _ _ _ _ _ _ us hl => match us, hl with | [_, _, _], _ => rfl)
  have A_do_moments := fnAt_mk X G a_do_moments l_do_moments (st := s_do_moments) (ps := P_do_moments) (fun _ _ _ _ _ _ us hl => match us, hl with | [_, _, _], _ => rfl)
  have A_do_meant := fnAt_mk X G a_do_meant l_do_meant (st := s_do_meant) (ps := P_do_meant) (fun _ _ _ _ _ _ us hl => match us, hl with | [_, _, _], _ => rfl)
  have A_do_change := fnAt_mk X G a_do_change l_do_change (st := s_do_change) (ps := P_do_change) (fun _ _ _ _ _ _ us hl => match us, hl with | [_, _, _], _ => rfl)
  have A_do_keep := fnAt_mk X G a_do_keep l_do_keep (st := s_do_keep) (ps := P_do_keep) (fun _ _ _ _ _ _ us hl => match us, hl with | [_, _, _], _ => rfl)
  have A_meant_by_kept := fnAt_mk X G a_meant_by_kept l_meant_by_kept (st := s_meant_by_kept) (ps := P_meant_by_kept) (fun _ _ _ _ _ _ us hl => match us, hl with | [_, _], _ => rfl)
  have A_do_when := fnAt_mk X G a_do_when l_do_when (st := s_do_when) (ps := P_do_when) (fun _ _ _ _ _ _ us hl => match us, hl with | [_, _, _], _ => rfl)
  have A_do_there := fnAt_mk X G a_do_there l_do_there (st := s_do_there) (ps := P_do_there) (fun _ _ _ _ _ _ us hl => match us, hl with | [_, _, _], _ => rfl)
  have A_do_ahead := fnAt_mk X G a_do_ahead l_do_ahead (st := s_do_ahead) (ps := P_do_ahead) (fun _ _ _ _ _ _ us hl => match us, hl with | [_, _, _], _ => rfl)
  have A_answer_to := fnAt_mk X G a_answer_to l_answer_to (st := s_answer_to) (ps := P_answer_to) (fun _ _ _ _ _ _ us hl => match us, hl with | [_, _, _, _], _ => rfl)
  have A_parted := fnAt_mk X G a_parted l_parted (st := s_parted) (ps := P_parted) (fun _ _ _ _ _ _ us hl => match us, hl with | [_], _ => rfl)
  exact ⟨_, fun s us hu => match us, hu with | [_], _ => .of_eq rfl, fun base _ _ => joined T ⟨mk, m_init, i_init, kc⟩ (PySem.W.mg_of X G gH) (PySem.W.mg_of X G g_DEEDS) v_DEEDS ⟨_, A_is_moment⟩ ⟨_, A_is_offset⟩ ⟨_, A_year_start⟩ ⟨_, A_year_of⟩ ⟨_, A_month_length⟩ ⟨_, A_weekday_of⟩ ⟨_, A_month_start⟩ ⟨_, A_month_of⟩ ⟨_, A_from_beginning⟩ ⟨_, A_from_end⟩ ⟨_, A_date_numbers⟩ ⟨_, A_is_rule⟩ ⟨_, A_month_of_rule⟩ ⟨_, A_is_summer_rule⟩ ⟨_, A_rule_moment⟩ ⟨_, A_is_summer⟩ ⟨_, A_plain_decree⟩ ⟨_, A_summer_decree⟩ ⟨_, A_since_of⟩ ⟨_, A_offset_of⟩ ⟨_, A_has_summer⟩ ⟨_, A_ahead_by⟩ ⟨_, A_in_force⟩ ⟨_, A_has_since⟩ ⟨_, A_with_decree⟩ ⟨_, A_without_since⟩ ⟨_, A_year_spans⟩ ⟨_, A_decree_spans⟩ ⟨_, A_place_spans⟩ ⟨_, A_ahead_at⟩ ⟨_, A_shows_numbers⟩ ⟨_, A_moments_within⟩ ⟨_, A_first_beyond⟩ ⟨_, A_moments_showing⟩ ⟨_, A_meant_numbers⟩ ⟨_, A_change_numbers⟩ A_init ⟨_, A_has_place⟩ ⟨_, A_has_kept⟩ ⟨_, A_decrees_of⟩ ⟨_, A_add_place⟩ ⟨_, A_give_decrees⟩ ⟨_, A_add_kept⟩ A_do_place ⟨_, A_put_decree⟩ A_do_decree A_do_summer A_do_drop A_do_offset A_do_shows A_do_moments A_do_meant A_do_change A_do_keep ⟨_, A_meant_by_kept⟩ A_do_when A_do_there A_do_ahead ⟨_, A_answer_to⟩ ⟨_, A_parted⟩ A_answers base⟩
end
end Pw
open PySem PySem.W PyProof.Rows
set_option maxRecDepth 100000 in
set_option maxHeartbeats 0 in
theorem PySem.Challenge.cw_placeclocks_s01_answers_holds : PySem.Challenge.rw_placeclocks_s01_answers.Holds := by
  w_on; k_headS; (case hw => exact ⟨[.list [.int 0, .int 0]], by decide +kernel, by decide +kernel⟩)
  k_fillS
  refine L2.walk_specK (r := PySem.Challenge.rw_placeclocks_s01_answers) (k := 14) (CX := L2.CX0) (ps := Pw.P_answers) (sp := Pw.spAns) (by decide +kernel) rfl rfl ⟨rfl, by decide, by decide⟩ (fun w h Y => PySem.W.kIn_of Y) ?F ?S (fun _ _ _ _ z => z)
  case F =>
    intro w mg fa h Y KX G hmg
    refine' Pw.ended KX G hmg ?gH ?pg ?hd ?po ?sa ?mk ?kc ?nP ?nK ?b_len ?b_range ?b_enumerate ?b_min ?b_max ?b_tuple ?c_DAY ?c_MOMENTS ?c_FIRST_YEAR ?c_FARTHEST ?c_MOST_MORE ?c_OFFSET_BASE ?c_MOST_PLACES ?c_MOST_DECREES ?c_MOST_KEPT ?c_FEBRUARY ?c_MONTHS ?c_PLAIN_YEAR ?c_LEAP_YEAR ?c_FOUR_YEARS ?c_RULE_LENGTH ?c_MOST_TURNS ?c_WEEKDAYS ?g_MONTH_LENGTHS ?v_MONTH_LENGTHS ?g_PLAIN ?v_PLAIN ?g_ROWS ?v_ROWS ?g_DEEDS ?v_DEEDS ?a_is_moment ?l_is_moment ?a_is_offset ?l_is_offset ?a_year_start ?l_year_start ?a_year_of ?l_year_of ?a_month_length ?l_month_length ?a_weekday_of ?l_weekday_of ?a_month_start ?l_month_start ?a_month_of ?l_month_of ?a_from_beginning ?l_from_beginning ?a_from_end ?l_from_end ?a_date_numbers ?l_date_numbers ?a_is_rule ?l_is_rule ?a_month_of_rule ?l_month_of_rule ?a_is_summer_rule ?l_is_summer_rule ?a_rule_moment ?l_rule_moment ?a_is_summer ?l_is_summer ?a_plain_decree ?l_plain_decree ?a_summer_decree ?l_summer_decree ?a_since_of ?l_since_of ?a_offset_of ?l_offset_of ?a_has_summer ?l_has_summer ?a_ahead_by ?l_ahead_by ?a_in_force ?l_in_force ?a_has_since ?l_has_since ?a_with_decree ?l_with_decree ?a_without_since ?l_without_since ?a_year_spans ?l_year_spans ?a_decree_spans ?l_decree_spans ?a_place_spans ?l_place_spans ?a_ahead_at ?l_ahead_at ?a_shows_numbers ?l_shows_numbers ?a_moments_within ?l_moments_within ?a_first_beyond ?l_first_beyond ?a_moments_showing ?l_moments_showing ?a_meant_numbers ?l_meant_numbers ?a_change_numbers ?l_change_numbers ?m_init ?i_init ?l_init ?m_has_place ?i_has_place ?l_has_place ?m_has_kept ?i_has_kept ?l_has_kept ?m_decrees_of ?i_decrees_of ?l_decrees_of ?m_add_place ?i_add_place ?l_add_place ?m_give_decrees ?i_give_decrees ?l_give_decrees ?m_add_kept ?i_add_kept ?l_add_kept ?a_do_place ?l_do_place ?a_put_decree ?l_put_decree ?a_do_decree ?l_do_decree ?a_do_summer ?l_do_summer ?a_do_drop ?l_do_drop ?a_do_offset ?l_do_offset ?a_do_shows ?l_do_shows ?a_do_moments ?l_do_moments ?a_do_meant ?l_do_meant ?a_do_change ?l_do_change ?a_do_keep ?l_do_keep ?a_meant_by_kept ?l_meant_by_kept ?a_do_when ?l_do_when ?a_do_there ?l_do_there ?a_do_ahead ?l_do_ahead ?a_answer_to ?l_answer_to ?a_parted ?l_parted ?a_answers ?l_answers
    (case gH => k_is)
    (case pg => k_is)
    (case hd => k_is)
    (case po => k_is)
    (case sa => k_is)
    (case mk => k_is)
    (case kc => k_is)
    (case nP => k_is)
    (case nK => k_is)
    (case b_len => k_is)
    (case b_range => k_is)
    (case b_enumerate => k_is)
    (case b_min => k_is)
    (case b_max => k_is)
    (case b_tuple => k_is)
    (case c_DAY => k_is)
    (case c_MOMENTS => k_is)
    (case c_FIRST_YEAR => k_is)
    (case c_FARTHEST => k_is)
    (case c_MOST_MORE => k_is)
    (case c_OFFSET_BASE => k_is)
    (case c_MOST_PLACES => k_is)
    (case c_MOST_DECREES => k_is)
    (case c_MOST_KEPT => k_is)
    (case c_FEBRUARY => k_is)
    (case c_MONTHS => k_is)
    (case c_PLAIN_YEAR => k_is)
    (case c_LEAP_YEAR => k_is)
    (case c_FOUR_YEARS => k_is)
    (case c_RULE_LENGTH => k_is)
    (case c_MOST_TURNS => k_is)
    (case c_WEEKDAYS => k_is)
    (case a_is_moment => k_is)
    (case l_is_moment => (refine' Pw.fnFact ?l ?c ?k; (case l => k_is); (case c => k_is); (case k => k_is)))
    (case a_is_offset => k_is)
    (case l_is_offset => (refine' Pw.fnFact ?l ?c ?k; (case l => k_is); (case c => k_is); (case k => k_is)))
    (case a_year_start => k_is)
    (case l_year_start => (refine' Pw.fnFact ?l ?c ?k; (case l => k_is); (case c => k_is); (case k => k_is)))
    (case a_year_of => k_is)
    (case l_year_of => (refine' Pw.fnFact ?l ?c ?k; (case l => k_is); (case c => k_is); (case k => k_is)))
    (case a_month_length => k_is)
    (case l_month_length => (refine' Pw.fnFact ?l ?c ?k; (case l => k_is); (case c => k_is); (case k => k_is)))
    (case a_weekday_of => k_is)
    (case l_weekday_of => (refine' Pw.fnFact ?l ?c ?k; (case l => k_is); (case c => k_is); (case k => k_is)))
    (case a_month_start => k_is)
    (case l_month_start => (refine' Pw.fnFact ?l ?c ?k; (case l => k_is); (case c => k_is); (case k => k_is)))
    (case a_month_of => k_is)
    (case l_month_of => (refine' Pw.fnFact ?l ?c ?k; (case l => k_is); (case c => k_is); (case k => k_is)))
    (case a_from_beginning => k_is)
    (case l_from_beginning => (refine' Pw.fnFact ?l ?c ?k; (case l => k_is); (case c => k_is); (case k => k_is)))
    (case a_from_end => k_is)
    (case l_from_end => (refine' Pw.fnFact ?l ?c ?k; (case l => k_is); (case c => k_is); (case k => k_is)))
    (case a_date_numbers => k_is)
    (case l_date_numbers => (refine' Pw.fnFact ?l ?c ?k; (case l => k_is); (case c => k_is); (case k => k_is)))
    (case a_is_rule => k_is)
    (case l_is_rule => (refine' Pw.fnFact ?l ?c ?k; (case l => k_is); (case c => k_is); (case k => k_is)))
    (case a_month_of_rule => k_is)
    (case l_month_of_rule => (refine' Pw.fnFact ?l ?c ?k; (case l => k_is); (case c => k_is); (case k => k_is)))
    (case a_is_summer_rule => k_is)
    (case l_is_summer_rule => (refine' Pw.fnFact ?l ?c ?k; (case l => k_is); (case c => k_is); (case k => k_is)))
    (case a_rule_moment => k_is)
    (case l_rule_moment => (refine' Pw.fnFact ?l ?c ?k; (case l => k_is); (case c => k_is); (case k => k_is)))
    (case a_is_summer => k_is)
    (case l_is_summer => (refine' Pw.fnFact ?l ?c ?k; (case l => k_is); (case c => k_is); (case k => k_is)))
    (case a_plain_decree => k_is)
    (case l_plain_decree => (refine' Pw.fnFact ?l ?c ?k; (case l => k_is); (case c => k_is); (case k => k_is)))
    (case a_summer_decree => k_is)
    (case l_summer_decree => (refine' Pw.fnFact ?l ?c ?k; (case l => k_is); (case c => k_is); (case k => k_is)))
    (case a_since_of => k_is)
    (case l_since_of => (refine' Pw.fnFact ?l ?c ?k; (case l => k_is); (case c => k_is); (case k => k_is)))
    (case a_offset_of => k_is)
    (case l_offset_of => (refine' Pw.fnFact ?l ?c ?k; (case l => k_is); (case c => k_is); (case k => k_is)))
    (case a_has_summer => k_is)
    (case l_has_summer => (refine' Pw.fnFact ?l ?c ?k; (case l => k_is); (case c => k_is); (case k => k_is)))
    (case a_ahead_by => k_is)
    (case l_ahead_by => (refine' Pw.fnFact ?l ?c ?k; (case l => k_is); (case c => k_is); (case k => k_is)))
    (case a_in_force => k_is)
    (case l_in_force => (refine' Pw.fnFact ?l ?c ?k; (case l => k_is); (case c => k_is); (case k => k_is)))
    (case a_has_since => k_is)
    (case l_has_since => (refine' Pw.fnFact ?l ?c ?k; (case l => k_is); (case c => k_is); (case k => k_is)))
    (case a_with_decree => k_is)
    (case l_with_decree => (refine' Pw.fnFact ?l ?c ?k; (case l => k_is); (case c => k_is); (case k => k_is)))
    (case a_without_since => k_is)
    (case l_without_since => (refine' Pw.fnFact ?l ?c ?k; (case l => k_is); (case c => k_is); (case k => k_is)))
    (case a_year_spans => k_is)
    (case l_year_spans => (refine' Pw.fnFact ?l ?c ?k; (case l => k_is); (case c => k_is); (case k => k_is)))
    (case a_decree_spans => k_is)
    (case l_decree_spans => (refine' Pw.fnFact ?l ?c ?k; (case l => k_is); (case c => k_is); (case k => k_is)))
    (case a_place_spans => k_is)
    (case l_place_spans => (refine' Pw.fnFact ?l ?c ?k; (case l => k_is); (case c => k_is); (case k => k_is)))
    (case a_ahead_at => k_is)
    (case l_ahead_at => (refine' Pw.fnFact ?l ?c ?k; (case l => k_is); (case c => k_is); (case k => k_is)))
    (case a_shows_numbers => k_is)
    (case l_shows_numbers => (refine' Pw.fnFact ?l ?c ?k; (case l => k_is); (case c => k_is); (case k => k_is)))
    (case a_moments_within => k_is)
    (case l_moments_within => (refine' Pw.fnFact ?l ?c ?k; (case l => k_is); (case c => k_is); (case k => k_is)))
    (case a_first_beyond => k_is)
    (case l_first_beyond => (refine' Pw.fnFact ?l ?c ?k; (case l => k_is); (case c => k_is); (case k => k_is)))
    (case a_moments_showing => k_is)
    (case l_moments_showing => (refine' Pw.fnFact ?l ?c ?k; (case l => k_is); (case c => k_is); (case k => k_is)))
    (case a_meant_numbers => k_is)
    (case l_meant_numbers => (refine' Pw.fnFact ?l ?c ?k; (case l => k_is); (case c => k_is); (case k => k_is)))
    (case a_change_numbers => k_is)
    (case l_change_numbers => (refine' Pw.fnFact ?l ?c ?k; (case l => k_is); (case c => k_is); (case k => k_is)))
    (case m_init => k_is)
    (case i_init => k_is)
    (case l_init => (refine' Pw.fnFact ?l ?c ?k; (case l => k_is); (case c => k_is); (case k => k_is)))
    (case m_has_place => k_is)
    (case i_has_place => k_is)
    (case l_has_place => (refine' Pw.fnFact ?l ?c ?k; (case l => k_is); (case c => k_is); (case k => k_is)))
    (case m_has_kept => k_is)
    (case i_has_kept => k_is)
    (case l_has_kept => (refine' Pw.fnFact ?l ?c ?k; (case l => k_is); (case c => k_is); (case k => k_is)))
    (case m_decrees_of => k_is)
    (case i_decrees_of => k_is)
    (case l_decrees_of => (refine' Pw.fnFact ?l ?c ?k; (case l => k_is); (case c => k_is); (case k => k_is)))
    (case m_add_place => k_is)
    (case i_add_place => k_is)
    (case l_add_place => (refine' Pw.fnFact ?l ?c ?k; (case l => k_is); (case c => k_is); (case k => k_is)))
    (case m_give_decrees => k_is)
    (case i_give_decrees => k_is)
    (case l_give_decrees => (refine' Pw.fnFact ?l ?c ?k; (case l => k_is); (case c => k_is); (case k => k_is)))
    (case m_add_kept => k_is)
    (case i_add_kept => k_is)
    (case l_add_kept => (refine' Pw.fnFact ?l ?c ?k; (case l => k_is); (case c => k_is); (case k => k_is)))
    (case a_do_place => k_is)
    (case l_do_place => (refine' Pw.fnFact ?l ?c ?k; (case l => k_is); (case c => k_is); (case k => k_is)))
    (case a_put_decree => k_is)
    (case l_put_decree => (refine' Pw.fnFact ?l ?c ?k; (case l => k_is); (case c => k_is); (case k => k_is)))
    (case a_do_decree => k_is)
    (case l_do_decree => (refine' Pw.fnFact ?l ?c ?k; (case l => k_is); (case c => k_is); (case k => k_is)))
    (case a_do_summer => k_is)
    (case l_do_summer => (refine' Pw.fnFact ?l ?c ?k; (case l => k_is); (case c => k_is); (case k => k_is)))
    (case a_do_drop => k_is)
    (case l_do_drop => (refine' Pw.fnFact ?l ?c ?k; (case l => k_is); (case c => k_is); (case k => k_is)))
    (case a_do_offset => k_is)
    (case l_do_offset => (refine' Pw.fnFact ?l ?c ?k; (case l => k_is); (case c => k_is); (case k => k_is)))
    (case a_do_shows => k_is)
    (case l_do_shows => (refine' Pw.fnFact ?l ?c ?k; (case l => k_is); (case c => k_is); (case k => k_is)))
    (case a_do_moments => k_is)
    (case l_do_moments => (refine' Pw.fnFact ?l ?c ?k; (case l => k_is); (case c => k_is); (case k => k_is)))
    (case a_do_meant => k_is)
    (case l_do_meant => (refine' Pw.fnFact ?l ?c ?k; (case l => k_is); (case c => k_is); (case k => k_is)))
    (case a_do_change => k_is)
    (case l_do_change => (refine' Pw.fnFact ?l ?c ?k; (case l => k_is); (case c => k_is); (case k => k_is)))
    (case a_do_keep => k_is)
    (case l_do_keep => (refine' Pw.fnFact ?l ?c ?k; (case l => k_is); (case c => k_is); (case k => k_is)))
    (case a_meant_by_kept => k_is)
    (case l_meant_by_kept => (refine' Pw.fnFact ?l ?c ?k; (case l => k_is); (case c => k_is); (case k => k_is)))
    (case a_do_when => k_is)
    (case l_do_when => (refine' Pw.fnFact ?l ?c ?k; (case l => k_is); (case c => k_is); (case k => k_is)))
    (case a_do_there => k_is)
    (case l_do_there => (refine' Pw.fnFact ?l ?c ?k; (case l => k_is); (case c => k_is); (case k => k_is)))
    (case a_do_ahead => k_is)
    (case l_do_ahead => (refine' Pw.fnFact ?l ?c ?k; (case l => k_is); (case c => k_is); (case k => k_is)))
    (case a_answer_to => k_is)
    (case l_answer_to => (refine' Pw.fnFact ?l ?c ?k; (case l => k_is); (case c => k_is); (case k => k_is)))
    (case a_parted => k_is)
    (case l_parted => (refine' Pw.fnFact ?l ?c ?k; (case l => k_is); (case c => k_is); (case k => k_is)))
    (case a_answers => k_is)
    (case l_answers => (refine' Pw.fnFact ?l ?c ?k; (case l => k_is); (case c => k_is); (case k => k_is)))
    (case g_MONTH_LENGTHS => k_is)
    (case v_MONTH_LENGTHS => (refine' Pw.tup_mk ?l ?z ?v; (case l => k_is); (case z => rw [sizeLine_eq]; decide); (case v => exact (.cons ⟨_, rfl⟩ (.cons ⟨_, rfl⟩ (.cons ⟨_, rfl⟩ (.cons ⟨_, rfl⟩ (.cons ⟨_, rfl⟩ (.cons ⟨_, rfl⟩ (.cons ⟨_, rfl⟩ (.cons ⟨_, rfl⟩ (.cons ⟨_, rfl⟩ (.cons ⟨_, rfl⟩ (.cons ⟨_, rfl⟩ (.cons ⟨_, rfl⟩ .nil)))))))))))))))
    (case g_PLAIN => k_is)
    (case v_PLAIN => (refine' Pw.tup_mk ?l ?z ?v; (case l => k_is); (case z => rw [sizeLine_eq]; decide); (case v => exact (.cons ⟨_, rfl⟩ (.cons ⟨_, rfl⟩ (.cons ⟨_, rfl⟩ (.cons ⟨_, rfl⟩ (.cons ⟨_, rfl⟩ (.cons ⟨_, rfl⟩ (.cons ⟨_, rfl⟩ (.cons ⟨_, rfl⟩ (.cons ⟨_, rfl⟩ (.cons ⟨_, rfl⟩ (.cons ⟨_, rfl⟩ (.cons ⟨_, rfl⟩ (.cons ⟨_, rfl⟩ .nil))))))))))))))))
    (case g_ROWS => k_is)
    (case v_ROWS => (refine' Pw.tup_mk ?l ?z ?v; (case l => k_is); (case z => rw [sizeLine_eq]; decide); (case v => exact (.cons ⟨_, rfl⟩ (.cons ⟨_, rfl⟩ (.cons ⟨_, rfl⟩ (.cons ⟨_, rfl⟩ (.cons ⟨_, rfl⟩ (.cons ⟨_, rfl⟩ (.cons ⟨_, rfl⟩ (.cons ⟨_, rfl⟩ (.cons ⟨_, rfl⟩ (.cons ⟨_, rfl⟩ (.cons ⟨_, rfl⟩ (.cons ⟨_, rfl⟩ (.cons ⟨_, rfl⟩ .nil))))))))))))))))
    (case g_DEEDS => k_is)
    (case v_DEEDS => (refine' Pw.tup_mk ?l ?z ?v; (case l => k_is); (case z => rw [sizeLine_eq]; decide); (case v => exact (.cons rfl (.cons rfl (.cons rfl (.cons rfl (.cons rfl (.cons rfl (.cons rfl (.cons rfl (.cons rfl (.cons rfl (.cons rfl (.cons rfl (.cons rfl .nil))))))))))))))))
  case S =>
    intro K H xs a hO hwi hask hx
    cases hx with
    | cons h1 h2 =>
      cases h2
      cases h1 with
      | lst hs ha =>
        have e := L2.ints_dw a.1 _ ha
        subst e
        have q : ((PySem.W.Codec.inLen 0 1400 a.1 && a.1.all (PySem.W.Codec.inInt (-100000) 60000000)) && true) = true := hwi
        rw [Bool.and_eq_true, Bool.and_eq_true] at q
        exact ⟨_, a.1, rfl, hs, (PySem.W.Codec.inNat_iff.mp q.1.1).2, hask, fun H' p hp => .lst (L2.SqL.of hp) (L2.dw_ints _)⟩
#print axioms PySem.Challenge.cw_placeclocks_s01_answers_holds
